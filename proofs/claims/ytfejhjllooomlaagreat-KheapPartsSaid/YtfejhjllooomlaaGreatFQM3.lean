/- Plain laws (3). -/
import Derived.Test.YtfejhjllooomlaaGreatFQM2
import Derived.Test.YtfejhjllooomlaaGreatFQS1
namespace Go.Proofs.YtfejhjllooomlaaGreat
open Go.Vm Classical
theorem R7 (c:aH) (n:Int) (hl:c.due.length<=1000000):(∀k,k<c.due.length->(c.due[k]!).1=n->(∀j,j<k->(c.due[j]!).1≠n)->sD c n=some (k:Int))/\((∀k,k<c.due.length->(c.due[k]!).1≠n)->sD c n=some (-1)):=by
 unfold sD;refine jC (body:=oX) (fun i=>(n,(i:Int),c.now.1,c.now.2,c.field.points,c.certs.next_,c.certs.list,c.agenda.slots.uses,c.agenda.slots.used,c.agenda.slots.free,c.agenda.heap,c.agenda.where_,c.due)) c.due.length (fun i=>(c.due[i]!).1=n) (fun i=>(i:Int)) (fun i hi=>?_) ?_
 · have e1:decide ((i:Int)<(c.due.length:Int))=true:=aR (by omega)
   unfold oX;simp only [aE,e1,cond_true,aC c.due i hi,aB,bD (show i<1000000000 by omega)]
   constructor
   · intro h;rw [fM h];rfl
   · intro h;rw [fR h];rfl
 · unfold oX
   have:decide ((c.due.length:Int)<(c.due.length:Int))=false:=aM (by omega)
   simp only [aE,this,cond_false]
theorem M5 {ds:List sH} (hu:Up ds) (hl:ds.length<=1000000) (n:Int):(∀k,k<ds.length->(ds[k]!).1=n->mA ds n=some ((k:Int),true))/\((∀k,k<ds.length->(ds[k]!).1≠n)-> ∃m:Nat,mA ds n=some ((m:Int),false)):=by
 have bs:=IT ds n hl (tL.1 hu);unfold mA;rw [aLQ];constructor
 · intro k hk he;rw [bs.1 k hk he];rfl
 · intro h
   obtain ⟨m,_,_,_,e⟩:=bs.2 h;exact ⟨m,by rw [e];rfl⟩
theorem aZ.bd {c:aH} (ok:aZ c):c.due.length<=200/\c.field.points.length<=64/\c.certs.list.length<=200:=by
 have:=ok.hd;have:=ok.agd.bd;have:=ok.fld.1;have:=ok.crt.len
 omega
theorem jJ {c:aH} (ok:aZ c):qA c=some c:=by
 have bd:=ok.bd;unfold qA zI zJ;simp only [bI (show c.field.points.length<=1048576 by omega),bI (show c.certs.list.length<=1048576 by omega),bI (show c.due.length<=1048576 by omega),aB,rA ok.agd]
theorem gC {c:aH} (ok:aZ c):gS c=some c:=by
 have bd:=ok.bd;have ab:=ok.agd.bd;have hl:=ok.agd.so.fl;have hn:=ok.agd.so.n2;have hu:=ok.agd.so.ul;unfold gS;simp only [bI (show c.field.points.length<=1048576 by omega),bI (show c.certs.list.length<=1048576 by omega),bI (show c.due.length<=1048576 by omega),bI (show c.agenda.heap.length<=1048576 by omega),bI (show c.agenda.where_.length<=1048576 by omega),
  bI (show c.agenda.slots.uses.length<=1048576 by omega),bI (show c.agenda.slots.used.length<=1048576 by omega),bI (show c.agenda.slots.free.length<=1048576 by omega),aB]
theorem tM {cs:List sH} {i:Nat} (hu:Up cs) (hi:i<cs.length) {x:sH} (hx:x∈cs.eraseIdx i):x∈cs/\x.1≠(cs[i]!).1:=by
 rw [uO,List.mem_append] at hx;have ub:=tL.1 hu;rcases hx with hx|hx
 · obtain ⟨j,h1,h2,rfl⟩:=cT.1 hx
   have:=ub j i h1 hi
   exact ⟨bL h2,by omega⟩
 · obtain ⟨j,hj,rfl⟩:=aY.1 hx
   rw [List.length_drop] at hj;rw [tP]
   have:=ub i (i+1+j) (by omega) (by omega)
   exact ⟨bL (by omega),by omega⟩
theorem BV {c:aH} (ok:aZ c) (i:Nat) (hi:i<c.certs.list.length): ∀j,j<(mQ c.certs i).list.length->lI c.field.points ((mQ c.certs i).list[j]!).2:=by
 intro j hj;have hm:(mQ c.certs i).list[j]!∈c.certs.list:=(tM ok.crt_up hi (bL hj)).1;obtain ⟨m,hm1,hm2⟩:=aY.1 hm;rw [<- hm2];exact ok.known m hm1
theorem aAJ {c:aH} (ok:aZ c) {i:Nat} (hi:i<c.certs.list.length):
 ∃c':aH,fX c (c.certs.list[i]!).1=some (c',(c.certs.list[i]!).2,0)/\qB c (c.certs.list[i]!).1=some c'/\aZ c'/\c'.field=c.field/\c'.now=c.now/\c'.certs=mQ c.certs i:=by
 have bd:=ok.bd;have rm:=LH ok.crt hi (n:=(c.certs.list[i]!).1) rfl;have wo:=G1 ok.crt hi (n:=(c.certs.list[i]!).1) rfl;have fe:=ok.fol.erase (i:=i) hi;have pd:=M5 ok.due_up (by omega) (c.certs.list[i]!).1
 have da:=R7 c (c.certs.list[i]!).1 (by omega)
 cases hf:(bG c.field.points (c.certs.list[i]!).2 c.now).2 with
 |false=>
  have no: ∀k,k<c.due.length->(c.due[k]!).1≠(c.certs.list[i]!).1:=by
   intro k hk he;obtain ⟨x,hx,h1,h2,_⟩:=ok.fol.due _ (bL hk);obtain ⟨j,hj,rfl⟩:=aY.1 hx;have ub:=tL.1 ok.crt_up
   have:j=i:=by
    rcases Nat.lt_trichotomy j i with h|h|h
    · have:=ub j i h hi;omega
    · exact h
    · have:=ub i j h hj;omega
   rw [this,hf] at h2;cases h2
  refine ⟨⟨c.now,c.field,mQ c.certs i,c.agenda,c.due⟩,?_,?_,?_,rfl,rfl,rfl⟩
  · unfold fX
    obtain ⟨m,e⟩:=pd.2 no;simp only [rm,aB,show ((0:Int) !=0)=false from rfl,cond_false,gC ok,e]
  · unfold qB
    simp only [jJ ok,aB,wo,da.2 no,aM (show¬(0:Int)<= -1 by omega),cond_false]
  · exact ⟨ok.nowv,ok.now64,ok.fld,LG ok.crt hi,ok.agd,ok.w200,ok.hd,BV ok i hi,fe.1 hf⟩
 |true=>
  obtain ⟨k,hk,k1,k2,k3⟩:=fe.2 hf;obtain ⟨w,hw,hev⟩:=aY.1 k2;have hh:(c.agenda.heap[w]!).2.2.2=(c.due[k]!).2:=by rw [hev]
  have ub:=tL.1 ok.due_up;have before: ∀j,j<k->(c.due[j]!).1≠(c.certs.list[i]!).1:=fun j hj he=>by have:=ub j k hj hk;omega
  have dl:(c.due.eraseIdx k).length=c.due.length-1:=V8 hk;obtain ⟨L,d1,d2⟩:=HP c.due k hk;refine ⟨⟨c.now,c.field,mQ c.certs i,dV c.agenda w,c.due.eraseIdx k⟩,?_,?_,?_,rfl,rfl,rfl⟩
  · unfold fX
    simp only [rm,aB,show ((0:Int) !=0)=false from rfl,cond_false,gC ok,pd.1 k hk k1,cond_true,aC c.due k hk,xQ ok.agd hw ok.agd.fit hh,bD (show k<1000000000 by omega),T8,d1,d2]
  · unfold qB
    have s1:iP c.due 0 (k:Int)=some (c.due.take k):=qF c.due k (by omega)
    have s2:iP c.due ((k+1:Nat):Int) (c.due.length:Int)=some (c.due.drop (k+1)):=by
     unfold iP;rw [if_pos ⟨by omega,by omega,by omega⟩]
     simp only [Int.toNat_natCast];rw [List.take_of_length_le (by rw [List.length_drop];exact Nat.le_refl _)]
    have tl:(c.due.take k).length=k:=by rw [List.length_take];omega
    have dl2:(c.due.drop (k+1)).length=c.due.length- (k+1):=List.length_drop;simp only [jJ ok,aB,wo,da.1 k hk k1 before,aR (show (0:Int)<=(k:Int) by omega),cond_true,aC c.due k hk,xR ok.agd hw hh,s1,bI (show (c.due.take k).length<=1048576 by omega),bD (show k<1000000000 by omega),aE,s2,
     eU (show (c.due.take k).length+(c.due.drop (k+1)).length<=1048576 by omega),uO]
    cases hem:(c.due.drop (k+1)).isEmpty with
    |true=>
     rw [List.isEmpty_iff] at hem;rw [hem,List.append_nil];rfl
    |false=>rfl
  · have rem:=GY ok.agd hw
    have rmem:=LC ok.agd hw;have hlen:(dV c.agenda w).heap.length=c.agenda.heap.length-1:=by
     have h1:=rem.hl;have h2:=ok.agd.hl;have h3:(dV c.agenda w).slots=fA c.agenda.slots (c.agenda.heap[w]!).2.2.2:=by unfold dV;split<;>rfl
     rw [h3] at h1;change _+(c.agenda.slots.free++[_]).length=c.agenda.slots.uses.length at h1;rw [List.length_append] at h1;simp only [List.length_cons,List.length_nil] at h1;omega
    have wlen:(dV c.agenda w).where_.length=200:=by
     have h1:=rem.wl;have h3:(dV c.agenda w).slots=fA c.agenda.slots (c.agenda.heap[w]!).2.2.2:=by unfold dV;split<;>rfl
     rw [h3] at h1;change _=c.agenda.slots.uses.length at h1;rw [h1,<- ok.agd.wl,ok.w200]
    refine ⟨ok.nowv,ok.now64,ok.fld,LG ok.crt hi,rem,wlen,?_,BV ok i hi,?_⟩
    · show (dV c.agenda w).heap.length=(c.due.eraseIdx k).length
      rw [hlen,dl,ok.hd]
    · refine k3.mono fun x hx e he hm=>(rmem e).2 ⟨hm,fun h=>?_⟩
      have:=(tM ok.crt_up hi hx).2
      rw [h,hev] at he;exact this he.symm
theorem IE {c:aH} (ok:aZ c) {i:Nat} (_hi:i<c.certs.list.length) {c':aH} (h:fX c (c.certs.list[i]!).1=some (c',(c.certs.list[i]!).2,0)):tF c (c.certs.list[i]!).1=some (c',0):=by
 unfold tF;rw [mH ok.fit,if_pos ok];simp only [aB,show ((0:Int) !=0)=false from rfl,cond_false,h]
end Go.Proofs.YtfejhjllooomlaaGreat
namespace Go.Proofs.YtfejhjllooomlaaGreat
open Go.Vm Classical
abbrev fQ:aH:=⟨(0,0),⟨[]⟩,⟨0,[]⟩,⟨⟨[],[],[]⟩,[],[]⟩,[]⟩
theorem OW {l:List Pt} (ok:fO l) {id:Int} (h:tK l id): ¬(fU l id).1<0:=by
 obtain ⟨h1,_⟩:=eN ok h
 have:=h1.1
 omega
theorem aGA {c:aH} (ok:aZ c) {x:Int×Int} (hx:jD x) (hb:lI c.field.points x) (hn: ¬uP c.certs.list x):
 (hZ c x=some (fQ,0,18)/\mD c x=some (fQ,0,18)/\(FV c.certs\/ ¬AH c.agenda.slots))\/
 ∃c':aH,hZ c x=some (c',c.certs.next_,0)/\mD c x=some (c',c.certs.next_,0)/\aZ c'/\c'.field=c.field/\c'.now=c.now/\c'.certs=pB c.certs x/\(c'.agenda.slots=c.agenda.slots\/c'.agenda.slots=gG c.agenda.slots):=by
 have bd:=ok.bd;have n0:=ok.crt.n0;have n1:=ok.crt.n1;have fit:=ok.fit;have ad:=R2 ok.crt hx;have rd:=OU ok.crt hx;rw [if_neg hn] at ad rd;have hc:hY c=some 0:=by rw [mH fit,if_pos ok]
 have p1:=mG ok.fld x.1;have p2:=mG ok.fld x.2;have q1:=OW ok.fld hb.1;have q2:=OW ok.fld hb.2;have wh:=wR ok.fld hx ok.nowv ok.now64;rw [if_pos hb] at wh;have rw':=wS ok.fld ok.now64 hb
 by_cases hf:FV c.certs
 · rw [if_pos hf] at ad rd
   left;refine ⟨?_,?_,.inl hf⟩
   · unfold hZ cW
     simp only [hc,aB,show ((0:Int) !=0)=false from rfl,cond_false,ad,show ((18:Int)==8)=false from rfl,p1,p2,aM q1,aM q2,show ((18:Int) !=0)=true from rfl,cond_true]
   · unfold mD
     simp only [rd,aB,show ((18:Int) !=0)=true from rfl,cond_true]
 rw [if_neg hf] at ad rd;have cok:=UA ok.crt hx hn hf;have known': ∀j,j<(pB c.certs x).list.length->lI c.field.points ((pB c.certs x).list[j]!).2:=by
  intro j hj;rw [CP] at hj;rw [uQ]
  by_cases h:j<c.certs.list.length
  · rw [if_pos h];exact ok.known j h
  · rw [if_neg h,if_pos (by omega)];exact hb
 have fresh: ∀e∈c.agenda.heap,Ev.num e≠c.certs.next_:=by
  intro e he hne;obtain ⟨d,hd,h1⟩:=ok.nums e he;obtain ⟨y,hy,h2,_⟩:=ok.fol.due d hd;obtain ⟨j,hj,rfl⟩:=aY.1 hy
  have:=(ok.crt.nr j hj).2
  omega
 have sn:=ok.fol.snoc (x:=(c.certs.next_,x));cases hw:(bG c.field.points x c.now).2 with
 |false=>
  right;refine ⟨⟨c.now,c.field,pB c.certs x,c.agenda,c.due⟩,?_,?_,⟨ok.nowv,ok.now64,ok.fld,cok,ok.agd,ok.w200,ok.hd,known',sn.1 hw⟩,rfl,rfl,rfl,.inl rfl⟩
  · unfold hZ cW
    simp only [hc,aB,show ((0:Int) !=0)=false from rfl,cond_false,ad,show ((0:Int)==8)=false from rfl,p1,p2,aM q1,aM q2,gC ok,wh,hw]
  · unfold mD
    simp only [rd,aB,show ((0:Int) !=0)=false from rfl,cond_false,jJ ok,rw',hw,Bool.not_false,cond_true]
 |true=>
  obtain ⟨t1,t2⟩:=FN (eN ok.fld hb.2).1 (eN ok.fld hb.1).1 ok.now64 ok.nowv hw
  by_cases op:AH c.agenda.slots
  · right
    have pu:=xN ok.agd op ok.agd.fit (t:=(bG c.field.points x c.now).1) (n:=c.certs.next_) t1 t2 n0 n1 fresh;have rp:=AI ok.agd op (t:=(bG c.field.points x c.now).1) (n:=c.certs.next_) t1 t2 n0 n1;have pok:=V6 ok.agd op (t:=(bG c.field.points x c.now).1) (n:=c.certs.next_) t1 t2 n0 n1 fresh
    have pmem:=RX ok.agd op (t:=(bG c.field.points x c.now).1) (n:=c.certs.next_) t1;have plen:=FT ok.agd op (t:=(bG c.field.points x c.now).1) (n:=c.certs.next_) t1;have ap: ∀h:Int×Int,bR c.due [(c.certs.next_,h)]=some (c.due++[(c.certs.next_,h)]):=fun h=>eU (by simp;omega)
    have wlen:(lC c.agenda (bG c.field.points x c.now).1 c.certs.next_).where_.length=200:=by
     have:=pok.wl
     change _=(c.agenda.slots.uses.set _ _).length at this;rw [List.length_set] at this;rw [this,<- ok.agd.wl,ok.w200]
    refine ⟨⟨c.now,c.field,pB c.certs x,lC c.agenda (bG c.field.points x c.now).1 c.certs.next_,c.due++[(c.certs.next_,lB c.agenda.slots)]⟩,?_,?_,⟨ok.nowv,ok.now64,ok.fld,cok,pok,wlen,?_,known',?_⟩,rfl,rfl,rfl,.inr rfl⟩
    · unfold hZ cW
      simp only [hc,aB,show ((0:Int) !=0)=false from rfl,cond_false,ad,show ((0:Int)==8)=false from rfl,p1,p2,aM q1,aM q2,gC ok,wh,hw,cond_true,pu,ap]
    · unfold mD
      simp only [rd,aB,show ((0:Int) !=0)=false from rfl,cond_false,jJ ok,rw',hw,Bool.not_true,qZ ok.agd.so,aR op,rp,ap]
    · show (lC c.agenda (bG c.field.points x c.now).1 c.certs.next_).heap.length=(c.due++[_]).length
      rw [plen,List.length_append,ok.hd];rfl
    · have fm:aX c.field.points c.now (lC c.agenda (bG c.field.points x c.now).1 c.certs.next_).heap c.certs.list c.due:=ok.fol.mono fun y hy e he hm=>(pmem e).2 (.inr hm)
      exact (fm.snoc (x:=(c.certs.next_,x))).2 _ hw rfl ((pmem _).2 (.inl rfl))
  · left
    have pu:=xO ok.agd op ok.agd.fit (t:=(bG c.field.points x c.now).1) (n:=c.certs.next_) t1 t2 n0 n1 fresh;refine ⟨?_,?_,.inr op⟩
    · unfold hZ cW
      simp only [hc,aB,show ((0:Int) !=0)=false from rfl,cond_false,ad,show ((0:Int)==8)=false from rfl,p1,p2,aM q1,aM q2,gC ok,wh,hw,cond_true,pu,show ((18:Int) !=0)=true from rfl]
    · unfold mD
      simp only [rd,aB,show ((0:Int) !=0)=false from rfl,cond_false,jJ ok,rw',hw,Bool.not_true,qZ ok.agd.so,aM op,Bool.not_false,cond_true]
end Go.Proofs.YtfejhjllooomlaaGreat
namespace Go.Proofs.YtfejhjllooomlaaGreat
open Go.Vm Classical
theorem Up.inj {cs:List sH} (h:Up cs) {x y:sH} (hx:x∈cs) (hy:y∈cs) (he:x.1=y.1):x=y:=by
 obtain ⟨i,hi,rfl⟩:=aY.1 hx;obtain ⟨j,hj,rfl⟩:=aY.1 hy;have ub:=tL.1 h;rcases Nat.lt_trichotomy i j with h1|h1|h1
 · have:=ub i j h1 hj;omega
 · rw [h1]
 · have:=ub j i h1 hi;omega
structure LK (c:aH) (f:List Pt) (i k:Nat) (a:aG) (ds:List sH):Prop where
 ok:eB a
 w2:a.where_.length=200
 new:aX f c.now a.heap (c.certs.list.take i) ds
 old:aX c.field.points c.now a.heap (c.certs.list.drop i) (c.due.drop k)
 kl:k<=c.due.length
 cnt:a.heap.length=ds.length+(c.due.length-k)
theorem aLR {a:aG} (ok:eB a) {w:Nat} (hw:w<a.heap.length):(dV a w).heap.length=a.heap.length-1/\(dV a w).where_.length=a.where_.length:=by
 have rem:=GY ok hw;have h3:(dV a w).slots=fA a.slots (a.heap[w]!).2.2.2:=by unfold dV;split<;>rfl
 have h1:=rem.hl;have h2:=ok.hl;have h4:=rem.wl;rw [h3] at h1 h4;change _+(a.slots.free++[_]).length=a.slots.uses.length at h1;change _=a.slots.uses.length at h4;rw [List.length_append] at h1;simp only [List.length_cons,List.length_nil] at h1;exact ⟨by omega,by rw [h4,ok.wl]⟩
theorem aGB {a:aG} {t:Int×Int} {n:Int} (ok:eB a) (pok:eB (lC a t n)):(lC a t n).where_.length=a.where_.length:=by
 have:=pok.wl
 change _=(a.slots.uses.set _ _).length at this;rw [List.length_set] at this;rw [this,ok.wl]
section
variable {c : aH} (ok : aZ c) {f : List Pt} (fok : fO f) (kn : ∀ i, i < c.certs.list.length -> lI f (c.certs.list[i]!).2)
include ok
theorem FW {i:Nat} {x:sH} (hx:x∈c.certs.list.take i) (hi:i<c.certs.list.length):x.1≠(c.certs.list[i]!).1:=by
 obtain ⟨j,h1,h2,rfl⟩:=cT.1 hx
 have:=ok.crt.up j i h1 hi
 omega
theorem FX {i:Nat} {x:sH} (hx:x∈c.certs.list.drop (i+1)) (hi:i<c.certs.list.length):x.1≠(c.certs.list[i]!).1:=by
 obtain ⟨j,h1,rfl⟩:=aY.1 hx;rw [List.length_drop] at h1;rw [tP]
 have:=ok.crt.up i (i+1+j) (by omega) (by omega)
 omega
theorem XV {i k:Nat} {a:aG} {ds:List sH} (inv:LK c f i k a ds) (hi:i<c.certs.list.length) (was:(bG c.field.points (c.certs.list[i]!).2 c.now).2=false): ∀e∈a.heap,Ev.num e≠(c.certs.list[i]!).1:=by
 have u1:Up (c.certs.list.take i):=ok.crt_up.sublist (List.take_sublist _ _);have u2:Up (c.certs.list.drop i):=ok.crt_up.sublist (List.drop_sublist _ _);have d1:=inv.new.up u1;have d2:=inv.old.up u2;have cross: ∀x∈ds,∀y∈c.due.drop k,x.1<y.1:=by
  intro x hx y hy;obtain ⟨p,hp,h1,_⟩:=inv.new.due x hx;obtain ⟨q,hq,h2,_⟩:=inv.old.due y hy;obtain ⟨m,m1,m2,rfl⟩:=cT.1 hp;obtain ⟨n,n1,rfl⟩:=aY.1 hq;rw [List.length_drop] at n1;rw [tP] at h2
  have:=ok.crt.up m (i+n) (by omega) (by omega)
  omega
 have nd:((ds++c.due.drop k).map fun x=>x.1).Nodup:=R6 (by
  show List.Pairwise _ _;rw [List.pairwise_append];exact ⟨d1,d2,cross⟩)
 have only:=HQ (H:=a.heap) nd (by rw [List.length_map,List.length_append,List.length_drop,inv.cnt];exact Nat.le_refl _) (fun n hn=>by
  obtain ⟨x,hx,rfl⟩:=List.mem_map.1 hn;rcases List.mem_append.1 hx with hx|hx
  · obtain ⟨p,hp,h1,h2,h3⟩:=inv.new.due x hx
    exact ⟨_,h3,h1.symm⟩
  · obtain ⟨p,hp,h1,h2,h3⟩:=inv.old.due x hx
    exact ⟨_,h3,h1.symm⟩)
 intro e he hne;obtain ⟨x,hx,h1⟩:=List.mem_map.1 (only e he);rcases List.mem_append.1 hx with hx|hx
 · obtain ⟨p,hp,h2,_⟩:=inv.new.due x hx
   exact FW ok hp hi (by rw [<- h2,h1,hne])
 · obtain ⟨p,hp,h2,h3,_⟩:=inv.old.due x hx
   have hp':p∈c.certs.list:=List.mem_of_mem_drop hp
   have:=ok.crt_up.inj hp' (bL hi) (by rw [<- h2,h1,hne])
   rw [this,was] at h3;cases h3
def XW (c:aH) (f:List Pt) (i:Nat) (a:aG) (ds:List sH):=
 (c.certs.list,(c.certs.list.length:Int),(i:Int),c.now.1,c.now.2,c.field.points,c.certs.next_,c.certs.list,c.agenda.slots.uses,c.agenda.slots.used,c.agenda.slots.free,c.agenda.heap,c.agenda.where_,c.due,f,(0:Int),(0:Int),(0:Int),c.now.1,c.now.2,c.certs.next_,c.certs.list,a.slots.uses,a.slots.used,a.slots.free,a.heap,a.where_,f,ds)
def XX (c:aH) (f:List Pt) (i:Nat) (a:aG) (ds:List sH):=
 ((i:Int),c.now.1,c.now.2,c.field.points,c.certs.next_,c.certs.list,c.agenda.slots.uses,c.agenda.slots.used,c.agenda.slots.free,c.agenda.heap,c.agenda.where_,c.due,f,(0:Int),(0:Int),(0:Int),c.now.1,c.now.2,f,c.certs.next_,c.certs.list,a.slots.uses,a.slots.used,a.slots.free,a.heap,a.where_,ds)
include fok kn
theorem aAK {i k:Nat} {a:aG} {ds:List sH} (inv:LK c f i k a ds) (hi:i<c.certs.list.length) (hds:ds.length<=i):
 (cX (XW c f i a ds)=some (.done (.done (fQ,18)))/\cC (XX c f i a ds)=some (.done (fQ,18)))\/
 ∃k' a' ds',cX (XW c f i a ds)=some (.next (XW c f (i+1) a' ds'))/\cC (XX c f i a ds)=some (.next (XX c f (i+1) a' ds'))/\LK c f (i+1) k' a' ds'/\ds'.length<=i+1:=by
 have bd:=ok.bd;have e1:decide ((i:Int)<(c.certs.list.length:Int))=true:=aR (by omega)
 have sc:=bD (show i<1000000000 by omega)
 have cg:=aC c.certs.list i hi;have hb:=kn i hi;have wn:=wR fok (x:=(c.certs.list[i]!).2) (t:=(c.now.1,c.now.2)) (ok.crt.cv i hi) ok.nowv ok.now64;rw [if_pos hb] at wn;have wr:=wS fok (x:=(c.certs.list[i]!).2) (t:=(c.now.1,c.now.2)) ok.now64 hb;have pd:=M5 ok.due_up (by omega) (c.certs.list[i]!).1
 have da:=R7 c (c.certs.list[i]!).1 (by omega)
 have dr:=tR hi;have tk:=kH hi;have old:=inv.old;rw [dr] at old;have aeta:aG.mk (aS.mk a.slots.uses a.slots.used a.slots.free) a.heap a.where_=a:=rfl
 have ceta:(aH.mk (c.now.1,c.now.2) (Field.mk c.field.points) (aW.mk c.certs.next_ c.certs.list) (aG.mk (aS.mk c.agenda.slots.uses c.agenda.slots.used c.agenda.slots.free) c.agenda.heap c.agenda.where_) c.due)=c:=rfl;have other: ∀x∈c.certs.list.take i,x.1≠(c.certs.list[i]!).1:=fun x hx=>FW ok hx hi
 have other': ∀x∈c.certs.list.drop (i+1),x.1≠(c.certs.list[i]!).1:=fun x hx=>FX ok hx hi
 cases hwas:(bG c.field.points (c.certs.list[i]!).2 c.now).2 with
 |true=>
  obtain ⟨d,ds',hd1,hd2,hd3,hd4⟩:=(aX.cons_true hwas).1 old;have hk:k<c.due.length:=by
   refine Classical.byContradiction fun h=>?_
   rw [List.drop_eq_nil_of_le (by omega)] at hd1
   cases hd1
  have dk:=tR hk;rw [dk] at hd1;injection hd1 with hd5 hd6;subst hd5 hd6;obtain ⟨w,hw,hev⟩:=aY.1 hd3;have hh:(a.heap[w]!).2.2.2=(c.due[k]!).2:=by rw [hev]
  have hnum:Ev.num a.heap[w]! =(c.certs.list[i]!).1:=by rw [hev]
  have before: ∀j,j<k->(c.due[j]!).1≠(c.certs.list[i]!).1:=fun j hj he=>by
   have:=tL.1 ok.due_up j k hj hk
   omega
  have pl:=pd.1 k hk hd2;have dq:=da.1 k hk hd2 before;have gk:=aC c.due k hk;have k0:decide ((0:Int)<=(k:Int))=true:=aR (by omega)
  have ap:bR ds [c.due[k]!]=some (ds++[c.due[k]!]):=eU (by simp;omega)
  cases his:(bG f (c.certs.list[i]!).2 c.now).2 with
  |true=>
   right;have tt:bF (bG f (c.certs.list[i]!).2 c.now).1/\lO (bG f (c.certs.list[i]!).2 c.now).1:=FN (eN fok hb.2).1 (eN fok hb.1).1 ok.now64 ok.nowv his;obtain ⟨t1,t2⟩:=tt;have re:=ID inv.ok inv.ok.fit (t:=(bG f (c.certs.list[i]!).2 c.now).1) hw hh t1 t2;have rr:=GX inv.ok (t:=(bG f (c.certs.list[i]!).2 c.now).1) hw hh t1 t2
   have rok:=aAD inv.ok hw t1 t2;have rmem:=XU inv.ok hw t1;have rlen:=GW inv.ok hw t1;have stay: ∀(cs:List sH),(∀x∈cs,x.1≠(c.certs.list[i]!).1)-> ∀x∈cs,∀e:Ev,e.num=x.1->e∈a.heap->e∈(jT a w (bG f (c.certs.list[i]!).2 c.now).1).heap:=by
    intro cs hcs x hx e he hm;refine (rmem e).2 (.inr ⟨hm,fun h=>hcs x hx ?_⟩)
    rw [<- he,h,hnum]
   refine ⟨k+1,jT a w (bG f (c.certs.list[i]!).2 c.now).1,ds++[c.due[k]!],?_,?_,⟨rok,by rw [rlen.2];exact inv.w2,?_,?_,by omega,?_⟩,by simp;omega⟩
   · unfold cX XW
     simp only [e1,cond_true,cg,aB,wn,pl,his,gk,aeta,re,ap,show ((0:Int) !=0)=false from rfl,cond_false,sc]
   · unfold cC XX
     simp only [aE,e1,cond_true,cg,aB,ceta,dq,wr,his,k0,gk,aeta,rr,ap,Bool.not_true,cond_false,sc]
   · rw [tk]
     exact ((inv.new.mono (stay _ other)).snoc (x:=c.certs.list[i]!)).2 _ his hd2 ((rmem _).2 (.inl (by
      show _=((bG f (c.certs.list[i]!).2 c.now).1.1,(bG f (c.certs.list[i]!).2 c.now).1.2,(a.heap[w]!).2.2);rw [hev])))
   · exact hd4.mono (stay _ other')
   · rw [rlen.1,inv.cnt,List.length_append]
     simp only [List.length_cons,List.length_nil];omega
  |false=>
   right;have rv:=xQ inv.ok hw inv.ok.fit hh;have rr:=xR inv.ok hw hh;have rok:=GY inv.ok hw;have rmem:=LC inv.ok hw;have rlen:=aLR inv.ok hw;have stay: ∀(cs:List sH),(∀x∈cs,x.1≠(c.certs.list[i]!).1)-> ∀x∈cs,∀e:Ev,e.num=x.1->e∈a.heap->e∈(dV a w).heap:=by
    intro cs hcs x hx e he hm;refine (rmem e).2 ⟨hm,fun h=>hcs x hx ?_⟩
    rw [<- he,h,hnum]
   refine ⟨k+1,dV a w,ds,?_,?_,⟨rok,by rw [rlen.2];exact inv.w2,?_,hd4.mono (stay _ other'),by omega,?_⟩,by omega⟩
   · unfold cX XW
     simp only [e1,cond_true,cg,aB,wn,pl,his,gk,aeta,rv,show ((0:Int) !=0)=false from rfl,cond_false,sc]
   · unfold cC XX
     simp only [aE,e1,cond_true,cg,aB,ceta,dq,wr,his,k0,gk,aeta,rr,Bool.not_false,cond_false,sc]
   · rw [tk]
     exact ((inv.new.mono (stay _ other)).snoc (x:=c.certs.list[i]!)).1 his
   · have:=inv.cnt
     rw [rlen.1];omega
 |false=>
  have fol:=(aX.cons_false hwas).1 old;have no: ∀j,j<c.due.length->(c.due[j]!).1≠(c.certs.list[i]!).1:=by
   intro j hj he;obtain ⟨x,hx,h1,h2,_⟩:=ok.fol.due _ (bL hj)
   have:=ok.crt_up.inj hx (bL hi) (by rw [<- h1,he])
   rw [this,hwas] at h2;cases h2
  obtain ⟨m,pl⟩:=pd.2 no;have dq:=da.2 no;have k0:decide ((0:Int)<= -1)=false:=aM (by omega)
  cases his:(bG f (c.certs.list[i]!).2 c.now).2 with
  |true=>
   have tt:bF (bG f (c.certs.list[i]!).2 c.now).1/\lO (bG f (c.certs.list[i]!).2 c.now).1:=FN (eN fok hb.2).1 (eN fok hb.1).1 ok.now64 ok.nowv his;obtain ⟨t1,t2⟩:=tt;have n0:=(ok.crt.nr i hi).1;have n1:(c.certs.list[i]!).1<=1000000:=by have:=(ok.crt.nr i hi).2;have:=ok.crt.n1;omega
   have fresh:=XV ok inv hi hwas
   by_cases op:AH a.slots
   · right
     have pu:=xN inv.ok op inv.ok.fit (t:=(bG f (c.certs.list[i]!).2 c.now).1) (n:=(c.certs.list[i]!).1) t1 t2 n0 n1 fresh;have rp:=AI inv.ok op (t:=(bG f (c.certs.list[i]!).2 c.now).1) (n:=(c.certs.list[i]!).1) t1 t2 n0 n1;have pok:=V6 inv.ok op (t:=(bG f (c.certs.list[i]!).2 c.now).1) (n:=(c.certs.list[i]!).1) t1 t2 n0 n1 fresh
     have pmem:=RX inv.ok op (t:=(bG f (c.certs.list[i]!).2 c.now).1) (n:=(c.certs.list[i]!).1) t1;have plen:=FT inv.ok op (t:=(bG f (c.certs.list[i]!).2 c.now).1) (n:=(c.certs.list[i]!).1) t1;have ap: ∀h:Int×Int,bR ds [((c.certs.list[i]!).1,h)]=some (ds++[((c.certs.list[i]!).1,h)]):=fun h=>eU (by simp;omega)
     have opn:=qZ inv.ok.so;rw [aR op] at opn;refine ⟨k,lC a (bG f (c.certs.list[i]!).2 c.now).1 (c.certs.list[i]!).1,ds++[((c.certs.list[i]!).1,lB a.slots)],?_,?_,⟨pok,by rw [aGB inv.ok pok];exact inv.w2,?_,?_,inv.kl,?_⟩,by simp;omega⟩
     · unfold cX XW
       simp only [e1,cond_true,cg,aB,wn,pl,his,aeta,pu,ap,show ((0:Int) !=0)=false from rfl,cond_false,sc]
     · unfold cC XX
       simp only [aE,e1,cond_true,cg,aB,ceta,dq,wr,his,k0,aeta,rp,ap,Bool.not_true,cond_false,sc,opn]
     · rw [tk]
       exact ((inv.new.mono fun x hx e he hm=>(pmem e).2 (.inr hm)).snoc (x:=c.certs.list[i]!)).2 _ his rfl ((pmem _).2 (.inl rfl))
     · exact fol.mono fun x hx e he hm=>(pmem e).2 (.inr hm)
     · have:=inv.cnt
       rw [plen,List.length_append];simp only [List.length_cons,List.length_nil];omega
   · left
     have pu:=xO inv.ok op inv.ok.fit (t:=(bG f (c.certs.list[i]!).2 c.now).1) (n:=(c.certs.list[i]!).1) t1 t2 n0 n1 fresh;have ap: ∀h:Int×Int,bR ds [((c.certs.list[i]!).1,h)]=some (ds++[((c.certs.list[i]!).1,h)]):=fun h=>eU (by simp;omega)
     have opn:=qZ inv.ok.so;rw [aM op] at opn;constructor
     · unfold cX XW
       simp only [e1,cond_true,cg,aB,wn,pl,his,aeta,pu,ap,show ((18:Int) !=0)=true from rfl,cond_false]
     · unfold cC XX
       simp only [aE,e1,cond_true,cg,aB,ceta,dq,wr,his,k0,aeta,Bool.not_true,Bool.not_false,cond_false,opn]
  |false=>
   right;refine ⟨k,a,ds,?_,?_,⟨inv.ok,inv.w2,?_,fol,inv.kl,inv.cnt⟩,by omega⟩
   · unfold cX XW
     simp only [e1,cond_true,cg,aB,wn,pl,his,show ((0:Int) !=0)=false from rfl,cond_false,sc]
   · unfold cC XX
     simp only [aE,e1,cond_true,cg,aB,ceta,dq,wr,his,k0,Bool.not_false,cond_false,sc]
   · rw [tk]
     exact (inv.new.snoc (x:=c.certs.list[i]!)).1 his
theorem aNZ:
 (nX c ⟨f⟩=some (fQ,18)/\nB c ⟨f⟩=some (fQ,18))\/
 ∃c':aH,nX c ⟨f⟩=some (c',0)/\nB c ⟨f⟩=some (c',0)/\aZ c'/\c'.field.points=f/\c'.now=c.now/\c'.certs=c.certs:=by
 have bd:=ok.bd;have f64:=fok.1;have run: ∀(d i k:Nat) (a:aG) (ds:List sH),c.certs.list.length-i<=d->i<=c.certs.list.length->LK c f i k a ds->ds.length<=i->
  (aJ cX (XW c f i a ds)=some (.done (fQ,18))/\aJ cC (XX c f i a ds)=some (fQ,18))\/
  ∃c':aH,aJ cX (XW c f i a ds)=some (.done (c',0))/\aJ cC (XX c f i a ds)=some (c',0)/\aZ c'/\c'.field.points=f/\c'.now=c.now/\c'.certs=c.certs:=by
  have fin: ∀(k:Nat) (a:aG) (ds:List sH),LK c f c.certs.list.length k a ds-> ∃c':aH,aJ cX (XW c f c.certs.list.length a ds)=some (.done (c',0))/\aJ cC (XX c f c.certs.list.length a ds)=some (c',0)/\aZ c'/\c'.field.points=f/\c'.now=c.now/\c'.certs=c.certs:=by
   intro k a ds inv;have e1:decide ((c.certs.list.length:Int)<(c.certs.list.length:Int))=false:=aM (by omega)
   have hk:c.due.length-k=0:=by
    have:=inv.old
    rw [List.drop_length] at this
    have:c.due.drop k=[]:=this
    rw [List.drop_eq_nil_iff] at this;omega
   have new:=inv.new;rw [List.take_length] at new;refine ⟨⟨c.now,⟨f⟩,c.certs,a,ds⟩,aO ?_,aO ?_,⟨ok.nowv,ok.now64,fok,ok.crt,inv.ok,inv.w2,?_,kn,new⟩,rfl,rfl,rfl⟩
   · unfold cX XW
     simp only [e1,cond_false]
   · unfold cC XX
     simp only [aE,e1,cond_false]
   · have:=inv.cnt
     show a.heap.length=ds.length;omega
  intro d
  induction d with
  |zero=>
   intro i k a ds hd hi inv hds
   have:i=c.certs.list.length:=by omega
   subst this;exact .inr (fin k a ds inv)
  |succ d ih=>
   intro i k a ds hd hi inv hds
   by_cases he:i=c.certs.list.length
   · subst he;exact .inr (fin k a ds inv)
   rcases aAK ok fok kn inv (by omega) hds with ⟨h1,h2⟩|⟨k',a',ds',h1,h2,h3,h4⟩
   · exact .inl ⟨aO h1,aO h2⟩
   · rw [bC h1,bC h2]
     exact ih (i+1) k' a' ds' (by omega) (by omega) h3 h4
 have start:=run c.certs.list.length 0 0 c.agenda [] (by omega) (by omega) ⟨ok.agd,ok.w200,rfl,by rw [List.drop_zero,List.drop_zero];exact ok.fol,by omega,by have:=ok.hd;simp;omega⟩ (by simp)
 have hc:hY c=some 0:=by rw [mH ok.fit,if_pos ok]
 have hf:iX ⟨f⟩=some 0:=by rw [uN];exact congrArg some (sG.2 fok)
 have tw:=gC ok;have tw':gS (aH.mk (c.now.1,c.now.2) (Field.mk c.field.points) (aW.mk c.certs.next_ c.certs.list) (aG.mk (aS.mk c.agenda.slots.uses c.agenda.slots.used c.agenda.slots.free) c.agenda.heap c.agenda.where_) c.due)=some c:=tw
 have first:aJ jY (c.certs.list,(c.certs.list.length:Int),0,c.now.1,c.now.2,c.field.points,c.certs.next_,c.certs.list,c.agenda.slots.uses,c.agenda.slots.used,c.agenda.slots.free,c.agenda.heap,c.agenda.where_,c.due,f,0,0,0)=
  aJ jY (c.certs.list,(c.certs.list.length:Int),(c.certs.list.length:Int),c.now.1,c.now.2,c.field.points,c.certs.next_,c.certs.list,c.agenda.slots.uses,c.agenda.slots.used,c.agenda.slots.free,c.agenda.heap,c.agenda.where_,c.due,f,0,0,0):=by
  refine eG (body:=jY) (fun i=>(c.certs.list,(c.certs.list.length:Int),(i:Int),c.now.1,c.now.2,c.field.points,c.certs.next_,c.certs.list,c.agenda.slots.uses,c.agenda.slots.used,c.agenda.slots.free,c.agenda.heap,c.agenda.where_,c.due,f,0,0,0)) c.certs.list.length (fun i hi=>?_)
  have e1:decide ((i:Int)<(c.certs.list.length:Int))=true:=aR (by omega)
  unfold jY;simp only [e1,cond_true,aC c.certs.list i hi,aB,mG fok,aM (OW fok (kn i hi).1),aM (OW fok (kn i hi).2),cond_false,bD (show i<1000000000 by omega)]
 have second: ∀r,aJ cX (XW c f 0 c.agenda [])=some (.done r)->nX c ⟨f⟩=some r:=by
  intro r hr;unfold nX;simp only [hc,aB,show ((0:Int) !=0)=false from rfl,cond_false,hf,aE];rw [first]
  refine aO ?_;unfold jY;have e1:decide ((c.certs.list.length:Int)<(c.certs.list.length:Int))=false:=aM (by omega)
  simp only [aE,e1,cond_false,tw',aB,bI (show f.length<=1048576 by omega)]
  exact hr
 have third: ∀r,aJ cC (XX c f 0 c.agenda [])=some r->nB c ⟨f⟩=some r:=by
  intro r hr;unfold nB zI;simp only [jJ ok,aB,bI (show f.length<=1048576 by omega)]
  exact hr
 rcases start with ⟨h1,h2⟩|⟨c',h1,h2,h3⟩
 · exact .inl ⟨second _ h1,third _ h2⟩
 · exact .inr ⟨c',second _ h1,third _ h2,h3⟩
end
end Go.Proofs.YtfejhjllooomlaaGreat
namespace Go.Proofs.YtfejhjllooomlaaGreat
open Go.Vm Classical
theorem wT (l:List (Int×Int)) (x:Int×Int) (hl:l.length<=1000000):gE l x=some (decide (x∈l)):=by
 unfold gE oL;have key:=jC (body:=iY) (fun i=>(l,(l.length:Int),(i:Int),x)) l.length (fun i=>l[i]! =x) (fun i=>(i:Int)) (e:= -1) (fun i hi=>by
  have e1:decide ((i:Int)<(l.length:Int))=true:=aR (by omega)
  unfold iY;simp only [e1,cond_true,aC l i hi,aB,bD (show i<1000000000 by omega)]
  generalize l[i]! =y;constructor
  · intro h;rw [fM (congrArg Prod.fst h.symm),fM (congrArg Prod.snd h.symm)];rfl
  · intro h
    by_cases h1:x.1=y.1
    · rw [fM h1,fR (fun h2=>h (Prod.ext h1.symm h2.symm))];rfl
    · rw [fR h1];rfl) (by
  unfold iY
  have:decide ((l.length:Int)<(l.length:Int))=false:=aM (by omega)
  simp only [this,cond_false])
 rw [aE]
 by_cases hx:x∈l
 · obtain ⟨i,hi,he⟩:=aY.1 hx
   obtain ⟨k,h1,h2,h3⟩:=HK (c:=fun i=>l[i]! =x) ⟨i,hi,he⟩
   have:=key.1 k h1 h2 h3
   rw [show ((0:Nat):Int)=0 from rfl] at this;rw [this,aR hx];simp only [aB,aR (show (0:Int)<=(k:Int) by omega)]
 · have:=key.2 fun i hi he=>hx (aY.2 ⟨i,hi,he⟩)
   rw [show ((0:Nat):Int)=0 from rfl] at this;rw [this,aM hx];rfl
theorem HR (l:List (Int×Int)) (x:Int×Int) (hl:l.length<=1000000):KN l x=some (decide (x∈l)):=by
 unfold KN;have key:=dA (body:=vP) (fun i=>(l,(i:Int),x)) l.length (fun i=>l[i]! =x) (r:=true) (e:=false) (fun i hi=>by
  have e1:decide ((i:Int)<(l.length:Int))=true:=aR (by omega)
  unfold vP;simp only [aE,e1,cond_true,aC l i hi,aB,bD (show i<1000000000 by omega)]
  generalize l[i]! =y;constructor
  · intro h;rw [fM (congrArg Prod.fst h),fM (congrArg Prod.snd h)];rfl
  · intro h
    by_cases h1:y.1=x.1
    · rw [fM h1,fR (fun h2=>h (Prod.ext h1 h2))];rfl
    · rw [fR h1];rfl) (by
  unfold vP
  have:decide ((l.length:Int)<(l.length:Int))=false:=aM (by omega)
  simp only [aE,this,cond_false])
 by_cases hx:x∈l
 · rw [aR hx];exact key.1 (aY.1 hx)
 · rw [aM hx];exact key.2 fun i hi he=>hx (aY.2 ⟨i,hi,he⟩)
theorem aAL (x y:sH):((x.1==y.1)&&((x.2.1==y.2.1)&&(x.2.2==y.2.2)))=decide (x=y):=by
 rw [Bool.eq_iff_iff,decide_eq_true_iff];simp only [Bool.and_eq_true,beq_iff_eq];constructor
 · rintro ⟨h1,h2,h3⟩;exact Prod.ext h1 (Prod.ext h2 h3)
 · rintro rfl;exact ⟨rfl,rfl,rfl⟩
theorem HS (a b:List sH) (hl:a.length<=1000000):uH ⟨a⟩ ⟨b⟩=some (decide (a=b)):=by
 unfold uH;simp only [aE]
 by_cases h:a.length=b.length
 case neg=>rw [eS (by omega),aM (fun k=>h (by rw [k]))];rfl
 rw [bX (by omega)]
 simp only [cond_false];have key:=dA (body:=qV) (fun i=>((i:Int),a,b)) a.length (fun i=> ¬a[i]! =b[i]!) (r:=false) (e:=true) (fun i hi=>by
  have e1:decide ((i:Int)<(a.length:Int))=true:=aR (by omega)
  unfold qV;simp only [aE,e1,cond_true,aC a i hi,aC b i (by omega),aB,bD (show i<1000000000 by omega),aAL]
  constructor
  · intro h;rw [aM h];rfl
  · intro h;rw [aR (Classical.not_not.1 h)];rfl) (by
  unfold qV
  have:decide ((a.length:Int)<(a.length:Int))=false:=aM (by omega)
  simp only [aE,this,cond_false])
 by_cases he:a=b
 · rw [aR he]
   exact key.2 fun i hi=>Classical.not_not.2 (by rw [he])
 · rw [aM he]
   refine key.1 (Classical.byContradiction fun hx=>he (KO h fun i hi=>?_))
   exact Classical.byContradiction fun hn=>hx ⟨i,hi,hn⟩
theorem OX (a b:List sH) (hl:a.length<=1000000):kW a b=some (decide (a=b)):=by
 unfold kW;simp only [aE]
 by_cases h:a.length=b.length
 case neg=>rw [eS (by omega),aM (fun k=>h (by rw [k]))];rfl
 rw [bX (by omega)]
 simp only [cond_false];have key:=dA (body:=iM) (fun i=>(a,b,(a.length:Int),(i:Int))) a.length (fun i=> ¬a[i]! =b[i]!) (r:=false) (e:=true) (fun i hi=>by
  have e1:decide ((i:Int)<(a.length:Int))=true:=aR (by omega)
  unfold iM;simp only [e1,cond_true,aC a i hi,aC b i (by omega),aB,bD (show i<1000000000 by omega),aAL]
  constructor
  · intro h;rw [aM h];rfl
  · intro h;rw [aR (Classical.not_not.1 h)];rfl) (by
  unfold iM
  have:decide ((a.length:Int)<(a.length:Int))=false:=aM (by omega)
  simp only [this,cond_false])
 by_cases he:a=b
 · rw [aR he]
   exact key.2 fun i hi=>Classical.not_not.2 (by rw [he])
 · rw [aM he]
   refine key.1 (Classical.byContradiction fun hx=>he (KO h fun i hi=>?_))
   exact Classical.byContradiction fun hn=>hx ⟨i,hi,hn⟩
theorem XY {cs:List sH} {m:Nat} {x:sH} (hx:x∈cs) (hne:x.1≠(cs[m]!).1):x∈cs.eraseIdx m:=by
 obtain ⟨j,hj,rfl⟩:=aY.1 hx;have hjm:j≠m:=fun h=>hne (by rw [h])
 rw [uO,List.mem_append]
 by_cases h:j<m
 · exact .inl (cT.2 ⟨j,h,hj,rfl⟩)
 · right
   rw [aY];refine ⟨j- (m+1),by rw [List.length_drop];omega,?_⟩
   rw [tP]
   congr 1;omega
def kP (c0:aH) (f:List Pt) (es:List (Int×Int)) (i:Nat) (c:aH):=
 (es,c0.certs.list,(c0.certs.list.length:Int),(i:Int),c.now.1,c.now.2,c.field.points,c.certs.next_,c.certs.list,c.agenda.slots.uses,c.agenda.slots.used,c.agenda.slots.free,c.agenda.heap,c.agenda.where_,c.due,f,(0:Int),(0:Int),(0:Int))
def kR (c0:aH) (f:List Pt) (es:List (Int×Int)) (i:Nat) (c:aH):=
 (es,(i:Int),c0.now.1,c0.now.2,c0.field.points,c0.certs.next_,c0.certs.list,c0.agenda.slots.uses,c0.agenda.slots.used,c0.agenda.slots.free,c0.agenda.heap,c0.agenda.where_,c0.due,f,(0:Int),(0:Int),(0:Int),c.now.1,c.now.2,c.field.points,c.certs.next_,c.certs.list,c.agenda.slots.uses,c.agenda.slots.used,c.agenda.slots.free,c.agenda.heap,c.agenda.where_,c.due)
def eP (es:List (Int×Int)) (i:Nat) (c:aH):=
 (es,(es.length:Int),(i:Int),c.now.1,c.now.2,c.field.points,c.certs.next_,c.certs.list,c.agenda.slots.uses,c.agenda.slots.used,c.agenda.slots.free,c.agenda.heap,c.agenda.where_,c.due,(0:Int),(0:Int),(0:Int))
def eR (es:List (Int×Int)) (i:Nat) (c:aH):=
 (es,(i:Int),(0:Int),(0:Int),(0:Int),c.now.1,c.now.2,c.field.points,c.certs.next_,c.certs.list,c.agenda.slots.uses,c.agenda.slots.used,c.agenda.slots.free,c.agenda.heap,c.agenda.where_,c.due)
def jL (c:aH):Int:=c.certs.next_- (c.certs.list.length:Int)
structure aAM (c:aH) (f:List Pt) (es:List (Int×Int)) (r:aH):Prop where
 has: ∀e∈es,uP r.certs.list e
 sub: ∀x∈r.certs.list,x.2∈es
 ok:aZ r
 fld:r.field.points=f
 now:r.now=c.now
 room:jL c<=jL r
def M6 (c:aH) (k:Nat):Prop:=c.certs.list.length<=k/\c.certs.next_<=k/\ ∀j,j<c.agenda.slots.uses.length->c.agenda.slots.uses[j]!<=k
theorem aX.len {l:List Pt} {t:Int×Int} {H:List Ev}: ∀{cs ds:List sH},aX l t H cs ds->ds.length<=cs.length
 | [],ds,h=>by rw [show ds=[] from h];exact Nat.le_refl _
 |x::cs,ds,h=>by
  cases hy:(bG l x.2 t).2 with
  |true=>
   obtain ⟨d,ds',rfl,_,_,h4⟩:=h.1 hy;exact Nat.succ_le_succ h4.len
  |false=>exact Nat.le_succ_of_le (h.2 hy).len
theorem M6.not_full {c:aH} (ok:aZ c) {k:Nat} (h:M6 c k) (hk:k<=199): ¬(FV c.certs\/ ¬AH c.agenda.slots):=by
 obtain ⟨h1,h2,h3⟩:=h;have fl:=ok.fol.len;have hd:=ok.hd;have hl:=ok.agd.hl;have wl:=ok.agd.wl;have w2:=ok.w200;rintro (h|h)
 · rcases h with h|h<;>omega
 · refine h ⟨by omega,?_⟩
   have:=h3 _ (CK ok.agd.so (by omega)).1
   omega
theorem M6.more {c c':aH} {k:Nat} (h:M6 c k) {x:Int×Int} (hc:c'.certs=pB c.certs x) (hs:c'.agenda.slots=c.agenda.slots\/c'.agenda.slots=gG c.agenda.slots):M6 c' (k+1):=by
 obtain ⟨h1,h2,h3⟩:=h;refine ⟨?_,?_,fun j hj=>?_⟩
 · rw [hc]
   show (c.certs.list++[(c.certs.next_,x)]).length<=_;rw [List.length_append,List.length_singleton];omega
 · rw [hc]
   show c.certs.next_+1<=_;omega
 · rcases hs with e|e
   · rw [e] at hj ⊢
     have:=h3 j hj;omega
   · rw [e] at hj ⊢
     change j<(c.agenda.slots.uses.set _ _).length at hj;rw [List.length_set] at hj;show (c.agenda.slots.uses.set (cO c.agenda.slots) (c.agenda.slots.uses[cO c.agenda.slots]!+1))[j]!<=_;rw [bE];split
     · rename_i h;have:=h3 _ h.2;omega
     · have:=h3 j hj;omega
structure IV (f:List Pt) (es:List (Int×Int)):Prop where
 len:es.length<=1000000
 cv: ∀x∈es,jD x
 kn: ∀x∈es,lI f x
theorem aAN {c0:aH} (ok0:aZ c0) {f:List Pt} {es:List (Int×Int)} (eok:IV f es):
 ∀(d i:Nat) (c:aH),c0.certs.list.length-i<=d->i<=c0.certs.list.length->aZ c->(∀x∈c0.certs.list.drop i,x∈c.certs.list)->(∀x∈c.certs.list,x∈c0.certs.list.drop i\/x.2∈es)->
  ∃c':aH,aJ dT (kP c0 f es i c)=aJ dT (kP c0 f es c0.certs.list.length c')/\aJ cZ (kR c0 f es i c)=aJ cZ (kR c0 f es c0.certs.list.length c')/\aZ c'/\(∀x∈c'.certs.list,x.2∈es)/\c'.field=c.field/\c'.now=c.now/\jL c<=jL c':=by
 have bd:=ok0.bd;intro d
 induction d with
 |zero=>
  intro i c hd hi ok h1 h2
  have:i=c0.certs.list.length:=by omega
  subst this;refine ⟨c,rfl,rfl,ok,fun x hx=>?_,rfl,rfl,Int.le_refl _⟩
  rcases h2 x hx with h|h
  · rw [List.drop_length] at h;cases h
  · exact h
 |succ d ih=>
  intro i c hd hi ok h1 h2
  by_cases he:i=c0.certs.list.length
  · subst he
    refine ⟨c,rfl,rfl,ok,fun x hx=>?_,rfl,rfl,Int.le_refl _⟩
    rcases h2 x hx with h|h
    · rw [List.drop_length] at h;cases h
    · exact h
  have hi':i<c0.certs.list.length:=by omega
  have e1:decide ((i:Int)<(c0.certs.list.length:Int))=true:=aR (by omega)
  have sc:=bD (show i<1000000000 by omega)
  have cg:=aC c0.certs.list i hi';have dr:=tR hi';have ceta:(aH.mk (c.now.1,c.now.2) (Field.mk c.field.points) (aW.mk c.certs.next_ c.certs.list) (aG.mk (aS.mk c.agenda.slots.uses c.agenda.slots.used c.agenda.slots.free) c.agenda.heap c.agenda.where_) c.due)=c:=rfl
  by_cases hin:(c0.certs.list[i]!).2∈es
  · have s1:dT (kP c0 f es i c)=some (.next (kP c0 f es (i+1) c)):=by
     unfold dT kP;simp only [e1,cond_true,cg,aB,wT _ _ eok.len,aR hin,Bool.not_true,cond_false,sc]
    have s2:cZ (kR c0 f es i c)=some (.next (kR c0 f es (i+1) c)):=by
     unfold cZ kR;simp only [aE,e1,cond_true,cg,aB,HR _ _ eok.len,aR hin,Bool.not_true,cond_false,sc]
    rw [bC s1,bC s2];refine ih (i+1) c (by omega) (by omega) ok (fun x hx=>h1 x (by rw [dr];exact List.mem_cons_of_mem _ hx)) (fun x hx=>?_)
    rcases h2 x hx with h|h
    · rw [dr] at h
      rcases List.mem_cons.1 h with rfl|h
      · exact .inr hin
      · exact .inl h
    · exact .inr h
  · have hm:=h1 (c0.certs.list[i]!) (by rw [dr];exact List.mem_cons_self)
    obtain ⟨m,hm1,hm2⟩:=aY.1 hm;obtain ⟨c',r1,r2,r3,r4,r5,r6⟩:=aAJ ok hm1;have rt:=IE ok hm1 r1;rw [hm2] at r2 rt;have s1:dT (kP c0 f es i c)=some (.next (kP c0 f es (i+1) c')):=by
     unfold dT kP;simp only [e1,cond_true,cg,aB,wT _ _ eok.len,aM hin,Bool.not_false,sc,ceta,rt]
    have s2:cZ (kR c0 f es i c)=some (.next (kR c0 f es (i+1) c')):=by
     unfold cZ kR;simp only [aE,e1,cond_true,cg,aB,HR _ _ eok.len,aM hin,Bool.not_false,sc,ceta,r2]
    rw [bC s1,bC s2];have cl:c'.certs.list=c.certs.list.eraseIdx m:=by rw [r6];rfl
    have hroom:jL c<=jL c':=by
     unfold jL;rw [r6];show _<=c.certs.next_- (((c.certs.list.eraseIdx m).length:Nat):Int);rw [List.length_eraseIdx_of_lt hm1];omega
    have hs:(∀x∈c0.certs.list.drop (i+1),x∈c'.certs.list)/\(∀x∈c'.certs.list,x∈c0.certs.list.drop (i+1)\/x.2∈es):=by
     refine ⟨fun x hx=>?_,fun x hx=>?_⟩
     · rw [cl]
       refine XY (h1 x (by rw [dr];exact List.mem_cons_of_mem _ hx)) ?_
       rw [hm2];exact FX ok0 hx hi'
     · rw [cl] at hx
       obtain ⟨a1,a2⟩:=tM ok.crt_up hm1 hx;rw [hm2] at a2;rcases h2 x a1 with h|h
       · rw [dr] at h
         rcases List.mem_cons.1 h with rfl|h
         · exact absurd rfl a2
         · exact .inl h
       · exact .inr h
    obtain ⟨d',q1,q2,q3,q4,q5,q6,q7⟩:=ih (i+1) c' (by omega) (by omega) r3 hs.1 hs.2
    exact ⟨d',q1,q2,q3,q4,q5.trans r4,q6.trans r5,by omega⟩
theorem R8 {f:List Pt} (_fok:fO f) {es:List (Int×Int)} (eok:IV f es):
 ∀(d i:Nat) (c:aH),es.length-i<=d->i<=es.length->aZ c->c.field.points=f->(∀x∈c.certs.list,x.2∈es)->(∀j,j<i->uP c.certs.list es[j]!)->
  ∃r:aH×Int,aJ eK (eP es i c)=some (.done r)/\aJ dM (eR es i c)=some (.done r)/\(r.2=0/\aAM c f es r.1\/r=(fQ,18))/\(∀k,M6 c k->k+(es.length-i)<=199->r.2=0):=by
 have el:=eok.len;have fin: ∀c:aH,aZ c->c.field.points=f->(∀x∈c.certs.list,x.2∈es)->(∀j,j<es.length->uP c.certs.list es[j]!)-> ∃r:aH×Int,aJ eK (eP es es.length c)=some (.done r)/\aJ dM (eR es es.length c)=some (.done r)/\(r.2=0/\aAM c f es r.1\/r=(fQ,18))/\r.2=0:=by
  intro c ok hf hs hh;have e1:decide ((es.length:Int)<(es.length:Int))=false:=aM (by omega)
  refine ⟨(c,0),aO ?_,aO ?_,.inl ⟨rfl,fun e he=>by obtain ⟨j,hj,q⟩:=aY.1 he;rw [<- q];exact hh j hj,hs,ok,hf,rfl,Int.le_refl _⟩,rfl⟩
  · unfold eK eP
    simp only [e1,cond_false]
  · unfold dM eR
    simp only [aE,e1,cond_false]
 intro d
 induction d with
 |zero=>
  intro i c hd hi ok hf hs hh
  have:i=es.length:=by omega
  subst this;obtain ⟨r,q1,q2,q3,q4⟩:=fin c ok hf hs hh;exact ⟨r,q1,q2,q3,fun _ _ _=>q4⟩
 |succ d ih=>
  intro i c hd hi ok hf hs hh
  by_cases he:i=es.length
  · subst he
    obtain ⟨r,q1,q2,q3,q4⟩:=fin c ok hf hs hh;exact ⟨r,q1,q2,q3,fun _ _ _=>q4⟩
  have bd:=ok.bd;have hi':i<es.length:=by omega
  have e1:decide ((i:Int)<(es.length:Int))=true:=aR (by omega)
  have sc:=bD (show i<1000000000 by omega)
  have cg:=aC es i hi';have ceta:(aH.mk (c.now.1,c.now.2) (Field.mk c.field.points) (aW.mk c.certs.next_ c.certs.list) (aG.mk (aS.mk c.agenda.slots.uses c.agenda.slots.used c.agenda.slots.free) c.agenda.heap c.agenda.where_) c.due)=c:=rfl;have ceta2:aW.mk c.certs.next_ c.certs.list=c.certs:=rfl;have hc:=R1 c.certs.list es[i]! (by omega)
  have hr:=zS c.certs es[i]! (by omega)
  by_cases hin:uP c.certs.list es[i]!
  · have s1:eK (eP es i c)=some (.next (eP es (i+1) c)):=by
     unfold eK eP;simp only [e1,cond_true,cg,aB,G0,hc,aR hin,sc]
    have s2:dM (eR es i c)=some (.next (eR es (i+1) c)):=by
     unfold dM eR;simp only [aE,e1,cond_true,cg,aB,ceta2,hr,aR hin,sc]
    rw [bC s1,bC s2];obtain ⟨r,q1,q2,q3,q4⟩:=ih (i+1) c (by omega) (by omega) ok hf hs (fun j hj=>if q:j=i then by rw [q];exact hin else hh j (by omega))
    exact ⟨r,q1,q2,q3,fun k hk hl=>q4 k hk (by omega)⟩
  · have hb:lI c.field.points es[i]!:=by rw [hf];exact eok.kn _ (bL hi')
    rcases aGA ok (eok.cv _ (bL hi')) hb hin with ⟨r1,r2,full⟩|⟨c',r1,r2,r3,r4,r5,r6,r7⟩
    · refine ⟨(fQ,18),aO ?_,aO ?_,.inr rfl,fun k hk hl=>absurd full (hk.not_full ok (by omega))⟩
      · unfold eK eP
        simp only [e1,cond_true,cg,aB,G0,hc,aM hin,cond_false,ceta,r1,show ((18:Int) !=0)=true from rfl]
      · unfold dM eR
        simp only [aE,e1,cond_true,cg,aB,ceta2,hr,aM hin,cond_false,ceta,r2,show ((18:Int) !=0)=true from rfl]
    · have s1:eK (eP es i c)=some (.next (eP es (i+1) c')):=by
       unfold eK eP;simp only [e1,cond_true,cg,aB,G0,hc,aM hin,cond_false,ceta,r1,show ((0:Int) !=0)=false from rfl,sc]
      have s2:dM (eR es i c)=some (.next (eR es (i+1) c')):=by
       unfold dM eR;simp only [aE,e1,cond_true,cg,aB,ceta2,hr,aM hin,cond_false,ceta,r2,show ((0:Int) !=0)=false from rfl,sc]
      rw [bC s1,bC s2];obtain ⟨r,q1,q2,q3,q6⟩:=ih (i+1) c' (by omega) (by omega) r3 (by rw [r4,hf]) (fun x hx=>by
       rw [r6] at hx;rcases List.mem_append.1 (show x∈c.certs.list++[(c.certs.next_,es[i]!)] from hx) with h|h
       · exact hs x h
       · rw [List.mem_singleton.1 h];exact bL hi') (fun j hj=>by
       rw [r6];show uP (c.certs.list++[(c.certs.next_,es[i]!)]) _
       by_cases q:j=i
       · rw [q];exact ⟨c.certs.list.length,by rw [List.length_append,List.length_singleton];omega,by rw [kF (Nat.le_refl _),Nat.sub_self];rfl⟩
       · obtain ⟨w,w1,w2⟩:=hh j (by omega)
         exact ⟨w,by rw [List.length_append];omega,by rw [jH w1];exact w2⟩)
      refine ⟨r,q1,q2,q3.imp (fun ⟨q4,q5⟩=>⟨q4,q5.has,q5.sub,q5.ok,q5.fld,q5.now.trans r5,Int.le_trans ?_ q5.room⟩) id,fun k hk hl=>q6 (k+1) (hk.more r6 r7) (by omega)⟩
      unfold jL;rw [r6];show _<=(c.certs.next_+1) - (((c.certs.list++[(c.certs.next_,es[i]!)]).length:Nat):Int);rw [List.length_append,List.length_singleton];omega
theorem aGC {c:aH} (ok:aZ c) {f:List Pt} (fok:fO f) {es:List (Int×Int)} (eok:IV f es):
 ∃r:aH×Int,nY c ⟨f⟩ es=some r/\wK c ⟨f⟩ es=some r/\(r.2=0/\aAM c f es r.1\/r=(fQ,18)):=by
 have f64:=fok.1;obtain ⟨c',g1,g2,g3,g4,g5,g6,g7⟩:=aAN ok eok c.certs.list.length 0 c (by omega) (by omega) ok (fun x hx=>by rwa [List.drop_zero] at hx) (fun x hx=> .inl (by rwa [List.drop_zero]))
 have bd:=g3.bd;have e1:decide ((c.certs.list.length:Int)<(c.certs.list.length:Int))=false:=aM (by omega)
 have start1:nY c ⟨f⟩ es=aJ dT (kP c f es 0 c):=rfl;have start2:wK c ⟨f⟩ es=aJ cZ (kR c f es 0 c):=by
  unfold wK;simp only [jJ ok,aB];rfl
 rw [start1,start2,g1,g2];have eq1:=OX c'.field.points f (by omega)
 have eq2:=HS c'.field.points f (by omega)
 have ceta:(aH.mk (c'.now.1,c'.now.2) (Field.mk c'.field.points) (aW.mk c'.certs.next_ c'.certs.list) (aG.mk (aS.mk c'.agenda.slots.uses c'.agenda.slots.used c'.agenda.slots.free) c'.agenda.heap c'.agenda.where_) c'.due)=c':=rfl
 by_cases hf:c'.field.points=f
 · obtain ⟨r,i1,i2,i3,_⟩:=R8 fok eok es.length 0 c' (by omega) (by omega) g3 hf g4 (fun j hj=>absurd hj (Nat.not_lt_zero j))
   refine ⟨r,aO ?_,aO ?_,i3.imp (fun ⟨q4,q5⟩=>⟨q4,q5.has,q5.sub,q5.ok,q5.fld,q5.now.trans g6,Int.le_trans g7 q5.room⟩) id⟩
   · unfold dT kP
     simp only [e1,cond_false,eq1,aR hf,aB,Bool.not_true];exact i1
   · unfold cZ kR
     simp only [aE,e1,cond_false,eq2,aR hf,aB,Bool.not_true];exact i2
 · have kn: ∀i,i<c'.certs.list.length->lI f (c'.certs.list[i]!).2:=fun i hi=>eok.kn _ (g4 _ (bL hi))
   rcases aNZ g3 fok kn with ⟨a1,a2⟩|⟨c2,a1,a2,a3,a4,a5,a6⟩
   · refine ⟨(fQ,18),aO ?_,aO ?_,.inr rfl⟩
     · unfold dT kP
       simp only [e1,cond_false,eq1,aM hf,aB,Bool.not_false,cond_true,ceta,a1,show ((18:Int) !=0)=true from rfl]
     · unfold cZ kR
       simp only [aE,e1,cond_false,eq2,aM hf,aB,Bool.not_false,cond_true,ceta,a2,show ((18:Int) !=0)=true from rfl]
   · obtain ⟨r,i1,i2,i3,_⟩:=R8 fok eok es.length 0 c2 (by omega) (by omega) a3 a4 (by rw [a6];exact g4) (fun j hj=>absurd hj (Nat.not_lt_zero j))
     refine ⟨r,aO ?_,aO ?_,i3.imp (fun ⟨q4,q5⟩=>⟨q4,q5.has,q5.sub,q5.ok,q5.fld,(q5.now.trans a5).trans g6,Int.le_trans (Int.le_trans g7 (by unfold jL;rw [a6];exact Int.le_refl _)) q5.room⟩) id⟩
     · unfold dT kP
       simp only [e1,cond_false,eq1,aM hf,aB,Bool.not_false,cond_true,ceta,a1,show ((0:Int) !=0)=false from rfl];exact i1
     · unfold cZ kR
       simp only [aE,e1,cond_false,eq2,aM hf,aB,Bool.not_false,cond_true,ceta,a2,show ((0:Int) !=0)=false from rfl];exact i2
end Go.Proofs.YtfejhjllooomlaaGreat
namespace Go.Proofs.YtfejhjllooomlaaGreat
open Go.Vm Classical
theorem LL {σ ρ:Type} {body:σ->Option (bY σ ρ)} (st:Nat->σ) (n:Nat) (P:Nat->Prop) {r e:ρ} (h: ∀i,i<n->(¬P i->body (st i)=some (.done r))/\(P i->body (st i)=some (.next (st (i+1)))))
 (hend:body (st n)=some (.done e)):aJ body (st 0)=some (if∀i,i<n->P i then e else r):=by
 have key:=dA (body:=body) st n (fun i=> ¬P i) (r:=r) (e:=e) (fun i hi=>⟨(h i hi).1,fun hn=>(h i hi).2 (Classical.not_not.1 hn)⟩) hend
 by_cases hx: ∀i,i<n->P i
 · rw [if_pos hx];exact key.2 fun i hi=>Classical.not_not.2 (hx i hi)
 · rw [if_neg hx]
   obtain ⟨i,h⟩:=Classical.not_forall.1 hx;obtain ⟨hi,hx⟩:=Classical.not_imp.1 h;exact key.1 ⟨i,hi,hx⟩
structure AJ (c:aH):Prop where
 f:c.field.points.length<=1000000
 l:c.certs.list.length<=1000000
 d:c.due.length<=1000000
 h:c.agenda.heap.length<=1000000
 w:c.agenda.where_.length<=1000000
 s1:c.agenda.slots.uses.length<=1000000
 s2:c.agenda.slots.used.length<=1000000
 s3:c.agenda.slots.free.length<=1000000
theorem aZ.short {c:aH} (ok:aZ c):AJ c:=by
 have bd:=ok.bd;have ab:=ok.agd.bd;have sl:=ok.agd.so.fl;have sn:=ok.agd.so.n2;have su:=ok.agd.so.ul;exact ⟨by omega,by omega,by omega,by omega,by omega,by omega,by omega,by omega⟩
theorem DF:AJ fQ:=⟨by decide,by decide,by decide,by decide,by decide,by decide,by decide,by decide⟩
theorem G3 (l:List Int) (hl:l.length<=1000000):kD l l=some true:=by
 unfold kD;rw [bX rfl];refine (eG (body:=lS) (fun i=>(l,l,(i:Int))) l.length fun i hi=>?_).trans (aO ?_)
 · have e1:decide ((i:Int)<(l.length:Int))=true:=aR (by omega)
   unfold lS;simp only [aE,e1,cond_true,aC l i hi,aB,bD (show i<1000000000 by omega),bX rfl,cond_false]
 · unfold lS
   have:decide ((l.length:Int)<(l.length:Int))=false:=aM (by omega)
   simp only [aE,this,cond_false]
theorem UC (l:List Bool) (hl:l.length<=1000000):nI l l=some true:=by
 unfold nI;rw [bX rfl];refine (eG (body:=kZ) (fun i=>(l,l,(i:Int))) l.length fun i hi=>?_).trans (aO ?_)
 · have e1:decide ((i:Int)<(l.length:Int))=true:=aR (by omega)
   unfold kZ;simp only [aE,e1,cond_true,aC l i hi,aB,bD (show i<1000000000 by omega),beq_self_eq_true,Bool.not_true,cond_false]
 · unfold kZ
   have:decide ((l.length:Int)<(l.length:Int))=false:=aM (by omega)
   simp only [aE,this,cond_false]
theorem UD (c:aW) (hl:c.list.length<=1000000):zE c c=some true:=by
 unfold zE;rw [bX rfl,bX rfl];refine (eG (body:=qW) (fun i=>((i:Int),c.next_,c.list,c.next_,c.list)) c.list.length fun i hi=>?_).trans (aO ?_)
 · have e1:decide ((i:Int)<(c.list.length:Int))=true:=aR (by omega)
   unfold qW;simp only [aE,e1,cond_true,aC c.list i hi,aB,bD (show i<1000000000 by omega),beq_self_eq_true,Bool.and_self,Bool.not_true,cond_false]
 · unfold qW
   have:decide ((c.list.length:Int)<(c.list.length:Int))=false:=aM (by omega)
   simp only [aE,this,cond_false]
theorem R9 (a:aG) (h1:a.heap.length<=1000000) (h2:a.where_.length<=1000000) (h3:a.slots.uses.length<=1000000) (h4:a.slots.used.length<=1000000) (h5:a.slots.free.length<=1000000):zF a a=some true:=by
 unfold zF D7;simp only [G3 _ h3,UC _ h4,G3 _ h5,G3 _ h2,aB,cond_true,Bool.not_true,cond_false];rw [bX rfl];refine (eG (body:=qX) (fun i=>((i:Int),a.slots.uses,a.slots.used,a.slots.free,a.heap,a.where_,a.slots.uses,a.slots.used,a.slots.free,a.heap,a.where_)) a.heap.length fun i hi=>?_).trans (aO ?_)
 · have e1:decide ((i:Int)<(a.heap.length:Int))=true:=aR (by omega)
   unfold qX;simp only [aE,e1,cond_true,aC a.heap i hi,aB,bD (show i<1000000000 by omega),beq_self_eq_true,Bool.and_self,Bool.not_true,cond_false]
 · unfold qX
   have:decide ((a.heap.length:Int)<(a.heap.length:Int))=false:=aM (by omega)
   simp only [aE,this,cond_false]
theorem UE {c:aH} (sh:AJ c):zG c c=some true:=by
 have hd:=sh.d;unfold zG;simp only [beq_self_eq_true,Bool.and_self,Bool.not_true,cond_false,HS c.field.points c.field.points sh.f,UD _ sh.l,R9 _ sh.h sh.w sh.s1 sh.s2 sh.s3,aB,aR];rw [bX rfl]
 refine (eG (body:=qY) (fun i=>((i:Int),c.now.1,c.now.2,c.field.points,c.certs.next_,c.certs.list,c.agenda.slots.uses,c.agenda.slots.used,c.agenda.slots.free,c.agenda.heap,c.agenda.where_,c.due,c.now.1,c.now.2,c.field.points,c.certs.next_,c.certs.list,c.agenda.slots.uses,c.agenda.slots.used,c.agenda.slots.free,c.agenda.heap,c.agenda.where_,c.due)) c.due.length fun i hi=>?_).trans (aO ?_)
 · have e1:decide ((i:Int)<(c.due.length:Int))=true:=aR (by omega)
   unfold qY;simp only [aE,e1,cond_true,aC c.due i hi,aB,bD (show i<1000000000 by omega),beq_self_eq_true,Bool.and_self,Bool.not_true,cond_false]
 · unfold qY
   have:decide ((c.due.length:Int)<(c.due.length:Int))=false:=aM (by omega)
   simp only [aE,this,cond_false]
structure UF (c:aH):Prop where
 now:lO c.now
 at64: ∀w,w<c.agenda.heap.length->lO ((c.agenda.heap[w]!).1,(c.agenda.heap[w]!).2.1)
theorem SA (f:Field):rV f=some true\/(rV f=some false/\f.points.length<=70):=by
 unfold rV
 simp only [aE]
 by_cases h1:16<f.points.length
 · rw [aR (show (16:Int)<(f.points.length:Int) by omega)]
   by_cases h2:f.points.length<64
   · rw [aR (show (f.points.length:Int)<64 by omega)];exact .inl rfl
   · rw [aM (show¬(f.points.length:Int)<64 by omega)]
     by_cases h3:70<f.points.length
     · rw [aR (show (70:Int)<(f.points.length:Int) by omega)];exact .inl rfl
     · rw [aM (show¬(70:Int)<(f.points.length:Int) by omega)];exact .inr ⟨rfl,by omega⟩
 · rw [aM (show¬(16:Int)<(f.points.length:Int) by omega),aM (show¬(70:Int)<(f.points.length:Int) by omega)]
   exact .inr ⟨rfl,by omega⟩
theorem SC (c:aH):rW c=some true\/(rW c=some false/\AJ c):=by
 unfold rW BK BJ
 simp only [aE]
 by_cases h1:40<c.certs.list.length
 · rw [aR (show (40:Int)<(c.certs.list.length:Int) by omega)];exact .inl rfl
 rw [aM (show¬(40:Int)<(c.certs.list.length:Int) by omega)]
 by_cases h2:40<c.due.length
 · rw [aR (show (40:Int)<(c.due.length:Int) by omega)];exact .inl rfl
 rw [aM (show¬(40:Int)<(c.due.length:Int) by omega)]
 rcases SA c.field with e|⟨e,hf⟩
 · rw [e];exact .inl rfl
 rw [e];simp only [cond_false,aB]
 by_cases a1:210<c.agenda.slots.uses.length
 · rw [aR (show (210:Int)<(c.agenda.slots.uses.length:Int) by omega)];exact .inl rfl
 rw [aM (show¬(210:Int)<(c.agenda.slots.uses.length:Int) by omega)]
 by_cases a2:210<c.agenda.slots.used.length
 · rw [aR (show (210:Int)<(c.agenda.slots.used.length:Int) by omega)];exact .inl rfl
 rw [aM (show¬(210:Int)<(c.agenda.slots.used.length:Int) by omega)]
 by_cases a3:210<c.agenda.slots.free.length
 · rw [aR (show (210:Int)<(c.agenda.slots.free.length:Int) by omega)];exact .inl rfl
 rw [aM (show¬(210:Int)<(c.agenda.slots.free.length:Int) by omega)]
 by_cases a4:210<c.agenda.heap.length
 · rw [aR (show (210:Int)<(c.agenda.heap.length:Int) by omega)];exact .inl rfl
 rw [aM (show¬(210:Int)<(c.agenda.heap.length:Int) by omega)]
 by_cases a5:210<c.agenda.where_.length
 · rw [aR (show (210:Int)<(c.agenda.where_.length:Int) by omega)];exact .inl rfl
 rw [aM (show¬(210:Int)<(c.agenda.where_.length:Int) by omega)]
 exact .inr ⟨rfl,⟨by omega,by omega,by omega,by omega,by omega,by omega,by omega,by omega⟩⟩
end Go.Proofs.YtfejhjllooomlaaGreat
namespace Go.Proofs.YtfejhjllooomlaaGreat
open Go.Vm Classical
theorem V9 {a b:Int×Int} (ha:bF a) (hb:bF b) (h:a.1*b.2=b.1*a.2):a=b:=by
 obtain ⟨a1,_,a3⟩:=ha;obtain ⟨b1,_,b3⟩:=hb;have hn:a.1.natAbs*b.2.natAbs=b.1.natAbs*a.2.natAbs:=by rw [<- Int.natAbs_mul,<- Int.natAbs_mul,h]
 have d1:b.2.natAbs ∣ a.2.natAbs:=by
  have:b.2.natAbs ∣ b.1.natAbs*a.2.natAbs:=by rw [<- hn];exact Nat.dvd_mul_left _ _
  exact (Nat.Coprime.dvd_of_dvd_mul_left b3 this)
 have d2:a.2.natAbs ∣ b.2.natAbs:=by
  have:a.2.natAbs ∣ a.1.natAbs*b.2.natAbs:=by rw [hn];exact Nat.dvd_mul_left _ _
  exact (Nat.Coprime.dvd_of_dvd_mul_left a3 this)
 have e:a.2.natAbs=b.2.natAbs:=Nat.dvd_antisymm d2 d1;have e2:a.2=b.2:=by omega
 have e1:a.1=b.1:=by
  rw [e2] at h;exact Int.eq_of_mul_eq_mul_right (by omega) h
 exact Prod.ext e1 e2
theorem IW (p q:Pt) (t:Int×Int):L0 p q t=(p.2.1-q.2.1)*t.2+(p.2.2-q.2.2)*t.1:=rfl
theorem SD {l h:Pt} {t t':Int×Int} (d:1<=t.2) (d':1<=t'.2) (le:t.1*t'.2<=t'.1*t.2) (hB: ¬h.2.2<l.2.2) (hn: ¬fN l h t): ¬fN l h t':=by
 unfold fN at*;rw [IW] at*;generalize l.2.1-h.2.1=A at*;have hs:l.2.2-h.2.2<=0:=by omega
 intro hl;have key:(A*t'.2+(l.2.2-h.2.2)*t'.1)*t.2<=(A*t.2+(l.2.2-h.2.2)*t.1)*t'.2:=by
  have h1:(l.2.2-h.2.2)*(t'.1*t.2)<=(l.2.2-h.2.2)*(t.1*t'.2):=Int.mul_le_mul_of_nonpos_left hs le;have e1:(A*t'.2+(l.2.2-h.2.2)*t'.1)*t.2=A*t'.2*t.2+(l.2.2-h.2.2)*(t'.1*t.2):=by rw [Int.add_mul,Int.mul_assoc (l.2.2-h.2.2)]
  have e2:(A*t.2+(l.2.2-h.2.2)*t.1)*t'.2=A*t'.2*t.2+(l.2.2-h.2.2)*(t.1*t'.2):=by
   rw [Int.add_mul,Int.mul_assoc (l.2.2-h.2.2),Int.mul_assoc A,Int.mul_assoc A,Int.mul_comm t.2]
  omega
 rcases hl with hl|⟨hl,h2|⟨h2,h3⟩⟩
 · refine hn (.inl ?_)
   have:0<(A*t'.2+(l.2.2-h.2.2)*t'.1)*t.2:=Int.mul_pos hl (by omega)
   have k:0<(A*t.2+(l.2.2-h.2.2)*t.1)*t'.2:=by omega
   exact Int.pos_of_mul_pos_left k (by omega)
 · omega
 · have z:l.2.2-h.2.2=0:=by omega
   rw [z] at hl hn
   have:A=0:=by
    have:A*t'.2=0:=by omega
    rcases Int.mul_eq_zero.1 this with h|h
    · exact h
    · omega
   subst this;exact hn (.inr ⟨by omega,.inr ⟨h2,h3⟩⟩)
theorem ED {h l:Pt} {t t':Int×Int} (hh:fS h) (hl:fS l) (r:bF t) (r':bF t') (le:t.1*t'.2<=t'.1*t.2) (up:(lH h l t).2=true->t'.1*(lH h l t).1.2<=(lH h l t).1.1*t'.2):
 lH h l t'=lH h l t:=by
 unfold lH at*
 by_cases h1:fN l h t
 · rw [if_pos h1] at up ⊢
   have e:t=t':=V9 r r' (by have:=up rfl;dsimp only at this;omega)
   subst e;rw [if_pos h1]
 · rw [if_neg h1] at up ⊢
   by_cases h2:h.2.2<l.2.2
   · rw [if_pos h2] at up ⊢
     obtain ⟨_,m1,m2,m3⟩:=KT hh hl (show h.2.2≠l.2.2 by omega)
     have up:=up rfl;dsimp only at up
     by_cases h3:fN l h t'
     · rw [if_pos h3]
       have:t'=X3 h l:=by
        refine V9 r' m1 ?_;have g:0<=L0 l h t':=by rcases h3 with k|k<;>omega
        rw [IW] at g;generalize X3 h l=m at*;have d:=m1.1;have hB:0<l.2.2-h.2.2:=by omega
        generalize l.2.2-h.2.2=B at*;generalize hA:h.2.1-l.2.1=A at*;have g2:A*t'.2<=B*t'.1:=by
         have:(l.2.1-h.2.1)*t'.2= -(A*t'.2):=by rw [<- Int.neg_mul];congr 1;omega
         omega
        have g3:m.1*t'.2*B<=t'.1*m.2*B:=by
         have e1:m.1*t'.2*B=A*t'.2*m.2:=by
          rw [Int.mul_right_comm,m3,Int.mul_right_comm]
         have e2:t'.1*m.2*B=B*t'.1*m.2:=by
          rw [Int.mul_right_comm,Int.mul_comm t'.1 B]
         rw [e1,e2];exact Int.mul_le_mul_of_nonneg_right g2 (by omega)
        have g4:m.1*t'.2<=t'.1*m.2:=Int.le_of_mul_le_mul_right g3 hB;omega
       rw [this]
     · rw [if_neg h3]
   · rw [if_neg h2] at up ⊢
     rw [if_neg (SD r.1 r'.1 le h2 h1)]
end Go.Proofs.YtfejhjllooomlaaGreat
namespace Go.Proofs.YtfejhjllooomlaaGreat
open Go.Vm Classical
theorem M7 {a:aG} (ok:eB a): ∀k,k<a.heap.length-> ¬dB a.heap[k]! a.heap[0]!:=by
 have d: ∀w,w<a.heap.length->1<=(a.heap[w]!).2.1:=fun w hw=>(ok.ev w hw).1.1
 intro k
 induction k using Nat.strongRecOn with
 |ind k ih=>
  intro hk
  by_cases h0:k=0
  · subst h0;exact fun h=>nN h h
  · exact xM (d 0 (by omega)) (d ((k-1) / 2) (by omega)) (d k hk) (ih ((k-1) / 2) (by omega) (by omega)) (ok.ord k (by omega) hk)
theorem aAO {h l:Pt} {t:Int×Int} (hh:fS h) (hl:fS l) (r:bF t) (is:(lH h l t).2=true):t.1*(lH h l t).1.2<=(lH h l t).1.1*t.2:=by
 unfold lH at*
 by_cases h1:fN l h t
 · rw [if_pos h1];exact Int.le_refl _
 · rw [if_neg h1] at is ⊢
   by_cases h2:h.2.2<l.2.2
   · rw [if_pos h2]
     obtain ⟨_,m1,m2,m3⟩:=KT hh hl (show h.2.2≠l.2.2 by omega)
     dsimp only;have g:L0 l h t<=0:=Int.not_lt.1 fun k=>h1 (.inl k)
     rw [IW] at g;generalize X3 h l=m at*;have d:=m1.1;have d2:=r.1;have hB:0<l.2.2-h.2.2:=by omega
     generalize l.2.2-h.2.2=B at*;generalize hA:h.2.1-l.2.1=A at*;have g2:B*t.1<=A*t.2:=by
      have:(l.2.1-h.2.1)*t.2= -(A*t.2):=by rw [<- Int.neg_mul];congr 1;omega
      omega
     have e1:t.1*m.2*B=B*t.1*m.2:=by rw [Int.mul_right_comm,Int.mul_comm t.1 B]
     have e2:m.1*t.2*B=A*t.2*m.2:=by rw [Int.mul_right_comm,m3,Int.mul_right_comm]
     have g3:t.1*m.2*B<=m.1*t.2*B:=by
      rw [e1,e2];exact Int.mul_le_mul_of_nonneg_right g2 (by omega)
     exact Int.le_of_mul_le_mul_right g3 hB
   · rw [if_neg h2] at is;cases is
theorem aX.time {l:List Pt} {t t':Int×Int} {H:List Ev}: ∀{cs ds:List sH},(∀x∈cs,bG l x.2 t'=bG l x.2 t)->aX l t H cs ds->aX l t' H cs ds
 | [],_,_,h=>h
 |x::cs,ds,hw,h=>by
  have e:=hw x List.mem_cons_self;have ih: ∀{ds},aX l t H cs ds->aX l t' H cs ds:=fun {ds}=>aX.time fun y hy=>hw y (List.mem_cons_of_mem _ hy)
  refine ⟨fun hy=>?_,fun hy=>?_⟩
  · rw [e] at hy
    obtain ⟨d,ds',h1,h2,h3,h4⟩:=h.1 hy;exact ⟨d,ds',h1,h2,by rw [e];exact h3,ih h4⟩
  · rw [e] at hy
    exact ih (h.2 hy)
theorem EE {c:aH} (ok:aZ c) (hne:0<c.agenda.heap.length):
 ∃(i:Nat) (c':aH),i<c.certs.list.length/\(c.certs.list[i]!).1=Ev.num c.agenda.heap[0]!/\fX c (Ev.num c.agenda.heap[0]!)=some (c',(c.certs.list[i]!).2,0)/\qB c (Ev.num c.agenda.heap[0]!)=some c'/\
  aZ ⟨Ev.at c.agenda.heap[0]!,c'.field,c'.certs,c'.agenda,c'.due⟩/\c'.field=c.field/\c'.certs=mQ c.certs i/\c.now.1*(Ev.at c.agenda.heap[0]!).2<=(Ev.at c.agenda.heap[0]!).1*c.now.2:=by
 have hm:=bL hne;obtain ⟨d,hd,hn⟩:=ok.nums _ hm;obtain ⟨x,hx,h1,h2,h3⟩:=ok.fol.due d hd;obtain ⟨w,hw,he⟩:=aY.1 h3;have hw0:w=0:=Classical.byContradiction fun hx=>by
  refine ok.agd.nd 0 w (by omega) hw ?_
  rw [he,<- hn,h1]
 subst hw0;obtain ⟨i,hi,rfl⟩:=aY.1 hx;have num:(c.certs.list[i]!).1=Ev.num c.agenda.heap[0]!:=by rw [<- hn,h1]
 have tm:Ev.at c.agenda.heap[0]! =(bG c.field.points (c.certs.list[i]!).2 c.now).1:=by rw [he]
 obtain ⟨c',r1,r2,r3,r4,r5,r6⟩:=aAJ ok hi;have hb:=ok.known i hi;have pt:=fun (x:Int×Int) (hb:lI c.field.points x)=>And.intro (eN ok.fld hb.2).1 (eN ok.fld hb.1).1
 have rt:=FN (pt _ hb).1 (pt _ hb).2 ok.now64 ok.nowv h2;have ge:=aAO (pt _ hb).1 (pt _ hb).2 ok.nowv h2;rw [num] at r1 r2;refine ⟨i,c',hi,num,r1,r2,?_,r4,r6,by rw [tm];exact ge⟩
 have kn:=BV ok i hi;refine ⟨by rw [tm];exact rt.1,by rw [tm];exact rt.2,r3.fld,r3.crt,r3.agd,r3.w200,r3.hd,r3.known,?_⟩
 refine aX.time (t:=c'.now) (fun y hy=>?_) r3.fol
 have hy':y∈c.certs.list:=by
  rw [r6] at hy;exact (tM ok.crt_up hi hy).1
 obtain ⟨j,hj,rfl⟩:=aY.1 hy';have hbj:=ok.known j hj;rw [r4,r5];refine ED (pt _ hbj).1 (pt _ hbj).2 ok.nowv (by rw [tm];exact rt.1) (by rw [tm];exact ge) (fun is=>?_)
 obtain ⟨d',hd',k1,k2⟩:=ok.fol.has _ hy' is;obtain ⟨w,hw,he⟩:=aY.1 k2
 have:=M7 ok.agd w hw
 rw [he] at this;exact Int.not_lt.1 fun k=>this (.inl (tJ.2 k))
end Go.Proofs.YtfejhjllooomlaaGreat
namespace Go.Proofs.YtfejhjllooomlaaGreat
open Go.Vm Classical
theorem IF {p q:Pt} {t:Int×Int} (hp:fS p) (hq:fS q) (ht:lO t) (hr:bF t):oO p q t=some (decide (fN p q t),if p.1=q.1 then 2 else 0)\/(p.1=q.1/\oO p q t=some (false,2)):=by
 unfold oO;rw [wL ht,if_pos ⟨hp,hq,hr⟩]
 by_cases h:p.1=q.1
 · right;simp [h]
 · left
   simp only [h,if_false,aB,vS hp hq ht]
   have:decide (0<TZ p q t)=decide (fN p q t):=by simp only [KS]
   simp [this]
end Go.Proofs.YtfejhjllooomlaaGreat
namespace Go.Proofs.YtfejhjllooomlaaGreat
theorem qI {α:Type} [BEq α] [LawfulBEq α]: ∀{a b:List α},a.Nodup->(∀x∈a,x∈b)->b.length<=a.length->a.Perm b
 | [],b,_,_,hl=>by
  rw [List.eq_nil_of_length_eq_zero (show b.length=0 by simpa using hl)]
 |x::a,b,hd,h,hl=>by
  rw [List.nodup_cons] at hd;have hx:=h x List.mem_cons_self;have ih:=qI (a:=a) (b:=b.erase x) hd.2 (fun y hy=>by
   rw [List.mem_erase_of_ne (fun e=>hd.1 (by rw [<- e];exact hy))]
   exact h y (List.mem_cons_of_mem _ hy)) (by
   rw [List.length_erase_of_mem hx];rw [List.length_cons] at hl
   omega)
  exact (List.Perm.cons x ih).trans (List.perm_cons_erase hx).symm
theorem zT {α β:Type} {f:α->β}: ∀{l:List α},l.Nodup->(∀x∈l,∀y∈l,f x=f y->x=y)->(l.map f).Nodup
 | [],_,_=>List.nodup_nil
 |x::l,h,hi=>by
  rw [List.nodup_cons] at h;rw [List.map_cons,List.nodup_cons];refine ⟨fun hm=>?_,zT h.2 fun y hy z hz=>hi y (List.mem_cons_of_mem _ hy) z (List.mem_cons_of_mem _ hz)⟩
  obtain ⟨y,hy,e⟩:=List.mem_map.1 hm
  have:=hi y (List.mem_cons_of_mem _ hy) x List.mem_cons_self e
  rw [this] at hy;exact h.1 hy
end Go.Proofs.YtfejhjllooomlaaGreat
namespace Go.Proofs.YtfejhjllooomlaaGreat
open Go.Vm Classical
def uR (l:List Int) (k:Nat):List (Int×Int):=(List.range k).map fun i=>(l[i+1]!,l[i / 2]!)
abbrev dL (l:List Int):List (Int×Int):=uR l (l.length-1)
theorem qJ (l:List Int) (k:Nat):(uR l k).length=k:=by unfold uR;rw [List.length_map,List.length_range]
theorem SF (l:List Int) (k:Nat):uR l (k+1)=uR l k++[(l[k+1]!,l[k / 2]!)]:=by
 unfold uR;rw [List.range_succ,List.map_append];rfl
theorem HT (l:List Int) {k i:Nat} (h:i<k):(uR l k)[i]! =(l[i+1]!,l[i / 2]!):=by
 rw [getElem!_pos _ i (by rw [qJ];exact h)]
 unfold uR;rw [List.getElem_map,List.getElem_range]
theorem LM (l:List Int) (hl:l.length<=1000):lY l=some (dL l):=by
 unfold lY;have key:=eG (body:=oK) (fun i=>(l,((i+1:Nat):Int),uR l i)) (l.length-1) (fun i hi=>by
  have e:aA .i64 (Int.tdiv (aA .i64 (((i+1:Nat):Int) -1)) 2)=((i / 2:Nat):Int):=by
   rw [show aA .i64 (((i+1:Nat):Int) -1)=(i:Int) from by rw [HJ ⟨by omega,by omega⟩];omega,Int.tdiv_eq_ediv_of_nonneg (by omega),HJ ⟨by omega,by omega⟩];omega
  unfold oK;simp only [aE,aR (show ((i+1:Nat):Int)<(l.length:Int) by omega),cond_true,aC l (i+1) (by omega),e,aC l (i / 2) (by omega),aB]
  rw [eU (by rw [qJ,List.length_singleton];omega),aB,bD (show i+1<1000000000 by omega),<- SF])
 rw [show (l,(1:Int),([]:List (Int×Int)))=(l,((0+1:Nat):Int),uR l 0) from rfl,key];refine aO ?_;unfold oK;simp only [aE,aM (show¬((l.length-1+1:Nat):Int)<(l.length:Int) by omega),cond_false]
theorem aN0 (l:List Int) (hl:l.length<=1000):FK l=some (dL l):=by rw [<- LM l hl];rfl
theorem G4 {l:List Int} {e:Int×Int} (h:e∈dL l):e.1∈l/\e.2∈l:=by
 obtain ⟨i,hi,rfl⟩:=aY.1 h;rw [qJ] at hi;rw [HT l hi];exact ⟨bL (by omega),bL (by omega)⟩
theorem SG {l:List Int} (hd:l.Nodup) {e:Int×Int} (h:e∈dL l):e.1≠e.2:=by
 obtain ⟨i,hi,rfl⟩:=aY.1 h;rw [qJ] at hi;rw [HT l hi];exact fun h=>gA.1 hd (i / 2) (i+1) (by omega) (by omega) h.symm
theorem HU {l:List Int} (hd:l.Nodup):(dL l).Nodup:=by
 unfold dL uR;refine zT List.nodup_range fun i hi j hj h=>?_
 rw [List.mem_range] at hi hj;have h1:l[i+1]! =l[j+1]!:=congrArg Prod.fst h;have h2:=gA.1 hd;rcases Nat.lt_trichotomy i j with k|k|k
 · exact absurd h1 (h2 (i+1) (j+1) (by omega) (by omega))
 · exact k
 · exact absurd h1.symm (h2 (j+1) (i+1) (by omega) (by omega))
theorem LN (l:List Int) (x:Int) (hl:l.length<=1000000):
 (∀k,k<l.length->l[k]! =x->(∀j,j<k->l[j]!≠x)->fY l x=some (k:Int))/\((∀k,k<l.length->l[k]!≠x)->fY l x=some (-1)):=by
 have k1:=jC (body:=jP) (fun i=>(l,x,(l.length:Int),(i:Int))) l.length (fun i=>l[i]! =x) (fun i=>(i:Int)) (e:= -1) (fun i hi=>by
  unfold jP;simp only [aR (show (i:Int)<(l.length:Int) by omega),cond_true,aC l i hi,aB,bD (show i<1000000000 by omega)]
  refine ⟨fun h=>?_,fun h=>?_⟩
  · rw [fM h.symm];rfl
  · rw [fR (fun k=>h k.symm)];rfl) (by
  unfold jP;simp only [aM (show¬(l.length:Int)<(l.length:Int) by omega),cond_false])
 exact ⟨fun k hk h1 h2=>k1.1 k hk h1 h2,fun h=>k1.2 h⟩
theorem OY (l:List Int) (x:Int) (hl:l.length<=1000000):jQ l x=some (decide (x∈l)):=by
 unfold jQ
 by_cases hx:x∈l
 · obtain ⟨k,k1,k2,k3⟩:=HK (c:=fun k=>l[k]! =x) (aY.1 hx)
   rw [(LN l x hl).1 k k1 k2 k3,aB,aR hx,aR (by omega)]
 · rw [(LN l x hl).2 (fun k hk h=>hx (aY.2 ⟨k,hk,h⟩)),aB,aM hx];rfl
theorem DG {f:List Pt} (fok:fO f) {id:Int} (h:tK f id):uD ⟨f⟩ id=some (fU f id,0):=by
 have h1:=fok.1;have hc:iX ⟨f⟩=some 0:=by rw [uN];exact congrArg some (sG.2 fok)
 have bs:=IT f id (by omega) (fun i j=>tQ fok.2.2)
 unfold uD BI D4;rw [aGy];simp only [hc,aB,show ((0:Int) !=0)=false from rfl,cond_false];obtain ⟨k,hk,he⟩:=h;rw [bs.1 k hk he];simp only [aB,Bool.not_true,cond_false,show ((0:Int) !=0)=false from rfl,aC f k hk,IU fok.2.2 hk he]
theorem aAP {f:List Pt} (fok:fO f) {t:Int×Int} (r:bF t) (r64:lO t) {a b:Int} (ha:tK f a) (hb:tK f b) (hne:a≠b):rS ⟨f⟩ t a b=some (decide (fN (fU f a) (fU f b) t)):=by
 unfold rS;rw [DG fok ha,aB,DG fok hb,aB];obtain ⟨p1,p2⟩:=eN fok ha;obtain ⟨q1,q2⟩:=eN fok hb;rcases IF p1 q1 r64 r with h|⟨h,_⟩
 · rw [h,aB]
 · rw [p2,q2] at h;exact absurd h hne
theorem aGD {f:List Pt} (fok:fO f) {t:Int×Int} (r64:lO t) {x:Int×Int} (hb:lI f x):zB x ⟨f⟩ t=some (decide (fN (fU f x.2) (fU f x.1) t)):=by
 obtain ⟨h1,h2⟩:=hb;obtain ⟨j,j1,j2,j3⟩:=EC fok h1;obtain ⟨k,k1,k2,k3⟩:=EC fok h2;unfold zB;simp only [j2,k2,aB,aC f j j1,aC f k k1,j3,k3,RI (eN fok h2).1 (eN fok h1).1 r64]
end Go.Proofs.YtfejhjllooomlaaGreat
namespace Go.Proofs.YtfejhjllooomlaaGreat
open Go.Vm Classical
def BW (f:List Pt):List Int:=f.map fun p=>p.1
theorem xT {f:List Pt} (h:lA f):(BW f).Nodup:=by
 refine zT ?_ ?_
 · exact gA.2 fun i j hij hj e=>by have:=tQ h hij hj;rw [e] at this;omega
 · intro x hx y hy e
   obtain ⟨i,hi,rfl⟩:=aY.1 hx;obtain ⟨j,hj,rfl⟩:=aY.1 hy;rw [KV h hi hj e]
theorem vV {f:List Pt} {id:Int}:id∈BW f↔tK f id:=by
 unfold BW tK;rw [List.mem_map];constructor
 · rintro ⟨p,hp,rfl⟩
   obtain ⟨i,hi,rfl⟩:=aY.1 hp;exact ⟨i,hi,rfl⟩
 · rintro ⟨i,hi,rfl⟩
   exact ⟨f[i]!,bL hi,rfl⟩
structure BX (k:dN):Prop where
 clk:aZ k.clock
 perm:(BW k.clock.field.points).Perm k.heap
 cert:(k.clock.certs.list.map fun x=>x.2).Perm (dL k.heap)
 lead: ∀e∈dL k.heap,fN (fU k.clock.field.points e.2) (fU k.clock.field.points e.1) k.clock.now
theorem HV {c:aW} (ok:dZ c):(c.list.map fun x=>x.2).Nodup:=by
 refine zT ?_ ?_
 · exact gA.2 fun i j hij hj e=>ok.nd i j hij hj (by rw [e])
 · intro x hx y hy e
   obtain ⟨i,hi,rfl⟩:=aY.1 hx;obtain ⟨j,hj,rfl⟩:=aY.1 hy;rcases Nat.lt_trichotomy i j with k|k|k
   · exact absurd e (ok.nd i j k hj)
   · rw [k]
   · exact absurd e.symm (ok.nd j i k hi)
def aAQ (k:dN):Prop:=(∀i,i<k.clock.field.points.length->(k.clock.field.points[i]!).1∈k.heap)/\(dL k.heap).length=k.clock.certs.list.length/\
 ∀i,i<k.clock.certs.list.length->(k.clock.certs.list[i]!).2∈dL k.heap/\fN (fU k.clock.field.points (k.clock.certs.list[i]!).2.2) (fU k.clock.field.points (k.clock.certs.list[i]!).2.1) k.clock.now
def SH (k:dN):Prop:=(∀i,i<k.heap.length->tK k.clock.field.points k.heap[i]!/\ ∀j,j<i->k.heap[j]!≠k.heap[i]!)/\k.clock.certs.list.length=(dL k.heap).length/\
 ∀i,i<(dL k.heap).length->uP k.clock.certs.list (dL k.heap)[i]!/\fN (fU k.clock.field.points ((dL k.heap)[i]!).2) (fU k.clock.field.points ((dL k.heap)[i]!).1) k.clock.now
theorem uS {l:List sH} {x:Int×Int}:uP l x↔x∈l.map fun y=>y.2:=by
 unfold uP;rw [List.mem_map];constructor
 · rintro ⟨i,hi,rfl⟩;exact ⟨l[i]!,bL hi,rfl⟩
 · rintro ⟨y,hy,rfl⟩
   obtain ⟨i,hi,rfl⟩:=aY.1 hy;exact ⟨i,hi,rfl⟩
theorem aN1 {k:dN} (ok:aZ k.clock) (hl:k.heap.length=k.clock.field.points.length):aAQ k↔BX k:=by
 have nd:=xT ok.fld.2.2;have il:(BW k.clock.field.points).length=k.clock.field.points.length:=List.length_map ..;have cl:(k.clock.certs.list.map fun x=>x.2).length=k.clock.certs.list.length:=List.length_map ..
 have cn:=HV ok.crt;constructor
 · rintro ⟨h1,h2,h3⟩
   have pm:(BW k.clock.field.points).Perm k.heap:=qI nd (fun x hx=>by
    obtain ⟨i,hi,rfl⟩:=vV.1 hx;exact h1 i hi) (by omega)
   have pc:(k.clock.certs.list.map fun x=>x.2).Perm (dL k.heap):=qI cn (fun x hx=>by
    obtain ⟨i,hi,rfl⟩:=uS.2 hx;exact (h3 i hi).1) (by omega)
   refine ⟨ok,pm,pc,fun e he=>?_⟩
   obtain ⟨i,hi,rfl⟩:=uS.2 (pc.mem_iff.2 he);exact (h3 i hi).2
 · intro h
   refine ⟨fun i hi=>h.perm.mem_iff.1 (vV.2 ⟨i,hi,rfl⟩),by rw [<- h.cert.length_eq,cl],fun i hi=>?_⟩
   have:=h.cert.mem_iff.1 (uS.1 ⟨i,hi,rfl⟩)
   exact ⟨this,h.lead _ this⟩
theorem aN2 {k:dN} (ok:aZ k.clock) (hl:k.heap.length=k.clock.field.points.length):SH k↔BX k:=by
 have nd:=xT ok.fld.2.2;have il:(BW k.clock.field.points).length=k.clock.field.points.length:=List.length_map ..;have cl:(k.clock.certs.list.map fun x=>x.2).length=k.clock.certs.list.length:=List.length_map ..
 constructor
 · rintro ⟨h1,h2,h3⟩
   have hn:k.heap.Nodup:=gA.2 fun i j hij hj e=>(h1 j hj).2 i hij e
   have pm:k.heap.Perm (BW k.clock.field.points):=qI hn (fun x hx=>by
    obtain ⟨i,hi,rfl⟩:=aY.1 hx;exact vV.2 (h1 i hi).1) (by omega)
   have pc:(dL k.heap).Perm (k.clock.certs.list.map fun x=>x.2):=qI (HU hn) (fun x hx=>by
    obtain ⟨i,hi,rfl⟩:=aY.1 hx;exact uS.1 (h3 i hi).1) (by omega)
   refine ⟨ok,pm.symm,pc.symm,fun e he=>?_⟩
   obtain ⟨i,hi,rfl⟩:=aY.1 he;exact (h3 i hi).2
 · intro h
   have hn:k.heap.Nodup:=h.perm.nodup_iff.1 nd;refine ⟨fun i hi=>⟨vV.1 (h.perm.mem_iff.2 (bL hi)),fun j hj e=>gA.1 hn j i hj hi e⟩,by rw [<- h.cert.length_eq,cl],fun i hi=>?_⟩
   exact ⟨uS.2 (h.cert.mem_iff.2 (bL hi)),h.lead _ (bL hi)⟩
theorem OZ {α:Type} {p q:Prop} [Decidable p] [Decidable q] {a b:α} (h:p↔q):(if p then a else b)=if q then a else b:=by
 by_cases hp:p
 · rw [if_pos hp,if_pos (h.1 hp)]
 · rw [if_neg hp,if_neg (fun k=>hp (h.2 k))]
theorem LO {k:dN} (fit:xS k.clock) (hl:k.heap.length<=1000):rT k=some (if BX k then 0 else 8):=by
 unfold rT;rw [mH fit,aB]
 by_cases ok:aZ k.clock
 case neg=>rw [if_neg ok,if_neg (fun h=>ok h.clk)];rfl
 rw [if_pos ok,bX rfl,cond_false]
 by_cases hh:k.heap.length=k.clock.field.points.length
 case neg=>
  rw [eS (by rw [aE,aE];omega),cond_true,if_neg (fun h=>hh ?_)]
  rw [<- h.perm.length_eq];exact List.length_map ..
 rw [bX (by rw [aE,aE];omega),cond_false,<- OZ (aN1 ok hh)]
 have bd:=ok.bd;have inner:=LL (body:=oP) (fun i=>(dL k.heap,k.clock.certs.list,(k.clock.certs.list.length:Int),(i:Int),k.clock.now.1,k.clock.now.2,k.clock.field.points,k.clock.certs.next_,k.clock.certs.list,k.clock.agenda.slots.uses,k.clock.agenda.slots.used,k.clock.agenda.slots.free,k.clock.agenda.heap,k.clock.agenda.where_,k.clock.due,k.heap)) k.clock.certs.list.length
  (fun i=>(k.clock.certs.list[i]!).2∈dL k.heap/\fN (fU k.clock.field.points (k.clock.certs.list[i]!).2.2) (fU k.clock.field.points (k.clock.certs.list[i]!).2.1) k.clock.now) (r:= .done 8) (e:= .done 0) (fun i hi=>by
  have hb:=ok.known i hi;have hv:=ok.crt.cv i hi;unfold oP;simp only [aR (show (i:Int)<(k.clock.certs.list.length:Int) by omega),cond_true,aC k.clock.certs.list i hi,aB,wT (dL k.heap) _ (by rw [qJ];omega),aAP ok.fld (t:=(k.clock.now.1,k.clock.now.2)) ok.nowv ok.now64 hb.2 hb.1 (fun h=>hv.2.2.2.2 h.symm),bD (show i<1000000000 by omega)]
  by_cases h1:(k.clock.certs.list[i]!).2∈dL k.heap
  · rw [aR h1]
    by_cases h2:fN (fU k.clock.field.points (k.clock.certs.list[i]!).2.2) (fU k.clock.field.points (k.clock.certs.list[i]!).2.1) k.clock.now
    · rw [show decide (fN (fU k.clock.field.points (k.clock.certs.list[i]!).2.2) (fU k.clock.field.points (k.clock.certs.list[i]!).2.1) (k.clock.now.1,k.clock.now.2))=true from aR h2]
      exact ⟨fun h=>absurd ⟨h1,h2⟩ h,fun _=>rfl⟩
    · rw [show decide (fN (fU k.clock.field.points (k.clock.certs.list[i]!).2.2) (fU k.clock.field.points (k.clock.certs.list[i]!).2.1) (k.clock.now.1,k.clock.now.2))=false from aM h2]
      exact ⟨fun _=>rfl,fun h=>absurd h.2 h2⟩
  · rw [aM h1]
    exact ⟨fun _=>rfl,fun h=>absurd h.1 h1⟩) (by
  unfold oP;simp only [aM (show¬(k.clock.certs.list.length:Int)<(k.clock.certs.list.length:Int) by omega),cond_false])
 have outer:=LL (body:=oQ) (fun i=>(k.clock.field.points,(k.clock.field.points.length:Int),(i:Int),k.clock.now.1,k.clock.now.2,k.clock.field.points,k.clock.certs.next_,k.clock.certs.list,k.clock.agenda.slots.uses,k.clock.agenda.slots.used,k.clock.agenda.slots.free,k.clock.agenda.heap,k.clock.agenda.where_,k.clock.due,k.heap)) k.clock.field.points.length
  (fun i=>(k.clock.field.points[i]!).1∈k.heap) (r:=8) (e:=if (dL k.heap).length=k.clock.certs.list.length/\ ∀i,i<k.clock.certs.list.length->(k.clock.certs.list[i]!).2∈dL k.heap/\fN (fU k.clock.field.points (k.clock.certs.list[i]!).2.2) (fU k.clock.field.points (k.clock.certs.list[i]!).2.1) k.clock.now then 0 else 8) (fun i hi=>by
  unfold oQ;simp only [aR (show (i:Int)<(k.clock.field.points.length:Int) by omega),cond_true,aC k.clock.field.points i hi,aB,OY k.heap _ (by omega),bD (show i<1000000000 by omega)]
  by_cases h1:(k.clock.field.points[i]!).1∈k.heap
  · rw [aR h1];exact ⟨fun h=>absurd h1 h,fun _=>rfl⟩
  · rw [aM h1];exact ⟨fun _=>rfl,fun h=>absurd h h1⟩) (by
  unfold oQ;simp only [aE,aM (show¬(k.clock.field.points.length:Int)<(k.clock.field.points.length:Int) by omega),cond_false,LM k.heap hl,aB]
  by_cases h1:(dL k.heap).length=k.clock.certs.list.length
  · rw [bX (by omega),cond_false]
    refine (show _=_ from inner).trans ?_
    by_cases h2: ∀i,i<k.clock.certs.list.length->(k.clock.certs.list[i]!).2∈dL k.heap/\fN (fU k.clock.field.points (k.clock.certs.list[i]!).2.2) (fU k.clock.field.points (k.clock.certs.list[i]!).2.1) k.clock.now
    · rw [if_pos h2,if_pos ⟨h1,h2⟩]
    · rw [if_neg h2,if_neg (fun h=>h2 h.2)]
  · rw [eS (by omega),cond_true,if_neg (fun h=>h1 h.1)])
 refine (show _=_ from outer).trans ?_
 by_cases h1: ∀i,i<k.clock.field.points.length->(k.clock.field.points[i]!).1∈k.heap
 · rw [if_pos h1]
   congr 1
   exact OZ (q:=aAQ k) ⟨fun h=>⟨h1,h.1,h.2⟩,fun h=>⟨h.2.1,h.2.2⟩⟩
 · rw [if_neg h1,if_neg (fun h:aAQ k=>h1 h.1)]
theorem aGE {c:aH} (ok:aZ c) (es:List (Int×Int)) (kn: ∀x∈es,lI c.field.points x):
 zC c es=some (decide (c.certs.list.length=es.length/\ ∀i,i<es.length->uP c.certs.list es[i]!/\fN (fU c.field.points (es[i]!).2) (fU c.field.points (es[i]!).1) c.now)):=by
 have bd:=ok.bd;unfold zC;simp only [aE]
 by_cases h0:c.certs.list.length=es.length
 case neg=>rw [eS (by omega),cond_true,aM (fun h=>h0 h.1)]
 rw [bX (by omega),cond_false]
 have key:=LL (body:=qU) (fun i=>(es,(i:Int),c.now.1,c.now.2,c.field.points,c.certs.next_,c.certs.list,c.agenda.slots.uses,c.agenda.slots.used,c.agenda.slots.free,c.agenda.heap,c.agenda.where_,c.due)) es.length
  (fun i=>uP c.certs.list es[i]!/\fN (fU c.field.points (es[i]!).2) (fU c.field.points (es[i]!).1) c.now) (r:=false) (e:=true) (fun i hi=>by
  have ceta2:aW.mk c.certs.next_ c.certs.list=c.certs:=rfl;unfold qU;simp only [aE,aR (show (i:Int)<(es.length:Int) by omega),cond_true,aC es i hi,aB,ceta2,zS c.certs es[i]! (by omega),aGD ok.fld (t:=(c.now.1,c.now.2)) ok.now64 (kn _ (bL hi)),bD (show i<1000000000 by omega)]
  by_cases h1:uP c.certs.list es[i]!
  · rw [aR h1]
    by_cases h2:fN (fU c.field.points (es[i]!).2) (fU c.field.points (es[i]!).1) c.now
    · rw [show decide (fN (fU c.field.points (es[i]!).2) (fU c.field.points (es[i]!).1) (c.now.1,c.now.2))=true from aR h2]
      exact ⟨fun h=>absurd ⟨h1,h2⟩ h,fun _=>rfl⟩
    · rw [show decide (fN (fU c.field.points (es[i]!).2) (fU c.field.points (es[i]!).1) (c.now.1,c.now.2))=false from aM h2]
      exact ⟨fun _=>rfl,fun h=>absurd h.2 h2⟩
  · rw [aM h1]
    exact ⟨fun _=>rfl,fun h=>absurd h.1 h1⟩) (by
  unfold qU;simp only [aE,aM (show¬(es.length:Int)<(es.length:Int) by omega),cond_false])
 refine (show _=_ from key).trans ?_
 by_cases h2: ∀i,i<es.length->uP c.certs.list es[i]!/\fN (fU c.field.points (es[i]!).2) (fU c.field.points (es[i]!).1) c.now
 · rw [if_pos h2,aR ⟨h0,h2⟩]
 · rw [if_neg h2,aM (fun h=>h2 h.2)]
theorem aGF {σ ρ:Type} {body:σ->Option (bY σ ρ)} (st:Nat->σ) (n:Nat) (P:Nat->Prop) {r:ρ} (h: ∀i,i<n->(¬P i->body (st i)=some (.done r))/\(P i->body (st i)=some (.next (st (i+1)))))
 (hx: ¬ ∀i,i<n->P i):aJ body (st 0)=some r:=by
 obtain ⟨i,hi⟩:=Classical.not_forall.1 hx;obtain ⟨hi,hx⟩:=Classical.not_imp.1 hi;obtain ⟨m,m1,m2,m3⟩:=HK (c:=fun i=> ¬P i) ⟨i,hi,hx⟩
 rw [eG st m fun j hj=>(h j (by omega)).2 (Classical.not_not.1 (m3 j hj))]
 exact aO ((h m m1).1 m2)
def ckS (k:dN) (i:Nat):=((i:Int),k.clock.now.1,k.clock.now.2,k.clock.field.points,k.clock.certs.next_,k.clock.certs.list,k.clock.agenda.slots.uses,k.clock.agenda.slots.used,k.clock.agenda.slots.free,k.clock.agenda.heap,k.clock.agenda.where_,k.clock.due,k.heap)
theorem LQ {k:dN} (fit:xS k.clock) (hl:k.heap.length<=1000):vO k=some (if BX k then 0 else 8):=by
 unfold vO;rw [LJ fit,aB]
 by_cases ok:aZ k.clock
 case neg=>rw [if_neg ok,if_neg (fun h=>ok h.clk)];rfl
 rw [if_pos ok,bX rfl,cond_false]
 by_cases hh:k.heap.length=k.clock.field.points.length
 case neg=>
  rw [eS (by rw [aE,aE];omega),cond_true,if_neg (fun h=>hh ?_)]
  rw [<- h.perm.length_eq];exact List.length_map ..
 rw [bX (by rw [aE,aE];omega),cond_false,<- OZ (aN2 ok hh)]
 have bd:=ok.bd;have step: ∀i,i<k.heap.length->(¬(tK k.clock.field.points k.heap[i]!/\ ∀j,j<i->k.heap[j]!≠k.heap[i]!)->iK (ckS k i)=some (.done 8))/\((tK k.clock.field.points k.heap[i]!/\ ∀j,j<i->k.heap[j]!≠k.heap[i]!)->iK (ckS k i)=some (.next (ckS k (i+1)))):=by
  intro i hi;unfold ckS;unfold iK;simp only [aE,aR (show (i:Int)<(k.heap.length:Int) by omega),cond_true,aC k.heap i hi,aB]
  by_cases h1:tK k.clock.field.points k.heap[i]!
  case neg=>
   rw [UB ok.fld h1];exact ⟨fun _=>rfl,fun h=>absurd h.1 h1⟩
  obtain ⟨m,m1,m2,m3⟩:=EC ok.fld h1;rw [m2];simp only [aB,aM (show¬(m:Int)<0 by omega),cond_false]
  have inner:=LL (body:=oW) (fun j=>((i:Int),(j:Int),k.clock.now.1,k.clock.now.2,k.clock.field.points,k.clock.certs.next_,k.clock.certs.list,k.clock.agenda.slots.uses,k.clock.agenda.slots.used,k.clock.agenda.slots.free,k.clock.agenda.heap,k.clock.agenda.where_,k.clock.due,k.heap)) i
   (fun j=>k.heap[j]!≠k.heap[i]!) (r:= .done 8) (e:= .next (((i+1:Nat):Int),k.clock.now.1,k.clock.now.2,k.clock.field.points,k.clock.certs.next_,k.clock.certs.list,k.clock.agenda.slots.uses,k.clock.agenda.slots.used,k.clock.agenda.slots.free,k.clock.agenda.heap,k.clock.agenda.where_,k.clock.due,k.heap)) (fun j hj=>by
   unfold oW;simp only [aR (show (j:Int)<(i:Int) by omega),cond_true,aC k.heap j (by omega),aC k.heap i hi,aB,bD (show j<1000000000 by omega)]
   by_cases h:k.heap[j]! =k.heap[i]!
   · rw [fM h];exact ⟨fun _=>rfl,fun k=>absurd h k⟩
   · rw [fR h];exact ⟨fun k=>absurd h k,fun _=>rfl⟩) (by
   unfold oW;simp only [aM (show¬(i:Int)<(i:Int) by omega),cond_false,bD (show i<1000000000 by omega)])
  have inner':=(show _=_ from inner)
  by_cases h2: ∀j,j<i->k.heap[j]!≠k.heap[i]!
  · rw [if_pos h2] at inner'
    exact ⟨fun h=>absurd ⟨h1,h2⟩ h,fun _=>inner'⟩
  · rw [if_neg h2] at inner'
    exact ⟨fun _=>inner',fun h=>absurd h.2 h2⟩
 by_cases hP: ∀i,i<k.heap.length->tK k.clock.field.points k.heap[i]!/\ ∀j,j<i->k.heap[j]!≠k.heap[i]!
 · have jus:=aGE ok (dL k.heap) (fun x hx=>by
    obtain ⟨h1,h2⟩:=G4 hx;obtain ⟨i,hi,e1⟩:=aY.1 h1;obtain ⟨j,hj,e2⟩:=aY.1 h2;exact ⟨e1▸(hP i hi).1,e2▸(hP j hj).1⟩)
   have o:=LL (body:=iK) (ckS k) k.heap.length _ (r:=8) (e:=if SH k then 0 else 8) step (by
    have ceta:(aH.mk (k.clock.now.1,k.clock.now.2) (Field.mk k.clock.field.points) (aW.mk k.clock.certs.next_ k.clock.certs.list) (aG.mk (aS.mk k.clock.agenda.slots.uses k.clock.agenda.slots.used k.clock.agenda.slots.free) k.clock.agenda.heap k.clock.agenda.where_) k.clock.due)=k.clock:=rfl;unfold iK ckS
    simp only [aE,aM (show¬(k.heap.length:Int)<(k.heap.length:Int) by omega),cond_false,aN0 k.heap hl,aB,ceta,jus]
    by_cases h2:k.clock.certs.list.length=(dL k.heap).length/\ ∀i,i<(dL k.heap).length->uP k.clock.certs.list (dL k.heap)[i]!/\fN (fU k.clock.field.points ((dL k.heap)[i]!).2) (fU k.clock.field.points ((dL k.heap)[i]!).1) k.clock.now
    · rw [aR h2,if_pos (show SH k from ⟨hP,h2.1,h2.2⟩)];rfl
    · rw [aM h2,if_neg (fun h:SH k=>h2 ⟨h.2.1,h.2.2⟩)];rfl)
   refine (show _=_ from o).trans ?_;rw [if_pos hP]
 · rw [if_neg (fun h:SH k=>hP h.1)]
   exact aGF (body:=iK) (ckS k) k.heap.length _ (r:=8) step hP
end Go.Proofs.YtfejhjllooomlaaGreat
