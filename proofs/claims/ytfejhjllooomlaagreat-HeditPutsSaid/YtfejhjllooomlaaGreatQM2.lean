/- Plain laws (2). -/
import Derived.Test.YtfejhjllooomlaaGreatQM1
namespace Go.Proofs.YtfejhjllooomlaaGreat
open Go.Vm Classical
theorem QL (a:aG) (fit:C4 a) (so:fB a.slots) (wl:a.where_.length=a.slots.uses.length):
 aJ mL (a.where_,(a.where_.length:Int),0,a.slots.uses,a.slots.used,a.slots.free,a.heap,a.where_)=some (if (∀i,i<a.slots.uses.length->MS a i)/\(∀k,k<a.heap.length->NJ a.heap k) then 0 else 8):=by
 have hu:=so.ul;have hn:=so.n2;have hh:=fit.hp;have inner:=QK a.heap a.slots.uses a.slots.free a.where_ a.slots.used fit.hp fit.at64
 have key:=dD (body:=mL) (fun i=>(a.where_,(a.where_.length:Int),(i:Int),a.slots.uses,a.slots.used,a.slots.free,a.heap,a.where_)) a.where_.length (fun i=> ¬MS a i) (r:=8) (e:=if (∀k,k<a.heap.length->NJ a.heap k) then 0 else 8) (fun i hi=>by
  have e1:decide ((i:Int)<(a.where_.length:Int))=true:=aO (by omega)
  unfold mL;simp only [aE,e1,cond_true,aB a.where_ i hi,aB a.slots.used i (by omega),aB a.slots.uses i (by omega),aC,bC (show i<1000000000 by omega)]
  unfold MS;generalize a.where_[i]! =w at*;cases hb:a.slots.used[i]! with
  |false=>
   simp only [Bool.not_false,cond_true]
   by_cases hw:w= -1
   · rw [bP hw]
     exact ⟨fun h=>absurd ⟨fun h=>(by cases h),fun _=>hw⟩ h,fun _=>rfl⟩
   · rw [fA hw]
     exact ⟨fun _=>rfl,fun h=>absurd ((Classical.not_not.1 h).2 trivial) hw⟩
  |true=>
   simp only [Bool.not_true,cond_false]
   by_cases b1:w<0
   · rw [aO b1]
     exact ⟨fun _=>rfl,fun h=>absurd ((Classical.not_not.1 h).1 trivial).1 (by omega)⟩
   by_cases b2:(a.heap.length:Int)<=w
   · rw [aL b1,aO b2]
     exact ⟨fun _=>rfl,fun h=>absurd ((Classical.not_not.1 h).1 trivial).2.1 (by omega)⟩
   rw [aL b1,aL b2];simp only [cond_false,dU (l:=a.heap) (i:=w) (by omega) (by omega),aC]
   by_cases b3:(a.heap[w.toNat]!).2.2.2.1=i
   · by_cases b4:(a.heap[w.toNat]!).2.2.2.2=a.slots.uses[i]!
     · rw [gH b3,gH b4]
       exact ⟨fun h=>absurd ⟨fun _=>⟨by omega,by omega,b3,b4⟩,fun h=>(by cases h)⟩ h,fun _=>rfl⟩
     · rw [gH b3,fS b4]
       exact ⟨fun _=>rfl,fun h=>absurd ((Classical.not_not.1 h).1 trivial).2.2.2 b4⟩
   · rw [fS b3]
     exact ⟨fun _=>rfl,fun h=>absurd ((Classical.not_not.1 h).1 trivial).2.2.1 b3⟩) (by
  unfold mL
  have:decide ((a.where_.length:Int)<(a.where_.length:Int))=false:=aL (by omega)
  simp only [aE,this,cond_false]
  by_cases hx: ∀k,k<a.heap.length->NJ a.heap k
  · rw [if_pos hx];exact inner.1 hx
  · rw [if_neg hx];exact inner.2 hx)
 by_cases hw: ∀i,i<a.slots.uses.length->MS a i
 · refine (key.2 fun i hi=>Classical.not_not.2 (hw i (by omega))).trans ?_
   by_cases hx: ∀k,k<a.heap.length->NJ a.heap k
   · rw [if_pos hx,if_pos ⟨hw,hx⟩]
   · rw [if_neg hx,if_neg (fun h=>hx h.2)]
 · rw [if_neg (fun h=>hw h.1)]
   obtain ⟨i,h⟩:=Classical.not_forall.1 hw;obtain ⟨hi,hx⟩:=Classical.not_imp.1 h;exact key.1 ⟨i,by omega,hx⟩
theorem mN (a:aG) (fit:C4 a):lZ a=some (if eZ a then 0 else 8):=by
 have hh:=fit.hp;unfold lZ;rw [yT _ fit.fr];simp only [aE]
 by_cases so:fB a.slots
 case neg=>rw [if_neg so,if_neg (fun h=>so h.so)];rfl
 have hu:=so.ul;have hn:=so.n2;have hf:=so.fl;rw [if_pos so];simp only [aC,show ((0:Int) !=0)=false from rfl,cond_false]
 by_cases wl:a.where_.length=a.slots.uses.length
 case neg=>
  rw [fA (by omega),if_neg (fun h=>wl h.wl)];rfl
 rw [bP (by omega)]
 have e:aA .i64 ((a.slots.used.length:Int) - (a.slots.free.length:Int))=((a.slots.uses.length-a.slots.free.length:Nat):Int):=by rw [wi];omega
 rw [e]
 by_cases hl:a.heap.length+a.slots.free.length=a.slots.uses.length
 case neg=>
  rw [fA (by omega),if_neg (fun h=>hl h.hl)];rfl
 rw [bP (by omega)]
 simp only [cond_false];rw [QL a fit so wl]
 by_cases ok:eZ a
 · rw [if_pos ok,if_pos ok.to]
 · rw [if_neg ok,if_neg]
   intro h;exact ok (eZ.of fit so wl hl h.1 h.2)
theorem aCs {x y:Ev} (hx:rJ (x.1,x.2.1)) (hy:rJ (y.1,y.2.1)):eN x y=some (decide (dR x y)):=by
 unfold eN dR;rw [MD hx hy];simp only [aC];generalize FS (x.1,x.2.1) (y.1,y.2.1)=c
 by_cases h1:c<0
 · simp [h1]
 · by_cases h2:c=0
   · subst h2;simp
   · simp only [h1,fS h2,h2,decide_false,cond_false,false_or,false_and]
theorem YQ {s:aR} (ok:fB s) (h:Int×Int):wR s h=some (decide (yE s h)):=by
 have hu:=ok.ul;unfold wR yE;simp only [aE]
 by_cases a1:0<=h.1
 · by_cases a2:h.1<s.uses.length
   · simp only [a1,a2,decide_true,cond_true,dU (l:=s.used) a1 (by omega),dU (l:=s.uses) a1 a2,aC,true_and]
     generalize s.uses[h.1.toNat]! =u;cases s.used[h.1.toNat]!<;>simp [YN]
   · simp [a1,a2]
 · simp [a1]
theorem aAg (a:aG) (so:fB a.slots):vM a=some (decide (a.where_.length=a.slots.uses.length/\a.heap.length+a.slots.free.length=a.slots.uses.length/\ ∀i,i<a.slots.uses.length->MS a i)):=by
 have hu:=so.ul;have hn:=so.n2;have hf:=so.fl;unfold vM;simp only [aE]
 by_cases wl:a.where_.length=a.slots.uses.length
 case neg=>
  rw [fA (by omega),aL (fun h=>wl h.1)];rfl
 rw [bP (by omega)]
 have e:aA .i64 ((a.slots.uses.length:Int) - (a.slots.free.length:Int))=((a.slots.uses.length-a.slots.free.length:Nat):Int):=by rw [wi];omega
 rw [e]
 by_cases hl:a.heap.length+a.slots.free.length=a.slots.uses.length
 case neg=>
  rw [fA (by omega),aL (fun h=>hl h.2.1)];rfl
 rw [bP (by omega)]
 simp only [cond_false];have key:=dD (body:=oZ) (fun i=>((a.slots.uses.length:Int),(i:Int),a.slots.uses,a.slots.used,a.slots.free,a.heap,a.where_)) a.slots.uses.length (fun i=> ¬MS a i) (r:=false) (e:=true) (fun i hi=>by
  have e1:decide ((i:Int)<(a.slots.uses.length:Int))=true:=aO (by omega)
  unfold oZ;simp only [aE,e1,cond_true,aB a.where_ i (by omega),aB a.slots.used i (by omega),aC,bC (show i<1000000000 by omega)]
  unfold MS;generalize a.where_[i]! =w at*;cases hb:a.slots.used[i]! with
  |false=>
   simp only [Bool.not_false,cond_true]
   by_cases hw:w= -1
   · rw [bP hw]
     exact ⟨fun h=>absurd ⟨fun h=>(by cases h),fun _=>hw⟩ h,fun _=>rfl⟩
   · rw [fA hw]
     exact ⟨fun _=>rfl,fun h=>absurd ((Classical.not_not.1 h).2 trivial) hw⟩
  |true=>
   simp only [Bool.not_true,cond_false]
   by_cases b1:w<0
   · rw [aO b1]
     exact ⟨fun _=>rfl,fun h=>absurd ((Classical.not_not.1 h).1 trivial).1 (by omega)⟩
   by_cases b2:(a.heap.length:Int)<=w
   · rw [aL b1,aO b2]
     exact ⟨fun _=>rfl,fun h=>absurd ((Classical.not_not.1 h).1 trivial).2.1 (by omega)⟩
   rw [aL b1,aL b2];simp only [cond_false,dU (l:=a.heap) (i:=w) (by omega) (by omega),aC]
   by_cases b3:(a.heap[w.toNat]!).2.2.2.1=i
   · rw [bP b3]
     simp only [cond_false];rw [YQ (s:=⟨a.slots.uses,a.slots.used,a.slots.free⟩) so];have lv:yE ⟨a.slots.uses,a.slots.used,a.slots.free⟩ (a.heap[w.toNat]!).2.2.2↔(a.heap[w.toNat]!).2.2.2.2=a.slots.uses[i]!:=by
      unfold yE;dsimp only;rw [b3];constructor
      · intro h;exact h.2.2.2.symm
      · intro h;exact ⟨by omega,by omega,by rw [Int.toNat_natCast];exact hb,by rw [Int.toNat_natCast];exact h.symm⟩
     simp only [aC,lv]
     by_cases b4:(a.heap[w.toNat]!).2.2.2.2=a.slots.uses[i]!
     · rw [aO b4]
       exact ⟨fun h=>absurd ⟨fun _=>⟨by omega,by omega,b3,b4⟩,fun h=>(by cases h)⟩ h,fun _=>rfl⟩
     · rw [aL b4]
       exact ⟨fun _=>rfl,fun h=>absurd ((Classical.not_not.1 h).1 trivial).2.2.2 b4⟩
   · rw [fA b3]
     exact ⟨fun _=>rfl,fun h=>absurd ((Classical.not_not.1 h).1 trivial).2.2.1 b3⟩) (by
  unfold oZ
  have:decide ((a.slots.uses.length:Int)<(a.slots.uses.length:Int))=false:=aL (by omega)
  simp only [this,cond_false])
 by_cases hw: ∀i,i<a.slots.uses.length->MS a i
 · rw [aO ⟨wl,hl,hw⟩]
   exact key.2 fun i hi=>Classical.not_not.2 (hw i hi)
 · rw [aL (fun h=>hw h.2.2)]
   obtain ⟨i,h⟩:=Classical.not_forall.1 hw;obtain ⟨hi,hx⟩:=Classical.not_imp.1 h;exact key.1 ⟨i,hi,hx⟩
theorem TL (H:List Ev) (u fr W:List Int) (us:List Bool) (k:Nat) (hk:k<H.length) (hl:H.length<=1000000) (x:Ev):
 ((∃j,j<k/\(H[j]!).2.2.1=x.2.2.1)->aJ lD ((k:Int),0,u,us,fr,H,W,x)=some (.done 8))/\
 ((∀j,j<k-> ¬(H[j]!).2.2.1=x.2.2.1)->aJ lD ((k:Int),0,u,us,fr,H,W,x)=some (.next (((k+1:Nat):Int),u,us,fr,H,W))):=by
 refine dD (body:=lD) (fun j=>((k:Int),(j:Int),u,us,fr,H,W,x)) k (fun j=>(H[j]!).2.2.1=x.2.2.1) (r:= .done 8) (e:= .next (((k+1:Nat):Int),u,us,fr,H,W)) (fun j hj=>?_) ?_
 · have e1:decide ((j:Int)<(k:Int))=true:=aO (by omega)
   unfold lD;simp only [e1,cond_true,aB H j (by omega),aC,bC (show j<1000000000 by omega)]
   constructor
   · intro h;rw [gH h];rfl
   · intro h;rw [fS h];rfl
 · unfold lD
   have:decide ((k:Int)<(k:Int))=false:=aL (by omega)
   simp only [this,cond_false,bC (show k<1000000000 by omega)]
theorem TM (H:List Ev) (u fr W:List Int) (us:List Bool) (hl:H.length<=1000000) (r64: ∀w,w<H.length->rJ ((H[w]!).1,(H[w]!).2.1)):
 aJ lE (1,u,us,fr,H,W)=some (.done (if∀k,0<k->k<H.length-> ¬dR H[k]! H[(k-1) / 2]! then 0 else 8)):=by
 by_cases h0:H.length=0
 · rw [if_pos (fun k _ hk=>by omega)]
   refine aI ?_;unfold lE
   have:decide ((1:Int)<(H.length:Int))=false:=aL (by omega)
   simp only [aE,this,cond_false]
 have key:=dD (body:=lE) (fun i=>(((i+1:Nat):Int),u,us,fr,H,W)) (H.length-1) (fun i=>dR H[i+1]! H[i / 2]!) (r:= .done 8) (e:= .done 0) (fun i hi=>by
  have e1:decide (((i+1:Nat):Int)<(H.length:Int))=true:=aO (by omega)
  unfold lE;simp only [aE,e1,cond_true,uV (show i<1000000000 by omega),aB H (i+1) (by omega),aB H (i / 2) (by omega),aC,aCs (r64 (i+1) (by omega)) (r64 (i / 2) (by omega)),bC (show i+1<1000000000 by omega)]
  constructor
  · intro h;rw [aO h];rfl
  · intro h;rw [aL h];rfl) (by
  unfold lE
  have:decide (((H.length-1+1:Nat):Int)<(H.length:Int))=false:=aL (by omega)
  simp only [aE,this,cond_false])
 by_cases ho: ∀k,0<k->k<H.length-> ¬dR H[k]! H[(k-1) / 2]!
 · rw [if_pos ho]
   refine key.2 fun i hi hc=>ho (i+1) (by omega) (by omega) ?_
   rwa [show (i+1-1) / 2=i / 2 by omega]
 · rw [if_neg ho]
   obtain ⟨k,h⟩:=Classical.not_forall.1 ho;obtain ⟨k0,h⟩:=Classical.not_imp.1 h;obtain ⟨hk,hx⟩:=Classical.not_imp.1 h;refine key.1 ⟨k-1,by omega,?_⟩
   rw [show k-1+1=k by omega]
   exact Classical.not_not.1 hx
def QM (H:List Ev) (k:Nat):Prop:=cK ((H[k]!).1,(H[k]!).2.1)/\0<=(H[k]!).2.2.1/\(H[k]!).2.2.1<=1000000/\(∀j,j<k-> ¬(H[j]!).2.2.1=(H[k]!).2.2.1)
theorem C5 (a:aG) (fit:C4 a):uK a=some (if eZ a then 0 else 8):=by
 have hh:=fit.hp;unfold uK;rw [MR _ fit.fr]
 by_cases so:fB a.slots
 case neg=>rw [if_neg so,if_neg (fun h=>so h.so)];rfl
 rw [if_pos so];simp only [aC,show ((0:Int) !=0)=false from rfl,cond_false,aAg a so]
 by_cases pl:a.where_.length=a.slots.uses.length/\a.heap.length+a.slots.free.length=a.slots.uses.length/\ ∀i,i<a.slots.uses.length->MS a i
 case neg=>
  rw [aL pl,if_neg (fun h=>pl ⟨h.wl,h.hl,h.to.1⟩)];rfl
 rw [aO pl];obtain ⟨wl,hl,hw⟩:=pl;simp only [Bool.not_true,cond_false];have key:=dD (body:=rA) (fun k=>((k:Int),a.slots.uses,a.slots.used,a.slots.free,a.heap,a.where_)) a.heap.length (fun k=> ¬QM a.heap k) (r:=8) (e:=if∀k,0<k->k<a.heap.length-> ¬dR a.heap[k]! a.heap[(k-1) / 2]! then 0 else 8) (fun k hk=>by
  have e1:decide ((k:Int)<(a.heap.length:Int))=true:=aO (by omega)
  have l1:=TL a.heap a.slots.uses a.slots.free a.where_ a.slots.used k hk hh a.heap[k]!;unfold rA;simp only [aE,e1,cond_true,aB a.heap k hk,aC,C1 (fit.at64 k hk)];unfold QM
  by_cases b1:cK ((a.heap[k]!).1,(a.heap[k]!).2.1)
  case neg=>
   rw [if_neg b1];exact ⟨fun _=>rfl,fun h=>absurd (Classical.not_not.1 h).1 b1⟩
  rw [if_pos b1]
  by_cases b2:(a.heap[k]!).2.2.1<0
  · rw [aO b2]
    exact ⟨fun _=>rfl,fun h=>absurd (Classical.not_not.1 h).2.1 (by omega)⟩
  by_cases b3:1000000<(a.heap[k]!).2.2.1
  · rw [aL b2,aO b3]
    exact ⟨fun _=>rfl,fun h=>absurd (Classical.not_not.1 h).2.2.1 (by omega)⟩
  rw [aL b2,aL b3];simp only [show ((0:Int) !=0)=false from rfl,cond_false]
  by_cases b4: ∃j,j<k/\(a.heap[j]!).2.2.1=(a.heap[k]!).2.2.1
  · refine ⟨fun _=>l1.1 b4,fun h=>?_⟩
    obtain ⟨j,j1,j2⟩:=b4;exact absurd j2 ((Classical.not_not.1 h).2.2.2 j j1)
  · have b4': ∀j,j<k-> ¬(a.heap[j]!).2.2.1=(a.heap[k]!).2.2.1:=fun j h1 h2=>b4 ⟨j,h1,h2⟩
    exact ⟨fun h=>absurd ⟨b1,by omega,by omega,b4'⟩ h,fun _=>l1.2 b4'⟩) (by
  unfold rA
  have:decide ((a.heap.length:Int)<(a.heap.length:Int))=false:=aL (by omega)
  simp only [aE,this,cond_false];exact TM a.heap _ _ _ _ hh fit.at64)
 have same:eZ a↔(∀k,k<a.heap.length->QM a.heap k)/\ ∀k,0<k->k<a.heap.length-> ¬dR a.heap[k]! a.heap[(k-1) / 2]!:=by
  constructor
  · intro ok
    refine ⟨fun k hk=>?_,ok.ord⟩
    have:=ok.to.2 k hk
    exact ⟨this.1,this.2.1,this.2.2.1,this.2.2.2.1⟩
  · rintro ⟨h1,h2⟩
    refine eZ.of fit so wl hl hw fun k hk=>?_
    obtain ⟨c1,c2,c3,c4⟩:=h1 k hk;refine ⟨c1,c2,c3,c4,fun k0=>?_⟩
    unfold V7;rw [if_pos ⟨c1,(h1 ((k-1) / 2) (by omega)).1⟩,G2]
    exact h2 k k0 hk
 by_cases he: ∀k,k<a.heap.length->QM a.heap k
 · refine (key.2 fun i hi=>Classical.not_not.2 (he i hi)).trans ?_
   by_cases ho: ∀k,0<k->k<a.heap.length-> ¬dR a.heap[k]! a.heap[(k-1) / 2]!
   · rw [if_pos ho,if_pos (same.2 ⟨he,ho⟩)]
   · rw [if_neg ho,if_neg (fun h=>ho (same.1 h).2)]
 · rw [if_neg (fun h=>he (same.1 h).1)]
   obtain ⟨i,h⟩:=Classical.not_forall.1 he;obtain ⟨hi,hx⟩:=Classical.not_imp.1 h;exact key.1 ⟨i,hi,hx⟩
end Go.Proofs.YtfejhjllooomlaaGreat
namespace Go.Proofs.YtfejhjllooomlaaGreat
open Go.Vm Classical
theorem EV {l:List Ev} {n:Nat} {e:Ev} (hn:n<=l.length):e∈l.take n↔ ∃w,w<n/\l[w]! =e:=by
 rw [cL];constructor
 · rintro ⟨i,h1,_,h3⟩;exact ⟨i,h1,h3⟩
 · rintro ⟨i,h1,h3⟩;exact ⟨i,h1,by omega,h3⟩
theorem aJF {s:aR} (so:fB s) {n:Nat} {H:List Ev} {W:List Int} (E:Ev->Prop) (hn:n<=H.length) (wl:W.length=s.uses.length) (hl:n+s.free.length=s.uses.length)
 (ix: ∀w,w<n->0<=(H[w]!).ix/\(H[w]!).ix<W.length/\W[(H[w]!).n]! =(w:Int)) (mem: ∀e,(∃w,w<n/\H[w]! =e)↔E e) (ord: ∀k,0<k->k<n-> ¬dR H[k]! H[(k-1) / 2]!)
 (ue: ∀i,i<s.uses.length->s.used[i]! =true-> ∃e:Ev,E e/\e.ix=i/\e.2.2.2.2=s.uses[i]!) (un: ∀i,i<s.uses.length->s.used[i]! =false->W[i]! = -1)
 (ev: ∀e,E e->sI e) (nums: ∀e f:Ev,E e->E f->e.num=f.num->e.ix=f.ix):eZ ⟨s,H.take n,W⟩:=by
 have len:(H.take n).length=n:=by rw [List.length_take];omega
 have cell: ∀w,w<n->(H.take n)[w]! =H[w]!:=fun w hw=>mV hw
 refine ⟨so,wl,by show (H.take n).length+_=_;rw [len];exact hl,?_,un,?_,?_,?_⟩
 · intro i hi hu
   dsimp only at hi hu ⊢;rw [len];obtain ⟨e,he,e1,e2⟩:=ue i hi hu;obtain ⟨w,hw,rfl⟩:=(mem e).2 he;obtain ⟨a1,a2,a3⟩:=ix w hw;have hn':(H[w]!).n=i:=by show ((H[w]!).ix).toNat=i;omega
   rw [hn'] at a3;rw [a3,Int.toNat_natCast,cell w hw];exact ⟨by omega,by omega,e1,e2⟩
 · intro w hw
   dsimp only at hw ⊢;rw [len] at hw;rw [cell w hw];exact ev _ ((mem _).1 ⟨w,hw,rfl⟩)
 · intro v w hv hw
   dsimp only at hw ⊢;rw [len] at hw;rw [cell v (by omega),cell w hw]
   intro hc
   have:=nums _ _ ((mem _).1 ⟨v,by omega,rfl⟩) ((mem _).1 ⟨w,hw,rfl⟩) hc
   obtain ⟨a1,a2,a3⟩:=ix v (by omega)
   obtain ⟨b1,b2,b3⟩:=ix w hw;have hn':(H[v]!).n=(H[w]!).n:=by show ((H[v]!).ix).toNat=((H[w]!).ix).toNat;rw [this]
   rw [hn'] at a3;omega
 · intro k k0 hk
   dsimp only at hk ⊢;rw [len] at hk;rw [cell k hk,cell _ (by omega)]
   exact ord k k0 hk
theorem yW {s:aR} (so:fB s) {n:Nat} {x:Ev} {M:Ev->Prop} {K:Nat->Prop} {H H1:List Ev} {W W1:List Int} (st:D6 n x M K H W H1 W1) (hn:n<=H.length) (wl:W.length=s.uses.length) (hl:n+s.free.length=s.uses.length)
 (ue: ∀i,i<s.uses.length->s.used[i]! =true-> ∃e:Ev,(e=x\/M e)/\e.ix=i/\e.2.2.2.2=s.uses[i]!) (un: ∀i,i<s.uses.length->s.used[i]! =false->K i/\W[i]! = -1)
 (ev: ∀e,(e=x\/M e)->sI e) (nums: ∀e f:Ev,(e=x\/M e)->(f=x\/M f)->e.num=f.num->e.ix=f.ix):eZ ⟨s,H1.take n,W1⟩:=by
 refine aJF so (fun e=>e=x\/M e) (by rw [st.hl];exact hn) (by rw [st.wl];exact wl) hl (by rw [st.wl];exact st.ix) st.mem st.ord ue ?_ ev nums
 intro i hi hu;rw [st.out i (un i hi hu).1];exact (un i hi hu).2
theorem eZ.bd {a:aG} (ok:eZ a):a.heap.length<=200/\a.where_.length<=200:=by
 have:=ok.hl;have:=ok.wl;have:=ok.so.n2
 omega
theorem eZ.cells {a:aG} (ok:eZ a):nS a.heap.length a.heap a.where_:=by
 have:=ok.bd
 refine ⟨Nat.le_refl _,by omega,fun w hw=>?_⟩
 obtain ⟨b1,b2,b3,b4,b5⟩:=ok.back hw;exact ⟨ok.ev w hw,b1,by rw [ok.wl];exact b2⟩
theorem eZ.inj {a:aG} (ok:eZ a) {v w:Nat} (hv:v<a.heap.length) (hw:w<a.heap.length) (h:Ev.ix a.heap[v]! =Ev.ix a.heap[w]!):v=w:=by
 have h1:=(ok.back hv).2.2.2.2;have h2:=(ok.back hw).2.2.2.2
 have:Ev.n a.heap[v]! =Ev.n a.heap[w]!:=by show (Ev.ix a.heap[v]!).toNat=(Ev.ix a.heap[w]!).toNat;rw [h]
 rw [this] at h1;omega
theorem eZ.grand {a:aG} (ok:eZ a) {i k:Nat} (i0:0<i) (k0:0<k) (hk:k<a.heap.length) (hp:(k-1) / 2=i): ¬dR a.heap[k]! a.heap[(i-1) / 2]!:=by
 have h1:=ok.ord k k0 hk;rw [hp] at h1;exact D5 (ok.ev _ (by omega)).den (ok.ev _ (by omega)).den (ok.ev _ hk).den (ok.ord i i0 (by omega)) h1
theorem eZ.live {a:aG} (ok:eZ a) {h:Int×Int} (lv:yE a.slots h): ∃i,i<a.heap.length/\a.where_[h.1.toNat]! =(i:Int)/\(a.heap[i]!).2.2.2=h:=by
 obtain ⟨l1,l2,l3,l4⟩:=lv;obtain ⟨f1,f2,f3,f4⟩:=ok.fwd h.1.toNat (by omega) l3
 refine ⟨(a.where_[h.1.toNat]!).toNat,by omega,by omega,?_⟩
 have e1:(a.heap[(a.where_[h.1.toNat]!).toNat]!).2.2.2.1=h.1:=by
  have:Ev.ix a.heap[(a.where_[h.1.toNat]!).toNat]! =(h.1.toNat:Int):=f3
  have h2:Ev.ix a.heap[(a.where_[h.1.toNat]!).toNat]! =(a.heap[(a.where_[h.1.toNat]!).toNat]!).2.2.2.1:=rfl;omega
 exact Prod.ext e1 (by rw [f4,l4])
theorem eZ.handle {a:aG} (ok:eZ a) {i:Nat} (hi:i<a.heap.length):yE a.slots (a.heap[i]!).2.2.2/\a.where_[((a.heap[i]!).2.2.2.1).toNat]! =(i:Int):=by
 obtain ⟨b1,b2,b3,b4,b5⟩:=ok.back hi;exact ⟨⟨b1,b2,b3,b4⟩,b5⟩
theorem eZ.used_ev {a:aG} (ok:eZ a) {i:Nat} (hi:i<a.slots.uses.length) (hu:a.slots.used[i]! =true): ∃w,w<a.heap.length/\Ev.ix a.heap[w]! =i/\(a.heap[w]!).2.2.2.2=a.slots.uses[i]!:=by
 obtain ⟨f1,f2,f3,f4⟩:=ok.fwd i hi hu;exact ⟨(a.where_[i]!).toNat,by omega,f3,f4⟩
theorem eZ.no_ev {a:aG} (ok:eZ a) {i:Nat} (hu:a.slots.used[i]! =false) {w:Nat} (hw:w<a.heap.length):Ev.n a.heap[w]!≠i:=by
 intro h
 have:=(ok.back hw).2.2.1
 rw [h,hu] at this;cases this
theorem eZ.nums {a:aG} (ok:eZ a) {v w:Nat} (hv:v<a.heap.length) (hw:w<a.heap.length) (h:Ev.num a.heap[v]! =Ev.num a.heap[w]!):v=w:=by
 rcases Nat.lt_trichotomy v w with h1|h1|h1
 · exact absurd h (ok.nd v w h1 hw)
 · exact h1
 · exact absurd h.symm (ok.nd w v h1 hv)
theorem set_same {α:Type} [Inhabited α] {l:List α} {k:Nat} {v:α} (h:l[k]! =v):l.set k v=l:=by
 by_cases hk:k<l.length
 · apply MB (by rw [List.length_set])
   intro i hi;rw [bF];split
   · rename_i e;rw [e.1];exact h.symm
   · rfl
 · exact List.set_eq_of_length_le (by omega)
def sJ (x:Ev) (t:Int×Int):Ev:=(t.1,t.2,x.2.2)
noncomputable def kW (a:aG) (i:Nat) (t:Int×Int):aG:=⟨a.slots,(cJ a.heap.length (sJ a.heap[i]! t) i a.heap a.where_).1,(cJ a.heap.length (sJ a.heap[i]! t) i a.heap a.where_).2⟩
theorem MT {a:aG} (ok:eZ a) {i:Nat} (hi:i<a.heap.length) {t:Int×Int} (ht:cK t) (h64:rJ t):sI (sJ a.heap[i]! t):=by
 have:=ok.ev i hi
 exact ⟨ht,h64,this.2.2.1,this.2.2.2⟩
theorem MU {a:aG} (ok:eZ a) {i:Nat} (hi:i<a.heap.length) (t:Int×Int):FU a.heap.length (sJ a.heap[i]! t) (fun e=> ∃w,w<a.heap.length/\w≠i/\a.heap[w]! =e) a.heap a.where_ i:=by
 obtain ⟨b1,b2,b3,b4,b5⟩:=ok.back hi;refine ⟨hi,Nat.le_refl _,fun w hw hwi=>?_,b1,by rw [ok.wl];exact b2,fun e=>Iff.rfl⟩
 obtain ⟨c1,c2,c3,c4,c5⟩:=ok.back hw;exact ⟨c1,by rw [ok.wl];exact c2,c5,fun h=>hwi (ok.inj hw hi h)⟩
theorem OO {a:aG} (ok:eZ a) (i:Nat):FY a.heap.length a.heap i:=
 ⟨fun w hw=>(ok.ev w hw).den,fun k k0 hk _ _=>ok.ord k k0 hk,fun i0 _k k0 hk hp=>ok.grand i0 k0 hk hp⟩
theorem oS {a:aG} (ok:eZ a) {i:Nat} (hi:i<a.heap.length) {t:Int×Int} (ht:cK t):
 D6 a.heap.length (sJ a.heap[i]! t) (fun e=> ∃w,w<a.heap.length/\w≠i/\a.heap[w]! =e) (fun k=>k≠Ev.n (sJ a.heap[i]! t)/\ ∀w,w<a.heap.length->w≠i->Ev.n a.heap[w]!≠k) a.heap a.where_ (kW a i t).heap (kW a i t).where_:=
 C2 (x:=sJ a.heap[i]! t) ht.1 (MU ok hi t) (OO ok i)
theorem IT {a:aG} (ok:eZ a) {i:Nat} (hi:i<a.heap.length) {t:Int×Int} (ht:cK t):(kW a i t).heap.length=a.heap.length/\(kW a i t).where_.length=a.where_.length:=
 ⟨(oS ok hi ht).hl,(oS ok hi ht).wl⟩
theorem aAh {a:aG} (ok:eZ a) {i:Nat} (hi:i<a.heap.length) {t:Int×Int} (ht:cK t) (e:Ev):e∈(kW a i t).heap↔(e=sJ a.heap[i]! t\/(e∈a.heap/\e≠a.heap[i]!)):=by
 have st:=oS ok hi ht;have h1:e∈(kW a i t).heap↔ ∃w,w<a.heap.length/\((kW a i t).heap)[w]! =e:=by
  rw [bA,(IT ok hi ht).1]
 rw [h1];refine (st.mem e).trans ?_;constructor
 · rintro (h|⟨w,hw,hwi,rfl⟩)
   · exact .inl h
   · exact .inr ⟨bE hw,fun h=>hwi (ok.inj hw hi (by rw [h]))⟩
 · rintro (h|⟨h,hne⟩)
   · exact .inl h
   · obtain ⟨w,hw,rfl⟩:=bA.1 h
     exact .inr ⟨w,hw,fun h=>hne (by rw [h]),rfl⟩
theorem aCt {a:aG} (ok:eZ a) {i:Nat} (hi:i<a.heap.length) {t:Int×Int} (ht:cK t) (h64:rJ t):eZ (kW a i t):=by
 have st:=oS ok hi ht;have len:=(IT ok hi ht).1;have hx:Ev.ix (sJ a.heap[i]! t)=Ev.ix a.heap[i]!:=rfl;have key:=yW ok.so st (Nat.le_refl _) ok.wl ok.hl (fun j hj hu=>by
  obtain ⟨w,hw,e1,e2⟩:=ok.used_ev hj hu
  by_cases e:w=i
  · subst e;exact ⟨sJ a.heap[w]! t,.inl rfl,e1,e2⟩
  · exact ⟨a.heap[w]!,.inr ⟨w,hw,e,rfl⟩,e1,e2⟩) (fun j hj hu=>⟨⟨(ok.no_ev hu hi).symm,fun w hw _=>ok.no_ev hu hw⟩,ok.un j hj hu⟩) (by
  rintro e (rfl|⟨w,hw,_,rfl⟩)
  · exact MT ok hi ht h64
  · exact ok.ev w hw) (by
  rintro e f (rfl|⟨v,hv,hvi,rfl⟩) (rfl|⟨w,hw,hwi,rfl⟩) he
  · rfl
  · exact absurd (ok.nums hi hw he).symm hwi
  · exact absurd (ok.nums hv hi he) hvi
  · rw [ok.nums hv hw he])
 have:(kW a i t).heap.take a.heap.length=(kW a i t).heap:=List.take_of_length_le (by rw [len];exact Nat.le_refl _)
 show eZ ⟨a.slots,(kW a i t).heap,(kW a i t).where_⟩;rw [<- this];exact key
theorem TN {a:aG} (ok:eZ a) (fit:C4 a) {h:Int×Int} {i:Nat} (hi:i<a.heap.length) (hh:(a.heap[i]!).2.2.2=h):qU a h=some ((i:Int),0):=by
 obtain ⟨lv,wv⟩:=ok.handle hi;rw [hh] at lv;unfold qU;rw [mN a fit,if_pos ok];simp only [aC,show ((0:Int) !=0)=false from rfl,cond_false,JJ ok.so,aO lv,Bool.not_true]
 have:=lv.2.1;have:=lv.1;have:=ok.wl
 have e:(a.heap[i]!).2.2.2.1=h.1:=by rw [hh]
 rw [dU (l:=a.where_) lv.1 (by omega),<- e,wv]
 rfl
theorem J1 {a:aG} (ok:eZ a) (fit:C4 a) {h t:Int×Int} {i:Nat} (hi:i<a.heap.length) (hh:(a.heap[i]!).2.2.2=h) (ht:cK t) (h64:rJ t):vL a h t=some (kW a i t,0):=by
 have bd:=ok.bd;obtain ⟨b1,b2,b3,b4,b5⟩:=ok.back hi;unfold vL;rw [mN a fit,if_pos ok,gY h64,if_pos ht];have pl:=TN ok fit hi hh;have se:=MO (u:=a.slots.uses) (us:=a.slots.used) (fr:=a.slots.free) (MT ok hi ht h64) (show 0<=Ev.ix (sJ a.heap[i]! t) from b1) ok.cells rfl hi (show Ev.ix (sJ a.heap[i]! t)<a.where_.length by rw [ok.wl];exact b2)
 have se':eY (a.slots.uses,a.slots.used,a.slots.free,(i:Int),t.1,t.2,(a.heap[i]!).2.2.1,(a.heap[i]!).2.2.2.1,(a.heap[i]!).2.2.2.2,a.heap,a.where_)=some (cJ a.heap.length (sJ a.heap[i]! t) i a.heap a.where_):=se
 simp only [aC,gt_iff_lt,Int.lt_irrefl,if_false,show ((0:Int) !=0)=false from rfl,cond_false,pl,aX (show a.heap.length<=1048576 by omega),aX (show a.where_.length<=1048576 by omega),aB a.heap i hi,se']
 rfl
theorem tJ {a:aG} (ok:eZ a):lY a=some a:=by
 have bd:=ok.bd;unfold lY;simp only [yU ok.so,aC,aX (show a.heap.length<=1048576 by omega),aX (show a.where_.length<=1048576 by omega)]
theorem IU {a:aG} (ok:eZ a) {h t:Int×Int} {i:Nat} (hi:i<a.heap.length) (hh:(a.heap[i]!).2.2.2=h) (ht:cK t) (h64:rJ t):tC a h t=some (kW a i t):=by
 have bd:=ok.bd;obtain ⟨b1,b2,b3,b4,b5⟩:=ok.back hi;obtain ⟨lv,wv⟩:=ok.handle hi;have hx:=MT ok hi ht h64;have x1:Ev.ix (sJ a.heap[i]! t)<a.where_.length:=by rw [ok.wl];exact b2
 have st:=oS ok hi ht;obtain ⟨j,H1,W1,e1,e3,e4,e5,e6,e7,e8,e9,e10⟩:=KD (x:=sJ a.heap[i]! t) ht.1 i a.heap a.where_ (MU ok hi t) (OO ok i);have w1:a.where_.set (Ev.n (sJ a.heap[i]! t)) (i:Int)=a.where_:=set_same b5;unfold tC;rw [tJ ok];have g1:aK a.where_ h.1=some (i:Int):=by
  have e:(a.heap[i]!).2.2.2.1=h.1:=by rw [hh]
  rw [dU (l:=a.where_) (i:=h.1) (by rw [<- e];exact b1) (by rw [<- e,ok.wl];exact b2),<- e,wv]
 have u1:rD ((i:Int),a.slots.uses,a.slots.used,a.slots.free,a.heap.set i (sJ a.heap[i]! t),a.where_)=some ((j:Int),a.slots.uses,a.slots.used,a.slots.free,H1.set j (sJ a.heap[i]! t),W1.set (Ev.n (sJ a.heap[i]! t)) (j:Int)):=by
  unfold rD
  have:=aCo (c0:=((i:Int),a.slots.uses,a.slots.used,a.slots.free,a.heap.set i (sJ a.heap[i]! t),a.where_)) (u:=a.slots.uses) (us:=a.slots.used) (fr:=a.slots.free) hx b1 rfl rfl rfl i a.heap a.where_ ok.cells hi rfl x1 List.length_set rfl
  rw [w1,e1] at this;exact this
 have cells1:nS a.heap.length H1 W1:=by
  refine ⟨by rw [e5];exact Nat.le_refl _,by omega,fun w hw=>?_⟩
  exact ⟨(C3 ok.cells hi e1 w hw).1,(C3 ok.cells hi e1 w hw).2.1,by rw [e6];exact (C3 ok.cells hi e1 w hw).2.2⟩
 have d1:nZ ((j:Int),a.slots.uses,a.slots.used,a.slots.free,H1.set j (sJ a.heap[i]! t),W1.set (Ev.n (sJ a.heap[i]! t)) (j:Int))=some (a.slots.uses,a.slots.used,a.slots.free,(cJ a.heap.length (sJ a.heap[i]! t) i a.heap a.where_).1,(cJ a.heap.length (sJ a.heap[i]! t) i a.heap a.where_).2):=by
  unfold nZ
  have:=TJ (c0:=((j:Int),a.slots.uses,a.slots.used,a.slots.free,H1.set j (sJ a.heap[i]! t),W1.set (Ev.n (sJ a.heap[i]! t)) (j:Int))) (n:=a.heap.length) (u:=a.slots.uses) (us:=a.slots.used) (fr:=a.slots.free) hx b1 rfl rfl rfl a.heap.length j H1 W1 (by omega) cells1 e3.lt e5 (by rw [e6];exact x1) List.length_set List.length_set
  rw [this];unfold cJ;rw [e1]
 have s1:bN a.heap (i:Int) (t.1,t.2,(a.heap[i]!).2.2)=a.heap.set i (sJ a.heap[i]! t):=rfl;simp only [aC,g1,aB a.heap i hi,s1,u1,d1];rfl
end Go.Proofs.YtfejhjllooomlaaGreat
namespace Go.Proofs.YtfejhjllooomlaaGreat
open Go.Vm Classical
theorem OP (H:List Ev) (n:Int) (hl:H.length<=1000000):cU H n=some (decide (∃w,w<H.length/\(H[w]!).2.2.1=n)):=by
 unfold cU eT;have key:=lT (body:=cT) (fun i=>(H,n,(H.length:Int),(i:Int))) H.length (fun i=>(H[i]!).2.2.1=n) (fun i=>(i:Int)) (e:= -1) (fun i hi=>by
  have e1:decide ((i:Int)<(H.length:Int))=true:=aO (by omega)
  unfold cT yR;simp only [e1,cond_true,aB H i hi,aC,bC (show i<1000000000 by omega)]
  constructor
  · intro h;rw [gH h];rfl
  · intro h;rw [fS h];rfl) (by
  unfold cT
  have:decide ((H.length:Int)<(H.length:Int))=false:=aL (by omega)
  simp only [this,cond_false])
 rw [aE]
 by_cases hx: ∃w,w<H.length/\(H[w]!).2.2.1=n
 · obtain ⟨k,h1,h2,h3⟩:=C0 hx
   have:=key.1 k h1 h2 h3
   rw [show ((0:Nat):Int)=0 from rfl] at this;rw [this,aO hx];simp only [aC,aO (show (0:Int)<=(k:Int) by omega)]
 · have:=key.2 fun i hi he=>hx ⟨i,hi,he⟩
   rw [show ((0:Nat):Int)=0 from rfl] at this;rw [this,aL hx];rfl
noncomputable def dF (a:aG) (t:Int×Int) (n:Int):Ev:=(t.1,t.2,n,mF a.slots)
noncomputable def mG (a:aG) (t:Int×Int) (n:Int):aG:=
 ⟨hJ a.slots,(cJ (a.heap.length+1) (dF a t n) a.heap.length (a.heap++[dF a t n]) a.where_).1,(cJ (a.heap.length+1) (dF a t n) a.heap.length (a.heap++[dF a t n]) a.where_).2⟩
section
variable {a : aG} (ok : eZ a) (op : B0 a.slots) {t : Int × Int} (ht : cK t) (h64 : rJ t) {n : Int} (n0 : 0 <= n) (n1 : n <= 1000000)
include ok op
theorem G4:Ev.ix (dF a t n)=(cY a.slots:Int)/\cY a.slots<a.slots.uses.length/\a.slots.used[cY a.slots]! =false/\a.slots.free.length=(hJ a.slots).free.length+1:=by
 obtain ⟨h1,h2,h3⟩:=D4 ok.so op.1;refine ⟨rfl,h1,?_,?_⟩
 · have:=ok.so.uf (cY a.slots) h1
   cases h:a.slots.used[cY a.slots]! with
   |false=>rfl
   |true=>exact absurd h3 (this.1 h)
 · show _=(a.slots.free.take (a.slots.free.length-1)).length+1
   have:=op.1
   rw [List.length_take];omega
theorem OQ:FU (a.heap.length+1) (dF a t n) (fun e=>e∈a.heap) (a.heap++[dF a t n]) a.where_ a.heap.length:=by
 obtain ⟨h1,h2,h3,h4⟩:=G4 (t:=t) (n:=n) ok op;have cell: ∀w,w<a.heap.length->(a.heap++[dF a t n])[w]! =a.heap[w]!:=fun w hw=>kF hw
 refine ⟨by omega,by simp,fun w hw hwi=>?_,by rw [h1];omega,by rw [h1,ok.wl];omega,fun e=>?_⟩
 · have hw':w<a.heap.length:=by omega
   rw [cell w hw'];obtain ⟨c1,c2,c3,c4,c5⟩:=ok.back hw';refine ⟨c1,by rw [ok.wl];exact c2,c5,fun h=>?_⟩
   rw [h1] at h
   have:Ev.n a.heap[w]! =cY a.slots:=by show (Ev.ix a.heap[w]!).toNat=_;omega
   exact ok.no_ev h3 hw' this
 · constructor
   · rintro ⟨w,hw,hwi,rfl⟩
     rw [cell w (by omega)]
     exact bE (by omega)
   · intro h
     obtain ⟨w,hw,rfl⟩:=bA.1 h;exact ⟨w,by omega,by omega,cell w hw⟩
theorem TO (ht:cK t):FY (a.heap.length+1) (a.heap++[dF a t n]) a.heap.length:=by
 have _:=op;have cell: ∀w,w<a.heap.length->(a.heap++[dF a t n])[w]! =a.heap[w]!:=fun w hw=>kF hw
 refine ⟨fun w hw=>?_,fun k k0 hk k1 k2=>?_,fun i0 k k0 hk hp=>by omega⟩
 · by_cases h:w<a.heap.length
   · rw [cell w h];exact (ok.ev w h).den
   · have:w=a.heap.length:=by omega
     subst this;rw [lJ (Nat.le_refl _),Nat.sub_self];exact ht.1
 · rw [cell k (by omega),cell _ (by omega)]
   exact ok.ord k k0 (by omega)
theorem BF (ht:cK t):D6 (a.heap.length+1) (dF a t n) (fun e=>e∈a.heap) (fun k=>k≠Ev.n (dF a t n)/\ ∀w,w<a.heap.length+1->w≠a.heap.length->Ev.n (a.heap++[dF a t n])[w]!≠k) (a.heap++[dF a t n]) a.where_ (mG a t n).heap (mG a t n).where_:=
 C2 (x:=dF a t n) ht.1 (OQ ok op) (TO ok op ht)
theorem G5 (ht:cK t):(mG a t n).heap.length=a.heap.length+1:=by
 have:=(BF (n:=n) ok op ht).hl
 rw [this];simp
theorem TP (ht:cK t) (e:Ev):e∈(mG a t n).heap↔(e=dF a t n\/e∈a.heap):=by
 have st:=BF (n:=n) ok op ht;rw [bA,G5 ok op ht];exact st.mem e
theorem QN (ht:cK t) (h64:rJ t) (n0:0<=n) (n1:n<=1000000):sI (dF a t n):=by
 have _:=ok;have _:=op;exact ⟨ht,h64,n0,n1⟩
theorem YR (ht:cK t) (h64:rJ t) (n0:0<=n) (n1:n<=1000000) (nn: ∀e∈a.heap,Ev.num e≠n):eZ (mG a t n):=by
 have st:=BF (n:=n) ok op ht;have len:=G5 (n:=n) ok op ht;obtain ⟨h1,h2,h3,h4⟩:=G4 (t:=t) (n:=n) ok op;have hu:=ok.so.ul;have ul:(hJ a.slots).uses.length=a.slots.uses.length:=List.length_set;have key:=yW (aCm ok.so op) st (by simp) (by rw [ul];exact ok.wl) (by rw [ul];have:=ok.hl;omega) (fun j hj hu'=>by
  rw [ul] at hj;change (a.slots.used.set (cY a.slots) true)[j]! =true at hu';rw [bF] at hu'
  show∃e:Ev,_/\_/\_=(a.slots.uses.set (cY a.slots) (a.slots.uses[cY a.slots]!+1))[j]!
  rw [bF]
  by_cases e:j=cY a.slots
  · rw [if_pos ⟨e,h2⟩]
    exact ⟨dF a t n,.inl rfl,by rw [h1,e],rfl⟩
  · rw [if_neg (fun k=>e k.1)]
    rw [if_neg (fun k=>e k.1)] at hu'
    obtain ⟨w,hw,e1,e2⟩:=ok.used_ev hj hu';exact ⟨a.heap[w]!,.inr (bE hw),e1,e2⟩) (fun j hj hu'=>by
  rw [ul] at hj;change (a.slots.used.set (cY a.slots) true)[j]! =false at hu';rw [bF] at hu'
  by_cases e:j=cY a.slots
  · rw [if_pos ⟨e,by omega⟩] at hu';cases hu'
  · rw [if_neg (fun k=>e k.1)] at hu'
    refine ⟨⟨?_,fun w hw hwi=>?_⟩,ok.un j hj hu'⟩
    · show j≠(Ev.ix (dF a t n)).toNat
      omega
    · rw [kF (by omega)]
      exact ok.no_ev hu' (by omega)) (by
  rintro e (rfl|h)
  · exact QN ok op ht h64 n0 n1
  · obtain ⟨w,hw,rfl⟩:=bA.1 h
    exact ok.ev w hw) (by
  rintro e f (rfl|he) (rfl|hf) hn
  · rfl
  · exact absurd hn.symm (nn f hf)
  · exact absurd hn (nn e he)
  · obtain ⟨v,hv,rfl⟩:=bA.1 he
    obtain ⟨w,hw,rfl⟩:=bA.1 hf;rw [ok.nums hv hw hn])
 have:(mG a t n).heap.take (a.heap.length+1)=(mG a t n).heap:=List.take_of_length_le (by rw [len];exact Nat.le_refl _)
 show eZ ⟨hJ a.slots,(mG a t n).heap,(mG a t n).where_⟩;rw [<- this];exact key
theorem MV (ht:cK t) (h64:rJ t) (n0:0<=n) (n1:n<=1000000):nS (a.heap.length+1) (a.heap++[dF a t n]) a.where_:=by
 have bd:=ok.bd;obtain ⟨h1,h2,h3,h4⟩:=G4 (t:=t) (n:=n) ok op;refine ⟨by simp,by simp;omega,fun w hw=>?_⟩
 by_cases h:w<a.heap.length
 · rw [kF h];exact ok.cells.ev w h
 · have:w=a.heap.length:=by omega
   subst this;rw [lJ (Nat.le_refl _),Nat.sub_self];exact ⟨QN ok op ht h64 n0 n1,by show 0<=Ev.ix (dF a t n);omega,by show Ev.ix (dF a t n)<_;rw [ok.wl];omega⟩
theorem zU (fit:C4 a) (ht:cK t) (h64:rJ t) (n0:0<=n) (n1:n<=1000000) (nn: ∀e∈a.heap,Ev.num e≠n):lP a t n=some (mG a t n,mF a.slots,0):=by
 have bd:=ok.bd;obtain ⟨h1,h2,h3,h4⟩:=G4 (t:=t) (n:=n) ok op;have hn: ¬ ∃w,w<a.heap.length/\(a.heap[w]!).2.2.1=n:=by
  rintro ⟨w,hw,e⟩;exact nn _ (bE hw) e
 unfold lP;rw [mN a fit,if_pos ok,gY h64,if_pos ht,OP _ _ (by omega),aL hn,G1 ok.so,if_pos op]
 have se:=MO (u:=(hJ a.slots).uses) (us:=(hJ a.slots).used) (fr:=(hJ a.slots).free) (QN ok op ht h64 n0 n1) (show 0<=Ev.ix (dF a t n) by omega) (MV ok op ht h64 n0 n1) (by simp) (show a.heap.length<a.heap.length+1 by omega) (show Ev.ix (dF a t n)<a.where_.length by rw [ok.wl];omega)
 have e1:aA .i64 (((a.heap++[dF a t n]).length:Int) -1)=(a.heap.length:Int):=by rw [wi,List.length_append];simp;omega
 have ap:bO a.heap [(t.1,t.2,n,mF a.slots)]=some (a.heap++[dF a t n]):=dO (by simp;omega)
 have se':eY ((hJ a.slots).uses,(hJ a.slots).used,(hJ a.slots).free,(a.heap.length:Int),t.1,t.2,n,(mF a.slots).1,(mF a.slots).2,a.heap++[dF a t n],a.where_)=some (cJ (a.heap.length+1) (dF a t n) a.heap.length (a.heap++[dF a t n]) a.where_):=se
 simp only [aC,gt_iff_lt,Int.lt_irrefl,if_false,show ((0:Int) !=0)=false from rfl,cond_false,aL (show¬n<0 by omega),aL (show¬1000000<n by omega),aX (show a.heap.length<=1048576 by omega),aX (show a.where_.length<=1048576 by omega),ap,aE,e1,se']
 rfl
theorem B1 (ht:cK t) (h64:rJ t) (n0:0<=n) (n1:n<=1000000):eU a t n=some (mG a t n,mF a.slots):=by
 have bd:=ok.bd;obtain ⟨h1,h2,h3,h4⟩:=G4 (t:=t) (n:=n) ok op;unfold eU;rw [tJ ok];have e1:aA .i64 (((a.heap++[dF a t n]).length:Int) -1)=(a.heap.length:Int):=by rw [wi,List.length_append];simp;omega
 have ap:bO a.heap [(t.1,t.2,n,mF a.slots)]=some (a.heap++[dF a t n]):=dO (by simp;omega)
 have hx:=QN (n:=n) ok op ht h64 n0 n1;have last:cJ (a.heap.length+1) (dF a t n) a.heap.length (a.heap++[dF a t n]) a.where_=_:=TH (x:=dF a t n) ht.1 (OQ ok op) (TO ok op ht) (fun k k0 hk hp=>by omega)
 have hs:(a.heap++[dF a t n]).set a.heap.length (dF a t n)=a.heap++[dF a t n]:=set_same (by rw [lJ (Nat.le_refl _),Nat.sub_self];rfl)
 have ws:bN a.where_ (mF a.slots).1 (a.heap.length:Int)=a.where_.set (Ev.n (dF a t n)) (a.heap.length:Int):=rfl
 have u1:rE ((hJ a.slots).uses,(hJ a.slots).used,(hJ a.slots).free,(a.heap.length:Int),a.heap++[dF a t n],a.where_.set (Ev.n (dF a t n)) (a.heap.length:Int))=some (((jI (dF a t n) a.heap.length (a.heap++[dF a t n]) a.where_).1:Int),(jI (dF a t n) a.heap.length (a.heap++[dF a t n]) a.where_).2.1.set (jI (dF a t n) a.heap.length (a.heap++[dF a t n]) a.where_).1 (dF a t n),(jI (dF a t n) a.heap.length (a.heap++[dF a t n]) a.where_).2.2.set (Ev.n (dF a t n)) ((jI (dF a t n) a.heap.length (a.heap++[dF a t n]) a.where_).1:Int)):=by
  unfold rE
  have:=aCq (c0:=((hJ a.slots).uses,(hJ a.slots).used,(hJ a.slots).free,(a.heap.length:Int),a.heap++[dF a t n],a.where_.set (Ev.n (dF a t n)) (a.heap.length:Int))) (u:=(hJ a.slots).uses) (us:=(hJ a.slots).used) (fr:=(hJ a.slots).free) hx (show 0<=Ev.ix (dF a t n) by omega) a.heap.length (a.heap++[dF a t n]) a.where_ (MV ok op ht h64 n0 n1) (by omega) (by simp) (by rw [ok.wl];omega) rfl List.length_set
  rw [hs] at this;exact this
 have g1:aK a.where_ (mF a.slots).1=some a.where_[cY a.slots]!:=aB a.where_ (cY a.slots) (by rw [ok.wl];exact h2)
 simp only [aC,MK ok.so op,ap,g1,aE,e1,ws,u1];unfold mG;rw [last]
end
theorem zV {a:aG} (ok:eZ a) (op: ¬B0 a.slots) (fit:C4 a) {t:Int×Int} (ht:cK t) (h64:rJ t) {n:Int} (n0:0<=n) (n1:n<=1000000) (nn: ∀e∈a.heap,Ev.num e≠n):lP a t n=some (⟨⟨[],[],[]⟩,[],[]⟩,(0,0),18):=by
 have bd:=ok.bd;have hn: ¬ ∃w,w<a.heap.length/\(a.heap[w]!).2.2.1=n:=by
  rintro ⟨w,hw,e⟩;exact nn _ (bE hw) e
 unfold lP;rw [mN a fit,if_pos ok,gY h64,if_pos ht,OP _ _ (by omega),aL hn,G1 ok.so,if_neg op]
 simp only [aC,gt_iff_lt,Int.lt_irrefl,if_false,show ((0:Int) !=0)=false from rfl,cond_false,aL (show¬n<0 by omega),aL (show¬1000000<n by omega),show ((18:Int) !=0)=true from rfl,cond_true]
end Go.Proofs.YtfejhjllooomlaaGreat
namespace Go.Proofs.YtfejhjllooomlaaGreat
open Go.Vm Classical
theorem yF {l:List Ev} {n i:Nat} {v:Ev}:(l.set i v).take n=(l.take n).set i v:=by
 apply List.ext_getElem?;intro j;rw [List.getElem?_take,List.getElem?_set,List.getElem?_set,List.getElem?_take,List.length_take]
 by_cases h1:j<n
 · rw [if_pos h1]
   by_cases h2:i=j
   · subst h2
     by_cases h3:i<l.length
     · rw [if_pos rfl,if_pos h3,if_pos rfl,if_pos (by omega)]
     · rw [if_pos rfl,if_neg h3,if_pos rfl,if_neg (by omega)]
   · rw [if_neg h2,if_neg h2,if_pos h1]
 · rw [if_neg h1]
   by_cases h2:i=j
   · rw [if_pos h2,if_neg (by omega)]
   · rw [if_neg h2,if_neg h1]
theorem TQ {n:Nat} {x:Ev}: ∀(i:Nat) (H:List Ev) (W:List Int),i<n->jI x i (H.take n) W=((jI x i H W).1,(jI x i H W).2.1.take n,(jI x i H W).2.2)
 |0,H,W,hi=>by rw [jI,jI]
 |i+1,H,W,hi=>by
  have e:(H.take n)[i / 2]! =H[i / 2]!:=mV (by omega)
  rw [jI,jI,e]
  by_cases h:dR x H[i / 2]!
  · rw [if_pos h,if_pos h,<- yF]
    exact TQ (i / 2) _ _ (by omega)
  · rw [if_neg h,if_neg h]
termination_by i=>i
decreasing_by omega
theorem aCu {x:Ev}: ∀(i:Nat) (H:List Ev) (W:List Int),(jI x i H W).1<=i
 |0,H,W=>by rw [jI];exact Nat.le_refl _
 |i+1,H,W=>by
  rw [jI];split
  · exact Nat.le_trans (aCu (i / 2) _ _) (by omega)
  · exact Nat.le_refl _
termination_by i=>i
decreasing_by omega
theorem MW {n:Nat} {H:List Ev} {i:Nat} (hk:2*i+1<n):iI n (H.take n) i=iI n H i:=by
 unfold iI
 by_cases h:2*i+2<n
 · rw [mV h,mV (show 2*i+1<n by omega)]
 · rw [if_neg (fun k=>h k.1),if_neg (fun k=>h k.1)]
theorem TR {n:Nat} {x:Ev} {i:Nat} {H:List Ev} {W:List Int} (h:2*i+1<n) (hl:dR H[iI n H i]! x):dX n x i H W=dX n x (iI n H i) (H.set i H[iI n H i]!) (W.set (H[iI n H i]!).n (i:Int)):=by
 rw [dX,dif_pos h,if_pos hl]
theorem BG {n:Nat} {x:Ev} {i:Nat} {H:List Ev} {W:List Int} (h: ¬(2*i+1<n/\dR H[iI n H i]! x)):dX n x i H W=(i,H,W):=by
 rw [dX];split
 · rename_i h1;rw [if_neg (fun k=>h ⟨h1,k⟩)]
 · rfl
theorem MX {n : Nat} {x : Ev} : ∀ (d i : Nat) (H : List Ev) (W : List Int), n - i <= d -> dX n x i (H.take n) W = ((dX n x i H W).1, (dX n x i H W).2.1.take n, (dX n x i H W).2.2)
  | 0, i, H, W, hd => by
    rw [BG (fun h => by omega), BG (fun h => by omega)]
  | d + 1, i, H, W, hd => by
    have kc := qD n H i
    by_cases h : 2 * i + 1 < n /\ dR H[iI n H i]! x
    · have e : (H.take n)[iI n (H.take n) i]! = H[iI n H i]! := by rw [MW h.1, mV (by omega)]
      rw [TR h.1 h.2, TR (H := H.take n) h.1 (by rw [e]; exact h.2), e, MW h.1, <- yF]
      exact MX d _ _ _ (by omega)
    · have h' : ¬ (2 * i + 1 < n /\ dR (H.take n)[iI n (H.take n) i]! x) := by
        rintro ⟨k1, k2⟩
        rw [MW k1, mV (by omega)] at k2
        exact h ⟨k1, k2⟩
      rw [BG h, BG h']
theorem YS {x:Ev}: ∀(i:Nat) (H:List Ev) (W:List Int),(jI x i H W).2.1.length=H.length/\(jI x i H W).2.2.length=W.length
 |0,H,W=>by rw [jI];exact ⟨rfl,rfl⟩
 |i+1,H,W=>by
  rw [jI];split
  · have:=YS (x:=x) (i / 2) (H.set (i+1) H[i / 2]!) (W.set (H[i / 2]!).n ((i+1:Nat):Int))
    rwa [List.length_set,List.length_set] at this
  · exact ⟨rfl,rfl⟩
termination_by i=>i
decreasing_by omega
theorem G6 {n:Nat} {x:Ev} {i:Nat} {H:List Ev} {W:List Int} (hi:i<n):cJ n x i (H.take n) W=((cJ n x i H W).1.take n,(cJ n x i H W).2):=by
 unfold cJ;rw [TQ i H W hi];dsimp only;rw [MX n _ _ _ (by omega)]
 dsimp only;rw [yF]
noncomputable def eO (a:aG) (i:Nat):aG:=
 if i<a.heap.length-1 then ⟨fX a.slots (a.heap[i]!).2.2.2,(cJ (a.heap.length-1) a.heap[a.heap.length-1]! i a.heap (a.where_.set (Ev.n a.heap[i]!) (-1))).1.take (a.heap.length-1),(cJ (a.heap.length-1) a.heap[a.heap.length-1]! i a.heap (a.where_.set (Ev.n a.heap[i]!) (-1))).2⟩
 else ⟨fX a.slots (a.heap[i]!).2.2.2,a.heap.take (a.heap.length-1),a.where_.set (Ev.n a.heap[i]!) (-1)⟩
section
variable {a : aG} (ok : eZ a) {i : Nat} (hi : i < a.heap.length)
include ok hi
theorem zW {w:Nat} (hw:w<a.heap.length) (hne:w≠i):Ev.n a.heap[w]!≠Ev.n a.heap[i]!:=by
 have h1:=(ok.back hw).1;have h2:=(ok.back hi).1;exact aQ9 h1 h2 fun h=>hne (ok.inj hw hi h)
theorem OR:nS (a.heap.length-1) a.heap (a.where_.set (Ev.n a.heap[i]!) (-1)):=by
 have c:=ok.cells;refine ⟨by omega,c.hb,fun w hw=>?_⟩
 rw [List.length_set];exact c.ev w (by omega)
theorem aCv (hlt:i<a.heap.length-1):FU (a.heap.length-1) a.heap[a.heap.length-1]! (fun e=> ∃w,w<a.heap.length-1/\w≠i/\a.heap[w]! =e) a.heap (a.where_.set (Ev.n a.heap[i]!) (-1)) i:=by
 obtain ⟨b1,b2,b3,b4,b5⟩:=ok.back (show a.heap.length-1<a.heap.length by omega)
 refine ⟨hlt,by omega,fun w hw hwi=>?_,b1,by rw [List.length_set,ok.wl];exact b2,fun e=>Iff.rfl⟩
 obtain ⟨c1,c2,c3,c4,c5⟩:=ok.back (show w<a.heap.length by omega)
 refine ⟨c1,by rw [List.length_set,ok.wl];exact c2,?_,fun h=>?_⟩
 · rw [bF,if_neg (fun h=>zW ok hi (show w<a.heap.length by omega) hwi h.1)]
   exact c5
 · have:=ok.inj (show w<a.heap.length by omega) (show a.heap.length-1<a.heap.length by omega) h
   omega
theorem aIX:FY (a.heap.length-1) a.heap i:=
 ⟨fun w hw=>(ok.ev w (by omega)).den,fun k k0 hk _ _=>ok.ord k k0 (by omega),fun i0 k k0 hk hp=>ok.grand i0 k0 (by omega) hp⟩
theorem JK (hlt:i<a.heap.length-1):
 D6 (a.heap.length-1) a.heap[a.heap.length-1]! (fun e=> ∃w,w<a.heap.length-1/\w≠i/\a.heap[w]! =e) (fun k=>k≠Ev.n a.heap[a.heap.length-1]!/\ ∀w,w<a.heap.length-1->w≠i->Ev.n a.heap[w]!≠k) a.heap (a.where_.set (Ev.n a.heap[i]!) (-1))
  (cJ (a.heap.length-1) a.heap[a.heap.length-1]! i a.heap (a.where_.set (Ev.n a.heap[i]!) (-1))).1 (cJ (a.heap.length-1) a.heap[a.heap.length-1]! i a.heap (a.where_.set (Ev.n a.heap[i]!) (-1))).2:=
 C2 (ok.ev (a.heap.length-1) (by omega)).den (aCv ok hi hlt) (aIX ok hi)
theorem OS:fB (fX a.slots (a.heap[i]!).2.2.2):=aCl ok.so (ok.handle hi).1
theorem C6 {j:Nat} (hj:j<a.slots.uses.length):(fX a.slots (a.heap[i]!).2.2.2).used[j]! =if j=Ev.n a.heap[i]! then false else a.slots.used[j]!:=by
 have _:=hi;show (a.slots.used.set (Ev.n a.heap[i]!) false)[j]! =_;rw [bF]
 have:=ok.so.ul
 by_cases e:j=Ev.n a.heap[i]!
 · rw [if_pos ⟨e,by omega⟩,if_pos e]
 · rw [if_neg (fun k=>e k.1),if_neg e]
theorem IV:eZ (eO a i):=by
 have hb:=ok.back hi;have hl:a.heap.length-1+(fX a.slots (a.heap[i]!).2.2.2).free.length=a.slots.uses.length:=by
  show a.heap.length-1+(a.slots.free++[_]).length=_;rw [List.length_append]
  have:=ok.hl
  simp only [List.length_cons,List.length_nil];omega
 have un: ∀j,j<a.slots.uses.length->(fX a.slots (a.heap[i]!).2.2.2).used[j]! =false->(a.where_.set (Ev.n a.heap[i]!) (-1))[j]! = -1:=by
  intro j hj hu;rw [C6 ok hi hj] at hu;rw [bF]
  by_cases e:j=Ev.n a.heap[i]!
  · rw [if_pos ⟨e.symm▸rfl,by rw [ok.wl];omega⟩]
  · rw [if_neg e] at hu
    rw [if_neg (fun k=>e k.1)]
    exact ok.un j hj hu
 unfold eO
 by_cases hlt:i<a.heap.length-1
 · rw [if_pos hlt]
   have st:=JK ok hi hlt;refine yW (OS ok hi) st (by omega) (by rw [List.length_set];exact ok.wl) hl (fun j hj hu=>?_) (fun j hj hu=>⟨⟨?_,fun w hw hwi=>?_⟩,un j hj hu⟩) ?_ ?_
   · change j<a.slots.uses.length at hj
     rw [C6 ok hi hj] at hu
     by_cases e:j=Ev.n a.heap[i]!
     · rw [if_pos e] at hu;cases hu
     · rw [if_neg e] at hu
       obtain ⟨w,hw,e1,e2⟩:=ok.used_ev hj hu;refine ⟨a.heap[w]!,?_,e1,e2⟩
       by_cases hl':w=a.heap.length-1
       · left;rw [hl']
       · refine .inr ⟨w,by omega,fun h=>e ?_,rfl⟩
         rw [<- h];show j=(Ev.ix a.heap[w]!).toNat;omega
   · change j<a.slots.uses.length at hj
     rw [C6 ok hi hj] at hu
     by_cases e:j=Ev.n a.heap[i]!
     · rw [e];exact (zW ok hi (by omega) (by omega)).symm
     · rw [if_neg e] at hu
       exact (ok.no_ev hu (by omega)).symm
   · change j<a.slots.uses.length at hj
     rw [C6 ok hi hj] at hu
     by_cases e:j=Ev.n a.heap[i]!
     · rw [e];exact zW ok hi (by omega) hwi
     · rw [if_neg e] at hu
       exact ok.no_ev hu (by omega)
   · rintro e (rfl|⟨w,hw,_,rfl⟩)
     · exact ok.ev _ (by omega)
     · exact ok.ev w (by omega)
   · rintro e f (rfl|⟨v,hv,hvi,rfl⟩) (rfl|⟨w,hw,hwi,rfl⟩) he
     · rfl
     · rw [ok.nums (by omega) (by omega) he]
     · rw [ok.nums (by omega) (by omega) he]
     · rw [ok.nums (by omega) (by omega) he]
 · rw [if_neg hlt]
   have hie:i=a.heap.length-1:=by omega
   refine aJF (OS ok hi) (fun e=> ∃w,w<a.heap.length-1/\a.heap[w]! =e) (by omega) (by rw [List.length_set];exact ok.wl) hl (fun w hw=>?_) (fun e=>Iff.rfl) (fun k k0 hk=>ok.ord k k0 (by omega)) (fun j hj hu=>?_) un ?_ ?_
   · obtain ⟨c1,c2,c3,c4,c5⟩:=ok.back (show w<a.heap.length by omega)
     refine ⟨c1,by rw [List.length_set,ok.wl];exact c2,?_⟩
     rw [bF,if_neg (fun h=>zW ok hi (show w<a.heap.length by omega) (by omega) h.1)]
     exact c5
   · change j<a.slots.uses.length at hj
     rw [C6 ok hi hj] at hu
     by_cases e:j=Ev.n a.heap[i]!
     · rw [if_pos e] at hu;cases hu
     · rw [if_neg e] at hu
       obtain ⟨w,hw,e1,e2⟩:=ok.used_ev hj hu;refine ⟨a.heap[w]!,⟨w,?_,rfl⟩,e1,e2⟩
       have:w≠i:=fun h=>e (by rw [<- h];show j=(Ev.ix a.heap[w]!).toNat;omega)
       omega
   · rintro e ⟨w,hw,rfl⟩
     exact ok.ev w (by omega)
   · rintro e f ⟨v,hv,rfl⟩ ⟨w,hw,rfl⟩ he
     rw [ok.nums (by omega) (by omega) he]
theorem MY (e:Ev):e∈(eO a i).heap↔(e∈a.heap/\e≠a.heap[i]!):=by
 have other: ∀w,w<a.heap.length->(a.heap[w]!≠a.heap[i]!↔w≠i):=fun w hw=>⟨fun h k=>h (by rw [k]),fun h k=>h (ok.inj hw hi (by rw [k]))⟩
 unfold eO
 by_cases hlt:i<a.heap.length-1
 · rw [if_pos hlt]
   have st:=JK ok hi hlt;show e∈(_:List Ev).take _↔_;rw [EV (by rw [st.hl];omega)]
   refine (st.mem e).trans ?_;constructor
   · rintro (h|⟨w,hw,hwi,rfl⟩)
     · rw [h];exact ⟨bE (by omega),(other _ (by omega)).2 (by omega)⟩
     · exact ⟨bE (by omega),(other _ (by omega)).2 hwi⟩
   · rintro ⟨h,hne⟩
     obtain ⟨w,hw,rfl⟩:=bA.1 h
     by_cases c:w=a.heap.length-1
     · left;rw [c]
     · exact .inr ⟨w,by omega,(other w hw).1 hne,rfl⟩
 · rw [if_neg hlt]
   show e∈a.heap.take _↔_;rw [EV (by omega)]
   constructor
   · rintro ⟨w,hw,rfl⟩
     exact ⟨bE (by omega),(other _ (by omega)).2 (by omega)⟩
   · rintro ⟨h,hne⟩
     obtain ⟨w,hw,rfl⟩:=bA.1 h
     have:=(other w hw).1 hne
     exact ⟨w,by omega,rfl⟩
theorem IW:sU a (i:Int)=some (eO a i,a.heap[i]!,0):=by
 have bd:=ok.bd;obtain ⟨b1,b2,b3,b4,b5⟩:=ok.back hi;obtain ⟨c1,c2,c3,c4,c5⟩:=ok.back (show a.heap.length-1<a.heap.length by omega)
 unfold sU;have e1:aA .i64 ((a.heap.length:Int) -1)=((a.heap.length-1:Nat):Int):=yD (by omega) (by omega)
 have g1:aK a.where_ (a.heap[i]!).2.2.2.1=some a.where_[(a.heap[i]!).2.2.2.1.toNat]!:=dU b1 (by rw [ok.wl];exact b2)
 have ws:bN a.where_ (a.heap[i]!).2.2.2.1 (-1)=a.where_.set (Ev.n a.heap[i]!) (-1):=rfl
 simp only [aB a.heap i hi,aC,QH ok.so (ok.handle hi).1,show ((0:Int) !=0)=false from rfl,cond_false,aX (show a.heap.length<=1048576 by omega),aX (show a.where_.length<=1048576 by omega),aE,e1,aB a.heap (a.heap.length-1) (by omega),oF a.heap (a.heap.length-1) (by omega),g1,ws,Int.toNat_natCast]
 unfold eO
 by_cases hlt:i<a.heap.length-1
 · rw [aO (by omega),if_pos hlt]
   have se:=V6 (cap:=a.heap.length) (u:=(fX a.slots (a.heap[i]!).2.2.2).uses) (us:=(fX a.slots (a.heap[i]!).2.2.2).used) (fr:=(fX a.slots (a.heap[i]!).2.2.2).free) (ok.ev (a.heap.length-1) (by omega)) (show 0<=Ev.ix a.heap[a.heap.length-1]! from c1) (OR ok hi) hlt (show Ev.ix a.heap[a.heap.length-1]!<_ by rw [List.length_set,ok.wl];exact c2)
   rw [se];rfl
 · rw [aL (by omega),if_neg hlt]
   rfl
theorem zX (fit:C4 a) {h:Int×Int} (hh:(a.heap[i]!).2.2.2=h):mS a h=some (eO a i,a.heap[i]!,0):=by
 unfold mS;rw [TN ok fit hi hh];simp only [aC,show ((0:Int) !=0)=false from rfl,cond_false,IW ok hi]
theorem zY {h:Int×Int} (hh:(a.heap[i]!).2.2.2=h):kE a h=some (eO a i):=by
 have bd:=ok.bd;subst hh;obtain ⟨b1,b2,b3,b4,b5⟩:=ok.back hi;obtain ⟨c1,c2,c3,c4,c5⟩:=ok.back (show a.heap.length-1<a.heap.length by omega)
 unfold kE;rw [tJ ok];have e1:aA .i64 ((a.heap.length:Int) -1)=((a.heap.length-1:Nat):Int):=yD (by omega) (by omega)
 have g1:aK a.where_ (a.heap[i]!).2.2.2.1=some (i:Int):=by
  rw [dU (l:=a.where_) b1 (by rw [ok.wl];exact b2)]
  exact congrArg some b5
 have gv:=MJ ok.so (ok.handle hi).1;simp only [aC,g1,aE,e1,Int.toNat_natCast];unfold eO
 by_cases hlt:i<a.heap.length-1
 · rw [fA (show (i:Int)≠((a.heap.length-1:Nat):Int) by omega),if_pos hlt]
   have hne:a.heap.length-1≠i:=by omega
   have nn:Ev.n a.heap[a.heap.length-1]!≠Ev.n a.heap[i]!:=zW ok hi (by omega) hne
   have sw:=G3 (n:=a.heap.length) (x:=a.heap[i]!) (u:=a.slots.uses) (us:=a.slots.used) (fr:=a.slots.free) (H:=a.heap) (W:=a.where_) hi (show a.heap.length-1<a.heap.length by omega) hne rfl b1 (by rw [ok.wl];exact b2) c1 (by rw [ok.wl];exact c2)
   rw [set_same (l:=a.heap) rfl,set_same (l:=a.where_) b5] at sw;have hs:(a.heap.set i a.heap[a.heap.length-1]!).set (a.heap.length-1) a.heap[i]! =(a.heap.set (a.heap.length-1) a.heap[i]!).set i a.heap[a.heap.length-1]!:=List.set_comm _ _ (by omega)
   have ws:bN ((a.where_.set (Ev.n a.heap[a.heap.length-1]!) (i:Int)).set (Ev.n a.heap[i]!) ((a.heap.length-1:Nat):Int)) (a.heap[i]!).2.2.2.1 (-1)=(a.where_.set (Ev.n a.heap[i]!) (-1)).set (Ev.n a.heap[a.heap.length-1]!) (i:Int):=by
    show ((a.where_.set (Ev.n a.heap[a.heap.length-1]!) (i:Int)).set (Ev.n a.heap[i]!) ((a.heap.length-1:Nat):Int)).set (Ev.n a.heap[i]!) (-1)=_;rw [List.set_set,List.set_comm _ _ nn]
   have g2:aK ((a.where_.set (Ev.n a.heap[a.heap.length-1]!) (i:Int)).set (Ev.n a.heap[i]!) ((a.heap.length-1:Nat):Int)) (a.heap[i]!).2.2.2.1=some _:=dU b1 (by rw [List.length_set,List.length_set,ok.wl];exact b2)
   have cells:nS (a.heap.length-1) (a.heap.set (a.heap.length-1) a.heap[i]!) (a.where_.set (Ev.n a.heap[i]!) (-1)):=by
    refine ⟨by rw [List.length_set];omega,by rw [List.length_set];omega,fun w hw=>?_⟩
    rw [bF,if_neg (by omega)]
    exact (OR ok hi).ev w hw
   have x1:Ev.ix a.heap[a.heap.length-1]!<(a.where_.set (Ev.n a.heap[i]!) (-1)).length:=by rw [List.length_set,ok.wl];exact c2
   have hx:=ok.ev (a.heap.length-1) (by omega)
   have gv':qB (aR.mk a.slots.uses a.slots.used a.slots.free) (a.heap[i]!).2.2.2=some (fX a.slots (a.heap[i]!).2.2.2):=gv;have tk:(a.heap.set (a.heap.length-1) a.heap[i]!).take (a.heap.length-1)=a.heap.take (a.heap.length-1):=by rw [yF];exact List.set_eq_of_length_le (by rw [List.length_take];omega)
   have U:nR ((fX a.slots (a.heap[i]!).2.2.2).uses,(fX a.slots (a.heap[i]!).2.2.2).used,(fX a.slots (a.heap[i]!).2.2.2).free,a.heap.length-1,((a.heap.set (a.heap.length-1) a.heap[i]!).set i a.heap[a.heap.length-1]!).length,(i:Int),(a.heap.set (a.heap.length-1) a.heap[i]!).set i a.heap[a.heap.length-1]!,(a.where_.set (Ev.n a.heap[i]!) (-1)).set (Ev.n a.heap[a.heap.length-1]!) (i:Int))=
    some (((jI a.heap[a.heap.length-1]! i (a.heap.set (a.heap.length-1) a.heap[i]!) (a.where_.set (Ev.n a.heap[i]!) (-1))).1:Int),(jI a.heap[a.heap.length-1]! i (a.heap.set (a.heap.length-1) a.heap[i]!) (a.where_.set (Ev.n a.heap[i]!) (-1))).2.1.set (jI a.heap[a.heap.length-1]! i (a.heap.set (a.heap.length-1) a.heap[i]!) (a.where_.set (Ev.n a.heap[i]!) (-1))).1 a.heap[a.heap.length-1]!,(jI a.heap[a.heap.length-1]! i (a.heap.set (a.heap.length-1) a.heap[i]!) (a.where_.set (Ev.n a.heap[i]!) (-1))).2.2.set (Ev.n a.heap[a.heap.length-1]!) ((jI a.heap[a.heap.length-1]! i (a.heap.set (a.heap.length-1) a.heap[i]!) (a.where_.set (Ev.n a.heap[i]!) (-1))).1:Int)):=by
    unfold nR
    exact aCn (n:=a.heap.length-1) (c0:=((fX a.slots (a.heap[i]!).2.2.2).uses,(fX a.slots (a.heap[i]!).2.2.2).used,(fX a.slots (a.heap[i]!).2.2.2).free,a.heap.length-1,((a.heap.set (a.heap.length-1) a.heap[i]!).set i a.heap[a.heap.length-1]!).length,(i:Int),(a.heap.set (a.heap.length-1) a.heap[i]!).set i a.heap[a.heap.length-1]!,(a.where_.set (Ev.n a.heap[i]!) (-1)).set (Ev.n a.heap[a.heap.length-1]!) (i:Int))) hx c1 i _ _ cells hlt x1 List.length_set List.length_set
   have ul:=aCu (x:=a.heap[a.heap.length-1]!) i (a.heap.set (a.heap.length-1) a.heap[i]!) (a.where_.set (Ev.n a.heap[i]!) (-1));have un:=YS (x:=a.heap[a.heap.length-1]!) i (a.heap.set (a.heap.length-1) a.heap[i]!) (a.where_.set (Ev.n a.heap[i]!) (-1));have uc:=fun w hw=>C3 (x:=a.heap[a.heap.length-1]!) cells hlt (i:=i) rfl w hw
   have cells1:nS (a.heap.length-1) (jI a.heap[a.heap.length-1]! i (a.heap.set (a.heap.length-1) a.heap[i]!) (a.where_.set (Ev.n a.heap[i]!) (-1))).2.1 (jI a.heap[a.heap.length-1]! i (a.heap.set (a.heap.length-1) a.heap[i]!) (a.where_.set (Ev.n a.heap[i]!) (-1))).2.2:=by
    refine ⟨by rw [un.1,List.length_set];omega,by rw [un.1,List.length_set];omega,fun w hw=>?_⟩
    rw [un.2];exact uc w hw
   have D:lG ((fX a.slots (a.heap[i]!).2.2.2).uses,(fX a.slots (a.heap[i]!).2.2.2).used,(fX a.slots (a.heap[i]!).2.2.2).free,a.heap.length-1,((a.heap.set (a.heap.length-1) a.heap[i]!).set i a.heap[a.heap.length-1]!).length,((jI a.heap[a.heap.length-1]! i (a.heap.set (a.heap.length-1) a.heap[i]!) (a.where_.set (Ev.n a.heap[i]!) (-1))).1:Int),(jI a.heap[a.heap.length-1]! i (a.heap.set (a.heap.length-1) a.heap[i]!) (a.where_.set (Ev.n a.heap[i]!) (-1))).2.1.set (jI a.heap[a.heap.length-1]! i (a.heap.set (a.heap.length-1) a.heap[i]!) (a.where_.set (Ev.n a.heap[i]!) (-1))).1 a.heap[a.heap.length-1]!,(jI a.heap[a.heap.length-1]! i (a.heap.set (a.heap.length-1) a.heap[i]!) (a.where_.set (Ev.n a.heap[i]!) (-1))).2.2.set (Ev.n a.heap[a.heap.length-1]!) ((jI a.heap[a.heap.length-1]! i (a.heap.set (a.heap.length-1) a.heap[i]!) (a.where_.set (Ev.n a.heap[i]!) (-1))).1:Int))=
    some (cJ (a.heap.length-1) a.heap[a.heap.length-1]! i (a.heap.set (a.heap.length-1) a.heap[i]!) (a.where_.set (Ev.n a.heap[i]!) (-1))):=by
    unfold lG
    exact TI (n:=a.heap.length-1) (c0:=((fX a.slots (a.heap[i]!).2.2.2).uses,(fX a.slots (a.heap[i]!).2.2.2).used,(fX a.slots (a.heap[i]!).2.2.2).free,a.heap.length-1,((a.heap.set (a.heap.length-1) a.heap[i]!).set i a.heap[a.heap.length-1]!).length,((jI a.heap[a.heap.length-1]! i (a.heap.set (a.heap.length-1) a.heap[i]!) (a.where_.set (Ev.n a.heap[i]!) (-1))).1:Int),(jI a.heap[a.heap.length-1]! i (a.heap.set (a.heap.length-1) a.heap[i]!) (a.where_.set (Ev.n a.heap[i]!) (-1))).2.1.set (jI a.heap[a.heap.length-1]! i (a.heap.set (a.heap.length-1) a.heap[i]!) (a.where_.set (Ev.n a.heap[i]!) (-1))).1 a.heap[a.heap.length-1]!,(jI a.heap[a.heap.length-1]! i (a.heap.set (a.heap.length-1) a.heap[i]!) (a.where_.set (Ev.n a.heap[i]!) (-1))).2.2.set (Ev.n a.heap[a.heap.length-1]!) ((jI a.heap[a.heap.length-1]! i (a.heap.set (a.heap.length-1) a.heap[i]!) (a.where_.set (Ev.n a.heap[i]!) (-1))).1:Int))) hx c1 a.heap.length (jI a.heap[a.heap.length-1]! i (a.heap.set (a.heap.length-1) a.heap[i]!) (a.where_.set (Ev.n a.heap[i]!) (-1))).1 (jI a.heap[a.heap.length-1]! i (a.heap.set (a.heap.length-1) a.heap[i]!) (a.where_.set (Ev.n a.heap[i]!) (-1))).2.1 (jI a.heap[a.heap.length-1]! i (a.heap.set (a.heap.length-1) a.heap[i]!) (a.where_.set (Ev.n a.heap[i]!) (-1))).2.2 (by omega) cells1 (by omega) (by rw [un.2];exact x1) List.length_set List.length_set
   have st:=G6 (n:=(a.heap.length-1)) (x:=a.heap[a.heap.length-1]!) (i:=i) (H:=(a.heap.set (a.heap.length-1) a.heap[i]!)) (W:=(a.where_.set (Ev.n a.heap[i]!) (-1))) hlt;have st2:=G6 (n:=(a.heap.length-1)) (x:=a.heap[a.heap.length-1]!) (i:=i) (H:=a.heap) (W:=(a.where_.set (Ev.n a.heap[i]!) (-1))) hlt;rw [tk,st2] at st;injection st with st1 st3
   simp only [cond_true,sw,aC,oF _ (a.heap.length-1) (show a.heap.length-1<=((a.heap.set (a.heap.length-1) a.heap[i]!).set i a.heap[a.heap.length-1]!).length by rw [List.length_set,List.length_set];omega),g2,gv',ws,hs,U,D,<- st1,<- st3]
 · rw [bP (show (i:Int)=((a.heap.length-1:Nat):Int) by omega),if_neg hlt]
   have ws:bN a.where_ (a.heap[i]!).2.2.2.1 (-1)=a.where_.set (Ev.n a.heap[i]!) (-1):=rfl;simp only [cond_false,oF a.heap (a.heap.length-1) (by omega),aC,gv,ws]
end
end Go.Proofs.YtfejhjllooomlaaGreat
namespace Go.Proofs.YtfejhjllooomlaaGreat
open Go.Vm Classical
abbrev uW:=Int×Int×Int
theorem eZ.fit {a:aG} (ok:eZ a):C4 a:=by
 have bd:=ok.bd
 have:=ok.so.fl
 have:=ok.so.n2
 exact ⟨by omega,by omega,by omega,fun w hw=>(ok.ev w hw).2.1⟩
theorem vP (l:List uW) (id:Int) (hl:l.length<=1000000) (hs: ∀i j,i<j->j<l.length->(l[i]!).1<(l[j]!).1):
 (∀k,k<l.length->(l[k]!).1=id->aW l id ()=some ((k:Int),true))/\
 ((∀k,k<l.length->(l[k]!).1≠id)-> ∃m,m<=l.length/\(∀i,i<m->(l[i]!).1<id)/\(∀i,m<=i->i<l.length->id<(l[i]!).1)/\aW l id ()=some ((m:Int),false)):=by
 obtain ⟨m,m1,m2,m3⟩:=TG (fun i=>(l[i]!).1) id l.length hs
 have run:aW l id ()=aJ aT (l,id,(l.length:Int),(m:Int),(m:Int)):=by
  unfold aW;refine IQ (body:=aT) (fun lo hi=>(l,id,(l.length:Int),(lo:Int),(hi:Int))) l.length m (fun i=>(l[i]!).1<id) (fun lo hi h1 h2=>?_) m2 (fun i h1 h2 h3=>by have:=m3 i h1 h2;omega) l.length 0 l.length (by omega) (by omega) m1 (Nat.le_refl _)
  have e1:decide ((lo:Int)<(hi:Int))=true:=aO (by omega)
  have hh:=aIR (a:=lo) (b:=hi) (by omega) (by omega)
  unfold aT uD;simp only [e1,cond_true,hh,aB l ((lo+hi) / 2) (by omega),lK,aC,bC (show (lo+hi) / 2<1000000000 by omega)]
  constructor
  · intro h
    have:decide (kO (l[(lo+hi) / 2]!).1 id<0)=true:=by
     rcases gI (l[(lo+hi) / 2]!).1 id with ⟨a,e⟩|⟨a,e⟩|⟨a,e⟩<;>rw [e]<;>first|rfl|omega
    rw [this];rfl
  · intro h
    have:decide (kO (l[(lo+hi) / 2]!).1 id<0)=false:=by
     rcases gI (l[(lo+hi) / 2]!).1 id with ⟨a,e⟩|⟨a,e⟩|⟨a,e⟩<;>rw [e]<;>first|rfl|omega
    rw [this];rfl
 have fin:aJ aT (l,id,(l.length:Int),(m:Int),(m:Int))=if m<l.length/\(l[m]!).1=id then some ((m:Int),true) else some ((m:Int),false):=by
  have e1:decide ((m:Int)<(m:Int))=false:=aL (by omega)
  by_cases hm:m<l.length
  · have e2:decide ((m:Int)<(l.length:Int))=true:=aO (by omega)
    have body:aT (l,id,(l.length:Int),(m:Int),(m:Int))=some (.done ((m:Int),kO (l[m]!).1 id==0)):=by
     unfold aT uD;simp only [e1,e2,cond_true,cond_false,aB l m hm,lK,aC]
    rw [aI body];rcases gI (l[m]!).1 id with ⟨a,e⟩|⟨a,e⟩|⟨a,e⟩
    · rw [e,if_neg (fun h=>by omega)];rfl
    · rw [e,if_pos ⟨hm,a⟩];rfl
    · rw [e,if_neg (fun h=>by omega)];rfl
  · have e2:decide ((m:Int)<(l.length:Int))=false:=aL (by omega)
    have body:aT (l,id,(l.length:Int),(m:Int),(m:Int))=some (.done ((m:Int),false)):=by
     unfold aT;simp only [e1,e2,cond_false]
    rw [aI body,if_neg (fun h=>hm h.1)]
 rw [run,fin];constructor
 · intro k hk he
   have hkm:k=m:=by
    rcases Nat.lt_trichotomy k m with h|h|h
    · have:=m2 k h;omega
    · exact h
    · have h1:=m3 m (Nat.le_refl _) (by omega)
      have h2:=hs m k h hk;omega
   subst hkm;rw [if_pos ⟨hk,he⟩]
 · intro h
   refine ⟨m,m1,m2,fun i h1 h2=>?_,?_⟩
   · have:=m3 i h1 h2
     have:=h i h2
     omega
   · rw [if_neg (fun k=>h m k.1 k.2)]
theorem aOH:dC=aW:=rfl
theorem aCw:cX=aW:=rfl
theorem D9:dB=aW:=rfl
theorem wY {α:Type} (l:List α) (k:Nat):l.eraseIdx k=l.take k++l.drop (k+1):=List.eraseIdx_eq_take_drop_succ l k
theorem JL (l:List uW) (k:Nat) (hk:k<l.length): ∃L:List uW,fQ ((k:Int),((k+1:Nat):Int),l)=some (l.length-1,l.length,L)/\L.take (l.length-1)=l.eraseIdx k:=by
 unfold fQ;have e1:decide ((0:Int)<=(k:Int))=true:=aO (by omega)
 have e2:decide ((k:Int)<=((k+1:Nat):Int))=true:=aO (by omega)
 have e3:decide (((k+1:Nat):Int)<=(l.length:Int))=true:=aO (by omega)
 have e4:decide ((l.length:Int)<=(l.length:Int))=true:=aO (by omega)
 have e5:((k:Int)==((k+1:Nat):Int))=false:=fS (by omega)
 have e6:decide ((0:Int)<=((k+1:Nat):Int))=true:=aO (by omega)
 have e7:decide ((k:Int)<=(l.length:Int))=true:=aO (by omega)
 have dr:(l.drop (k+1)).take (l.length- (k+1))=l.drop (k+1):=List.take_of_length_le (by rw [List.length_drop];exact Nat.le_refl _)
 have dl:(l.drop (k+1)).length=l.length- (k+1):=List.length_drop;simp only [aE,e1,e2,e3,e4,e5,e6,e7,Bool.and_self,cond_true,cond_false,oF l k (by omega),aC,Int.toNat_natCast,Nat.zero_add,dr,dl,Bool.not_false,Bool.and_true]
 by_cases h:k+1=l.length
 · have em:(l.drop (k+1)).isEmpty=true:=by rw [List.isEmpty_iff,List.drop_eq_nil_iff];omega
   have n1:Nat.beq (l.length-k) 0=false:=by
    cases hb:Nat.beq (l.length-k) 0 with
    |false=>rfl
    |true=>have:=Nat.eq_of_beq_eq_true hb;omega
   have n2:Nat.ble (k+(l.length-k)) l.length=true:=Nat.ble_eq_true_of_le (by omega)
   have ll:(iV l k (List.replicate (l.length-k) ((0:Int),(0:Int),(0:Int)))).length=l.length:=by
    unfold iV;simp;omega
   simp only [em,cond_true,n1,cond_false,n2,ll,beq_self_eq_true];refine ⟨_,by rw [show k=l.length-1 by omega],?_⟩
   rw [wY,show l.length-1=k by omega]
   unfold iV;rw [List.append_assoc,List.take_append_of_le_length (by rw [List.length_take];omega),List.take_take,Nat.min_self]
   rw [List.drop_eq_nil_of_le (by omega),List.append_nil]
 · have em:(l.drop (k+1)).isEmpty=false:=by
    cases hb:(l.drop (k+1)).isEmpty with
    |false=>rfl
    |true=>rw [List.isEmpty_iff,List.drop_eq_nil_iff] at hb;omega
   have n1:Nat.ble (k+(l.length- (k+1))) l.length=true:=Nat.ble_eq_true_of_le (by omega)
   have n2:decide ((0:Int)<=((k+(l.length- (k+1)):Nat):Int))=true:=aO (by omega)
   have n3:decide (((k+(l.length- (k+1)):Nat):Int)<=(l.length:Int))=true:=aO (by omega)
   have n4:Nat.beq (l.length- (k+(l.length- (k+1)))) 0=false:=by
    cases hb:Nat.beq (l.length- (k+(l.length- (k+1)))) 0 with
    |false=>rfl
    |true=>have:=Nat.eq_of_beq_eq_true hb;omega
   have l1:(iV l k (l.drop (k+1))).length=l.length:=by
    unfold iV;simp;omega
   have n5:Nat.ble (k+(l.length- (k+1))+(l.length- (k+(l.length- (k+1))))) l.length=true:=Nat.ble_eq_true_of_le (by omega)
   have l2:(iV (iV l k (l.drop (k+1))) (k+(l.length- (k+1))) (List.replicate (l.length- (k+(l.length- (k+1)))) ((0:Int),(0:Int),(0:Int)))).length=l.length:=by
    unfold iV;simp;omega
   simp only [em,cond_false,n1,cond_true,n2,n3,Bool.and_self,n4,l1,n5,l2,beq_self_eq_true];refine ⟨_,by rw [show k+(l.length- (k+1))=l.length-1 by omega],?_⟩
   rw [wY]
   have:k+(l.length- (k+1))=l.length-1:=by omega
   unfold iV;rw [List.append_assoc,List.take_append_of_le_length (by simp;omega),List.take_take,Nat.min_self,List.append_assoc]
   rw [show (l.take k++(l.drop (k+1)++l.drop (k+(l.drop (k+1)).length)))=(l.take k++l.drop (k+1))++l.drop (k+(l.drop (k+1)).length) by rw [List.append_assoc]]
   rw [List.take_append_of_le_length (by simp;omega),List.take_of_length_le (by simp;omega)]
theorem V8:mA=fQ:=rfl
theorem MZ {α:Type} [Inhabited α] {l:List α} {k i:Nat}:(l.eraseIdx k)[i]! =if i<k then l[i]! else l[i+1]!:=by
 rw [wY]
 by_cases hk:k<l.length
 · by_cases h:i<k
   · rw [if_pos h,kF (by rw [List.length_take];omega),mV h]
   · rw [if_neg h,lJ (by rw [List.length_take];omega),sF,List.length_take]
     congr 1;omega
 · have e1:l.take k=l:=List.take_of_length_le (by omega)
   have e2:l.drop (k+1)=[]:=List.drop_eq_nil_of_le (by omega)
   rw [e1,e2,List.append_nil];split
   · rfl
   · rw [getElem!_neg l i (by omega),getElem!_neg l (i+1) (by omega)]
end Go.Proofs.YtfejhjllooomlaaGreat
namespace Go.Proofs.YtfejhjllooomlaaGreat
open Go.Vm Classical
def fV (x:Int×Int):Prop:=0<=x.1/\x.1<=65535/\0<=x.2/\x.2<=65535/\x.1≠x.2
theorem EW (x:Int×Int):wM x=some (decide (fV x)):=by
 obtain ⟨a,b⟩:=x;unfold wM;dsimp only
 by_cases h1:0<=a
 · by_cases h3:0<=b
   · have e1:decide (0<=if b<a then b else a)=true:=aO (by split<;>omega)
     rw [e1]
     by_cases h2:a<=65535
     · by_cases h4:b<=65535
       · have e2:decide ((if b>a then b else a)<=65535)=true:=aO (by split<;>omega)
         rw [e2]
         by_cases h5:a=b
         · rw [bP h5,aL (p:=fV (a,b)) (fun h=>h.2.2.2.2 h5)];rfl
         · rw [fA h5,aO (p:=fV (a,b)) ⟨h1,h2,h3,h4,h5⟩];rfl
       · have e2:decide ((if b>a then b else a)<=65535)=false:=aL (by split<;>omega)
         rw [e2,aL (p:=fV (a,b)) (fun h=>h4 h.2.2.2.1)];rfl
     · have e2:decide ((if b>a then b else a)<=65535)=false:=aL (by split<;>omega)
       rw [e2,aL (p:=fV (a,b)) (fun h=>h2 h.2.1)];rfl
   · have e1:decide (0<=if b<a then b else a)=false:=aL (by split<;>omega)
     rw [e1,aL (p:=fV (a,b)) (fun h=>h3 h.2.2.1)];rfl
 · have e1:decide (0<=if b<a then b else a)=false:=aL (by split<;>omega)
   rw [e1,aL (p:=fV (a,b)) (fun h=>h1 h.1)];rfl
theorem EX (x:Int×Int):wQ x=some (decide (fV x)):=by
 obtain ⟨a,b⟩:=x;unfold wQ;dsimp only
 by_cases h1:0<=a
 · by_cases h2:a<=65535
   · by_cases h3:0<=b
     · by_cases h4:b<=65535
       · by_cases h5:a=b
         · rw [bP h5,aO h1,aO h2,aO h3,aO h4,aL (p:=fV (a,b)) (fun h=>h.2.2.2.2 h5)];rfl
         · rw [fA h5,aO h1,aO h2,aO h3,aO h4,aO (p:=fV (a,b)) ⟨h1,h2,h3,h4,h5⟩];rfl
       · rw [aO h1,aO h2,aO h3,aL h4,aL (p:=fV (a,b)) (fun h=>h4 h.2.2.2.1)];rfl
     · rw [aO h1,aO h2,aL h3,aL (p:=fV (a,b)) (fun h=>h3 h.2.2.1)];rfl
   · rw [aO h1,aL h2,aL (p:=fV (a,b)) (fun h=>h2 h.2.1)];rfl
 · rw [aL h1,aL (p:=fV (a,b)) (fun h=>h1 h.1)];rfl
structure fC (c:aU):Prop where
 len:c.list.length<=200
 n0:0<=c.next_
 n1:c.next_<=1000000
 cv: ∀i,i<c.list.length->fV (c.list[i]!).2
 nr: ∀i,i<c.list.length->0<=(c.list[i]!).1/\(c.list[i]!).1<c.next_
 up: ∀i j,i<j->j<c.list.length->(c.list[i]!).1<(c.list[j]!).1
 nd: ∀i j,i<j->j<c.list.length->(c.list[i]!).2≠(c.list[j]!).2
def C7 (l:List uW) (i:Nat):Int:=if i=0 then -1 else (l[i-1]!).1
def V9 (c:aU) (i:Nat):Prop:=fV (c.list[i]!).2/\(∀j,j<i->(c.list[j]!).2≠(c.list[i]!).2)/\C7 c.list i<(c.list[i]!).1/\(c.list[i]!).1<c.next_
theorem fC.iff {c:aU} (h1:c.list.length<=200) (h2:0<=c.next_) (h3:c.next_<=1000000):fC c↔ ∀i,i<c.list.length->V9 c i:=by
 constructor
 · intro ok i hi
   refine ⟨ok.cv i hi,fun j hj=>ok.nd j i hj hi,?_,(ok.nr i hi).2⟩
   unfold C7;split
   · have:=(ok.nr i hi).1;omega
   · exact ok.up (i-1) i (by omega) hi
 · intro h
   have low: ∀i,i<c.list.length->0<=(c.list[i]!).1:=by
    intro i
    induction i with
    |zero=>
     intro hi
     have:=(h 0 hi).2.2.1
     unfold C7 at this;rw [if_pos rfl] at this;omega
    |succ i ih=>
     intro hi;have h1:=(h (i+1) hi).2.2.1;unfold C7 at h1;rw [if_neg (by omega),show i+1-1=i by omega] at h1
     have:=ih (by omega)
     omega
   have up: ∀i j,i<j->j<c.list.length->(c.list[i]!).1<(c.list[j]!).1:=by
    intro i j
    induction j with
    |zero=>intro h;omega
    |succ j ih=>
     intro hij hj;have h1:=(h (j+1) hj).2.2.1;unfold C7 at h1;rw [if_neg (by omega),show j+1-1=j by omega] at h1
     by_cases e:i=j
     · subst e;exact h1
     · have:=ih (by omega) (by omega)
       omega
   exact ⟨h1,h2,h3,fun i hi=>(h i hi).1,fun i hi=>⟨low i hi,(h i hi).2.2.2⟩,up,fun i j hij hj=>(h j hj).2.1 i hij⟩
theorem M0 (l:List uW) (k:Nat) (a b:Int):qM [a,b] ((l.take k).map fun x=>[x.2.1,x.2.2])=true:=by
 unfold qM;rw [List.all_eq_true];intro x hx;obtain ⟨y,hy,rfl⟩:=List.mem_map.1 hx;rfl
theorem M1 (l:List uW) (k:Nat) (x:Int×Int):JZ ((l.take k).map fun y=>[y.2.1,y.2.2]) [x.1,x.2]=decide (∃j,j<k/\j<l.length/\(l[j]!).2=x):=by
 unfold JZ;rw [Bool.eq_iff_iff,List.any_eq_true,decide_eq_true_iff];constructor
 · rintro ⟨y,hy,he⟩
   obtain ⟨z,hz,rfl⟩:=List.mem_map.1 hy;obtain ⟨j,h1,h2,rfl⟩:=cL.1 hz
   have:[x.1,x.2]=[(l[j]!).2.1,(l[j]!).2.2]:=by simpa using he
   injection this with e1 e2;injection e2 with e2 _;exact ⟨j,h1,h2,Prod.ext e1.symm e2.symm⟩
 · rintro ⟨j,h1,h2,h3⟩
   refine ⟨[(l[j]!).2.1,(l[j]!).2.2],List.mem_map.2 ⟨l[j]!,cL.2 ⟨j,h1,h2,rfl⟩,rfl⟩,?_⟩;rw [h3];simp
theorem yX (c:aU):rW c=some (if fC c then 0 else 8):=by
 unfold rW;simp only [aE]
 by_cases h1:200<c.list.length
 · rw [aO (show (200:Int)<(c.list.length:Int) by omega),if_neg (fun h=>by have:=h.len;omega)];rfl
 rw [aL (show¬(200:Int)<(c.list.length:Int) by omega)]
 by_cases h2:c.next_<0
 · rw [aO h2,if_neg (fun h=>by have:=h.n0;omega)];rfl
 rw [aL h2]
 by_cases h3:1000000<c.next_
 · rw [aO h3,if_neg (fun h=>by have:=h.n1;omega)];rfl
 rw [aL h3];simp only [cond_false];have key:=dD (body:=sP) (fun i=>(C7 c.list i,c.list,(c.list.length:Int),(i:Int),c.next_,c.list,(c.list.take i).map fun x=>[x.2.1,x.2.2])) c.list.length (fun i=> ¬V9 c i) (r:=8) (e:=0) (fun i hi=>by
  have e1:decide ((i:Int)<(c.list.length:Int))=true:=aO (by omega)
  have has:RS ((c.list.take i).map fun x=>[x.2.1,x.2.2]) [(c.list[i]!).2.1,(c.list[i]!).2.2]=some (decide (∃j,j<i/\j<c.list.length/\(c.list[j]!).2=(c.list[i]!).2)):=by
   unfold RS;rw [M0,M1];rfl
  have nx:(c.list.take (i+1)).map (fun x=>[x.2.1,x.2.2])=((c.list.take i).map fun x=>[x.2.1,x.2.2])++[[(c.list[i]!).2.1,(c.list[i]!).2.2]]:=by
   rw [hH hi,List.map_append];rfl
  have ln:C7 c.list (i+1)=(c.list[i]!).1:=by unfold C7;rw [if_neg (by omega),show i+1-1=i by omega]
  unfold sP;simp only [e1,cond_true,aB c.list i hi,aC,EW,has,nx,ln,bC (show i<1000000000 by omega)]
  unfold V9
  by_cases b1:fV (c.list[i]!).2
  case neg=>
   rw [aL b1];exact ⟨fun _=>rfl,fun h=>absurd (Classical.not_not.1 h).1 b1⟩
  rw [aO b1]
  by_cases b2: ∃j,j<i/\j<c.list.length/\(c.list[j]!).2=(c.list[i]!).2
  · rw [aO b2]
    refine ⟨fun _=>rfl,fun h=>?_⟩
    obtain ⟨j,j1,j2,j3⟩:=b2;exact absurd j3 ((Classical.not_not.1 h).2.1 j j1)
  rw [aL b2];have b2': ∀j,j<i->(c.list[j]!).2≠(c.list[i]!).2:=fun j hj he=>b2 ⟨j,hj,by omega,he⟩
  by_cases b3:(c.list[i]!).1<=C7 c.list i
  · rw [aO b3]
    exact ⟨fun _=>rfl,fun h=>absurd (Classical.not_not.1 h).2.2.1 (by omega)⟩
  rw [aL b3]
  by_cases b4:c.next_<=(c.list[i]!).1
  · rw [aO b4]
    exact ⟨fun _=>rfl,fun h=>absurd (Classical.not_not.1 h).2.2.2 (by omega)⟩
  rw [aL b4];have ins:RU ((c.list.take i).map fun x=>[x.2.1,x.2.2]) [(c.list[i]!).2.1,(c.list[i]!).2.2]=some (((c.list.take i).map fun x=>[x.2.1,x.2.2])++[[(c.list[i]!).2.1,(c.list[i]!).2.2]]):=by
   unfold RU UW;rw [M0,M1,aL b2];rfl
  rw [ins];exact ⟨fun h=>absurd ⟨b1,b2',by omega,by omega⟩ h,fun _=>rfl⟩) (by
  unfold sP
  have:decide ((c.list.length:Int)<(c.list.length:Int))=false:=aL (by omega)
  simp only [this,cond_false])
 have h0:C7 c.list 0= -1:=rfl;rw [h0] at key
 by_cases ok:fC c
 · rw [if_pos ok]
   exact key.2 fun i hi=>Classical.not_not.2 ((fC.iff (by omega) (by omega) (by omega)).1 ok i hi)
 · rw [if_neg ok]
   rw [fC.iff (by omega) (by omega) (by omega)] at ok
   obtain ⟨i,h⟩:=Classical.not_forall.1 ok;obtain ⟨hi,hx⟩:=Classical.not_imp.1 h;exact key.1 ⟨i,hi,hx⟩
theorem TS (c:aU) (i:Nat) (hi:i<c.list.length) (hl:c.list.length<=200):
 ((∃j,j<i/\(c.list[j]!).2=(c.list[i]!).2)->aJ gF ((i:Int),0,c.next_,c.list,c.list[i]!)=some (.done 8))/\
 ((∀j,j<i-> ¬(c.list[j]!).2=(c.list[i]!).2)->aJ gF ((i:Int),0,c.next_,c.list,c.list[i]!)=some (.next (((i+1:Nat):Int),c.next_,c.list))):=by
 refine dD (body:=gF) (fun j=>((i:Int),(j:Int),c.next_,c.list,c.list[i]!)) i (fun j=>(c.list[j]!).2=(c.list[i]!).2) (r:= .done 8) (e:= .next (((i+1:Nat):Int),c.next_,c.list)) (fun j hj=>?_) ?_
 · have e1:decide ((j:Int)<(i:Int))=true:=aO (by omega)
   unfold gF;simp only [e1,cond_true,aB c.list j (by omega),aC,bC (show j<1000000000 by omega)]
   generalize c.list[j]! =x;generalize c.list[i]! =y;constructor
   · intro h;rw [gH (congrArg Prod.fst h),gH (congrArg Prod.snd h)];rfl
   · intro h
     by_cases h1:x.2.1=y.2.1
     · rw [gH h1,fS (fun h2=>h (Prod.ext h1 h2))];rfl
     · rw [fS h1];rfl
 · unfold gF
   have:decide ((i:Int)<(i:Int))=false:=aL (by omega)
   simp only [this,cond_false,bC (show i<1000000000 by omega)]
theorem C8 (c:aU):uH c=some (if fC c then 0 else 8):=by
 unfold uH;simp only [aE]
 by_cases h1:200<c.list.length
 · rw [aO (show (200:Int)<(c.list.length:Int) by omega),if_neg (fun h=>by have:=h.len;omega)];rfl
 rw [aL (show¬(200:Int)<(c.list.length:Int) by omega)]
 by_cases h2:c.next_<0
 · rw [aO h2,if_neg (fun h=>by have:=h.n0;omega)];rfl
 rw [aL h2]
 by_cases h3:1000000<c.next_
 · rw [aO h3,if_neg (fun h=>by have:=h.n1;omega)];rfl
 rw [aL h3];simp only [cond_false];have key:=dD (body:=qX) (fun i=>((i:Int),c.next_,c.list)) c.list.length (fun i=> ¬(fV (c.list[i]!).2/\0<=(c.list[i]!).1/\(c.list[i]!).1<c.next_/\(0<i->(c.list[i-1]!).1<(c.list[i]!).1)/\ ∀j,j<i-> ¬(c.list[j]!).2=(c.list[i]!).2)) (r:=8) (e:=0) (fun i hi=>by
  have e1:decide ((i:Int)<(c.list.length:Int))=true:=aO (by omega)
  have l1:=TS c i hi (by omega)
  unfold qX;simp only [aE,e1,cond_true,aB c.list i hi,aC,EX]
  by_cases b1:fV (c.list[i]!).2
  case neg=>
   rw [aL b1];exact ⟨fun _=>rfl,fun h=>absurd (Classical.not_not.1 h).1 b1⟩
  rw [aO b1]
  by_cases b2:(c.list[i]!).1<0
  · rw [aO b2]
    exact ⟨fun _=>rfl,fun h=>absurd (Classical.not_not.1 h).2.1 (by omega)⟩
  rw [aL b2]
  by_cases b3:c.next_<=(c.list[i]!).1
  · rw [aO b3]
    exact ⟨fun _=>rfl,fun h=>absurd (Classical.not_not.1 h).2.2.1 (by omega)⟩
  rw [aL b3];simp only [Bool.not_true,cond_false];have go:(0<i->(c.list[i-1]!).1<(c.list[i]!).1)->(¬(fV (c.list[i]!).2/\0<=(c.list[i]!).1/\(c.list[i]!).1<c.next_/\(0<i->(c.list[i-1]!).1<(c.list[i]!).1)/\ ∀j,j<i-> ¬(c.list[j]!).2=(c.list[i]!).2)->aJ gF ((i:Int),0,c.next_,c.list,c.list[i]!)=some (.done 8))/\
   (¬¬(fV (c.list[i]!).2/\0<=(c.list[i]!).1/\(c.list[i]!).1<c.next_/\(0<i->(c.list[i-1]!).1<(c.list[i]!).1)/\ ∀j,j<i-> ¬(c.list[j]!).2=(c.list[i]!).2)->aJ gF ((i:Int),0,c.next_,c.list,c.list[i]!)=some (.next (((i+1:Nat):Int),c.next_,c.list))):=by
   intro hp;constructor
   · intro h
     refine l1.1 (Classical.byContradiction fun hx=>h ⟨b1,by omega,by omega,hp,fun j hj he=>hx ⟨j,hj,he⟩⟩)
   · intro h
     exact l1.2 (Classical.not_not.1 h).2.2.2.2
  by_cases b4:0<i
  · have f1:decide ((0:Int)<(i:Int))=true:=aO (by omega)
    simp only [f1,cond_true,yD (show i<1000000000 by omega) b4,aB c.list (i-1) (by omega),aC]
    by_cases b5:(c.list[i]!).1<=(c.list[i-1]!).1
    · rw [aO b5]
      exact ⟨fun _=>rfl,fun h=>absurd ((Classical.not_not.1 h).2.2.2.1 b4) (by omega)⟩
    · rw [aL b5]
      exact go fun _=>by omega
  · have f1:decide ((0:Int)<(i:Int))=false:=aL (by omega)
    rw [f1];exact go fun h=>absurd h b4) (by
  unfold qX
  have:decide ((c.list.length:Int)<(c.list.length:Int))=false:=aL (by omega)
  simp only [aE,this,cond_false])
 have same:fC c↔ ∀i,i<c.list.length->(fV (c.list[i]!).2/\0<=(c.list[i]!).1/\(c.list[i]!).1<c.next_/\(0<i->(c.list[i-1]!).1<(c.list[i]!).1)/\ ∀j,j<i-> ¬(c.list[j]!).2=(c.list[i]!).2):=by
  constructor
  · intro ok i hi
    exact ⟨ok.cv i hi,(ok.nr i hi).1,(ok.nr i hi).2,fun h=>ok.up (i-1) i (by omega) hi,fun j hj=>ok.nd j i hj hi⟩
  · intro h
    rw [fC.iff (by omega) (by omega) (by omega)]
    intro i hi;obtain ⟨a1,a2,a3,a4,a5⟩:=h i hi;refine ⟨a1,a5,?_,a3⟩;unfold C7;split
    · omega
    · exact a4 (by omega)
 by_cases ok:fC c
 · rw [if_pos ok]
   exact key.2 fun i hi=>Classical.not_not.2 (same.1 ok i hi)
 · rw [if_neg ok]
   rw [same] at ok;obtain ⟨i,h⟩:=Classical.not_forall.1 ok;obtain ⟨hi,hx⟩:=Classical.not_imp.1 h;exact key.1 ⟨i,hi,hx⟩
end Go.Proofs.YtfejhjllooomlaaGreat
namespace Go.Proofs.YtfejhjllooomlaaGreat
open Go.Vm Classical
def wZ (l:List uW) (x:Int×Int):Prop:= ∃i,i<l.length/\(l[i]!).2=x
theorem TU (l:List uW) (x:Int×Int) (hl:l.length<=1000000):cI l x=some (decide (wZ l x)):=by
 unfold cI fW;have key:=lT (body:=dG) (fun i=>(l,x.1,x.2,(l.length:Int),(i:Int))) l.length (fun i=>(l[i]!).2=x) (fun i=>(i:Int)) (e:= -1) (fun i hi=>by
  have e1:decide ((i:Int)<(l.length:Int))=true:=aO (by omega)
  unfold dG FL;simp only [e1,cond_true,aB l i hi,aC,bC (show i<1000000000 by omega)]
  generalize l[i]! =y;constructor
  · intro h;rw [gH (congrArg Prod.fst h),gH (congrArg Prod.snd h)];rfl
  · intro h
    by_cases h1:y.2.1=x.1
    · rw [gH h1,fS (fun h2=>h (Prod.ext h1 h2))];rfl
    · rw [fS h1];rfl) (by
  unfold dG
  have:decide ((l.length:Int)<(l.length:Int))=false:=aL (by omega)
  simp only [this,cond_false])
 rw [aE]
 by_cases hx:wZ l x
 · obtain ⟨k,h1,h2,h3⟩:=C0 hx
   have:=key.1 k h1 h2 h3
   rw [show ((0:Nat):Int)=0 from rfl] at this;rw [this,aO hx];simp only [aC,aO (show (0:Int)<=(k:Int) by omega)]
 · have:=key.2 fun i hi he=>hx ⟨i,hi,he⟩
   rw [show ((0:Nat):Int)=0 from rfl] at this;rw [this,aL hx];rfl
theorem IX:eC=cI:=rfl
theorem BH (c:aU) (x:Int×Int) (hl:c.list.length<=1000000):vV c x=some (decide (wZ c.list x)):=by
 unfold vV;have key:=dD (body:=vN) (fun i=>((i:Int),c.next_,c.list,x)) c.list.length (fun i=>(c.list[i]!).2=x) (r:=true) (e:=false) (fun i hi=>by
  have e1:decide ((i:Int)<(c.list.length:Int))=true:=aO (by omega)
  unfold vN;simp only [aE,e1,cond_true,aB c.list i hi,aC,bC (show i<1000000000 by omega)]
  generalize c.list[i]! =y;constructor
  · intro h;rw [gH (congrArg Prod.fst h),gH (congrArg Prod.snd h)];rfl
  · intro h
    by_cases h1:y.2.1=x.1
    · rw [gH h1,fS (fun h2=>h (Prod.ext h1 h2))];rfl
    · rw [fS h1];rfl) (by
  unfold vN
  have:decide ((c.list.length:Int)<(c.list.length:Int))=false:=aL (by omega)
  simp only [aE,this,cond_false])
 by_cases hx:wZ c.list x
 · rw [aO hx];exact key.1 hx
 · rw [aL hx];exact key.2 fun i hi he=>hx ⟨i,hi,he⟩
def rH (c:aU) (x:Int×Int):aU:=⟨c.next_+1,c.list++[(c.next_,x)]⟩
def G7 (c:aU):Prop:=c.list.length=200\/c.next_=1000000
theorem TV {c:aU} (ok:fC c) {x:Int×Int} (hx:fV x):GY c x=some (if wZ c.list x then (⟨0,[]⟩,0,14) else if G7 c then (⟨0,[]⟩,0,18) else (rH c x,c.next_,0)):=by
 have:=ok.len;have:=ok.n0;have:=ok.n1
 unfold GY;rw [yX,if_pos ok,EW,aO hx,TU _ _ (by omega)]
 simp only [aC,show ((0:Int) !=0)=false from rfl,cond_false,Bool.not_true,aE]
 by_cases h1:wZ c.list x
 · rw [aO h1,if_pos h1];rfl
 rw [aL h1,if_neg h1];unfold G7
 by_cases h2:c.list.length=200
 · rw [gH (show (c.list.length:Int)=200 by omega),if_pos (.inl h2)];rfl
 rw [fS (show¬(c.list.length:Int)=200 by omega)]
 by_cases h3:c.next_=1000000
 · rw [gH h3,if_pos (.inr h3)];rfl
 rw [fS h3,if_neg (by omega)]
 have e:aA .i64 (c.next_+1)=c.next_+1:=by rw [wi];omega
 simp only [cond_false,aX (show c.list.length<=1048576 by omega),aC,dO (show c.list.length+[(c.next_,x)].length<=1048576 by simp;omega),e]
 rfl
theorem QO {c:aU} (ok:fC c) {x:Int×Int} (hx:fV x):D0 c x=some (if wZ c.list x then (⟨0,[]⟩,0,14) else if G7 c then (⟨0,[]⟩,0,18) else (rH c x,c.next_,0)):=by
 have:=ok.len;have:=ok.n0;have:=ok.n1
 unfold D0 pJ;rw [C8,if_pos ok,EX,aO hx,BH _ _ (by omega)]
 simp only [aC,show ((0:Int) !=0)=false from rfl,cond_false,Bool.not_true,aE]
 by_cases h1:wZ c.list x
 · rw [aO h1,if_pos h1];rfl
 rw [aL h1,if_neg h1];unfold G7
 by_cases h2:c.list.length=200
 · rw [gH (show (c.list.length:Int)=200 by omega),if_pos (.inl h2)];rfl
 rw [fS (show¬(c.list.length:Int)=200 by omega)]
 by_cases h3:c.next_=1000000
 · rw [gH h3,if_pos (.inr h3)];rfl
 rw [fS h3,if_neg (by omega)]
 have e:aA .i64 (c.next_+1)=c.next_+1:=by rw [wi];omega
 simp only [cond_false,aX (show c.list.length<=1048576 by omega),aC,dO (show c.list.length+[(c.next_,x)].length<=1048576 by simp;omega),e]
 rfl
theorem xA {c:aU} {x:Int×Int} {i:Nat}:(rH c x).list[i]! =if i<c.list.length then c.list[i]! else if i=c.list.length then (c.next_,x) else default:=by
 show (c.list++[(c.next_,x)])[i]! =_
 by_cases h:i<c.list.length
 · rw [if_pos h,kF h]
 · rw [if_neg h,lJ (by omega)]
   by_cases e:i=c.list.length
   · rw [if_pos e,e,Nat.sub_self];rfl
   · rw [if_neg e,getElem!_neg _ _ (by simp;omega)]
theorem EA {c:aU} {x:Int×Int}:(rH c x).list.length=c.list.length+1:=by
 show (c.list++[(c.next_,x)]).length=_;simp
theorem WA {c:aU} (ok:fC c) {x:Int×Int} (hx:fV x) (hn: ¬wZ c.list x) (hf: ¬G7 c):fC (rH c x):=by
 have h1:=ok.len;have h2:=ok.n0;have h3:=ok.n1;unfold G7 at hf;refine ⟨by rw [EA];omega,by show 0<=c.next_+1;omega,by show c.next_+1<=1000000;omega,?_,?_,?_,?_⟩
 · intro i hi
   rw [EA] at hi;rw [xA]
   by_cases h:i<c.list.length
   · rw [if_pos h];exact ok.cv i h
   · rw [if_neg h,if_pos (by omega)];exact hx
 · intro i hi
   rw [EA] at hi;rw [xA];show 0<=_/\_<c.next_+1
   by_cases h:i<c.list.length
   · rw [if_pos h];have:=ok.nr i h;omega
   · rw [if_neg h,if_pos (by omega)];dsimp only;omega
 · intro i j hij hj
   rw [EA] at hj;rw [xA,xA,if_pos (by omega)]
   by_cases h:j<c.list.length
   · rw [if_pos h];exact ok.up i j hij h
   · rw [if_neg h,if_pos (by omega)]
     exact (ok.nr i (by omega)).2
 · intro i j hij hj
   rw [EA] at hj;rw [xA,xA,if_pos (by omega)]
   by_cases h:j<c.list.length
   · rw [if_pos h];exact ok.nd i j hij h
   · rw [if_neg h,if_pos (by omega)]
     exact fun he=>hn ⟨i,by omega,he⟩
def pE (c:aU) (k:Nat):aU:=⟨c.next_,c.list.eraseIdx k⟩
theorem YT {α:Type} {l:List α} {k:Nat} (hk:k<l.length):(l.eraseIdx k).length=l.length-1:=by
 rw [List.length_eraseIdx,if_pos hk]
theorem M2 {c:aU} (ok:fC c) {k:Nat} (hk:k<c.list.length):fC (pE c k):=by
 have h1:=ok.len;have len:(pE c k).list.length=c.list.length-1:=YT hk;have cell: ∀i,∃j,i<=j/\j<=i+1/\(i<c.list.length-1->j<c.list.length)/\(pE c k).list[i]! =c.list[j]!/\(i<k->j=i)/\(k<=i->j=i+1):=by
  intro i
  by_cases h:i<k
  · exact ⟨i,by omega,by omega,by omega,by show (c.list.eraseIdx k)[i]! =_;rw [MZ,if_pos h],fun _=>rfl,by omega⟩
  · exact ⟨i+1,by omega,by omega,by omega,by show (c.list.eraseIdx k)[i]! =_;rw [MZ,if_neg h],by omega,fun _=>rfl⟩
 refine ⟨by omega,ok.n0,ok.n1,?_,?_,?_,?_⟩
 · intro i hi
   obtain ⟨j,j1,j2,j3,j4,j5,j6⟩:=cell i;rw [j4];exact ok.cv j (j3 (by omega))
 · intro i hi
   obtain ⟨j,j1,j2,j3,j4,j5,j6⟩:=cell i;rw [j4];exact ok.nr j (j3 (by omega))
 · intro i i' hij hi
   obtain ⟨j,j1,j2,j3,j4,j5,j6⟩:=cell i;obtain ⟨m,m1,m2,m3,m4,m5,m6⟩:=cell i';rw [j4,m4];exact ok.up j m (by omega) (m3 (by omega))
 · intro i i' hij hi
   obtain ⟨j,j1,j2,j3,j4,j5,j6⟩:=cell i;obtain ⟨m,m1,m2,m3,m4,m5,m6⟩:=cell i';rw [j4,m4];exact ok.nd j m (by omega) (m3 (by omega))
theorem M3 {c:aU} (ok:fC c) {k:Nat} (hk:k<c.list.length) {n:Int} (hn:(c.list[k]!).1=n):xU c n=some (pE c k,(c.list[k]!).2,0):=by
 have h1:=ok.len;unfold xU IM;obtain ⟨L,d1,d2⟩:=JL c.list k hk;rw [yX,if_pos ok,(vP c.list n (by omega) ok.up).1 k hk hn]
 simp only [aC,show ((0:Int) !=0)=false from rfl,cond_false,Bool.not_true,aX (show c.list.length<=1048576 by omega),bC (show k<1000000000 by omega),d1,aB c.list k hk,d2]
 rfl
theorem QP {l:List uW} {k:Nat} (hk:k<l.length) (hs: ∀i j,i<j->j<l.length->(l[i]!).1<(l[j]!).1) {n:Int} (hn:(l[k]!).1=n):l.filter (fun x=>x.1 !=n)=l.eraseIdx k:=by
 rw [wY];have e:l.filter (fun x=>x.1 !=n)=(l.take k++l[k]!::l.drop (k+1)).filter (fun x=>x.1 !=n):=congrArg _ (TB hk)
 rw [e,List.filter_append,List.filter_cons_of_neg (by rw [hn];simp)]
 congr 1
 · rw [List.filter_eq_self]
   intro x hx;obtain ⟨i,h1,h2,rfl⟩:=cL.1 hx
   have:=hs i k h1 hk
   exact fA (by omega)
 · rw [List.filter_eq_self]
   intro x hx;obtain ⟨i,h1,rfl⟩:=bA.1 hx;rw [List.length_drop] at h1;rw [sF]
   have:=hs k (k+1+i) (by omega) (by omega)
   exact fA (by omega)
theorem IY {c:aU} (ok:fC c) {k:Nat} (hk:k<c.list.length) {n:Int} (hn:(c.list[k]!).1=n):sZ c n=some (pE c k):=by
 have h1:=ok.len;unfold sZ;have key:=cW (body:=lF) (fun i=>(n,(i:Int),c.next_,c.list,0,c.next_,(c.list.take i).filter (fun x=>x.1 !=n))) c.list.length (fun i hi=>by
  have e1:decide ((i:Int)<(c.list.length:Int))=true:=aO (by omega)
  have nx:(c.list.take (i+1)).filter (fun x=>x.1 !=n)=(c.list.take i).filter (fun x=>x.1 !=n)++(if (c.list[i]!).1 !=n then [c.list[i]!] else []):=by
   rw [hH hi,List.filter_append,List.filter_cons,List.filter_nil]
  have fl:((c.list.take i).filter (fun x=>x.1 !=n)).length<=200:=Nat.le_trans (List.length_filter_le _ _) (by rw [List.length_take];omega)
  unfold lF;simp only [aE,e1,cond_true,aB c.list i hi,aC,bC (show i<1000000000 by omega),nx]
  by_cases h:(c.list[i]!).1=n
  · rw [bP h];simp
  · rw [fA h]
    simp only [cond_true,if_true,dO (show ((c.list.take i).filter (fun x=>x.1 !=n)).length+[c.list[i]!].length<=1048576 by simp only [List.length_cons,List.length_nil];omega),aC])
 have fin:lF (n,(c.list.length:Int),c.next_,c.list,0,c.next_,(c.list.take c.list.length).filter (fun x=>x.1 !=n))=some (.done (pE c k)):=by
  unfold lF
  have:decide ((c.list.length:Int)<(c.list.length:Int))=false:=aL (by omega)
  simp only [aE,this,cond_false,List.take_length];rw [QP hk ok.up hn];rfl
 refine Eq.trans ?_ (aI fin);exact key
end Go.Proofs.YtfejhjllooomlaaGreat
namespace Go.Proofs.YtfejhjllooomlaaGreat
open Go.Vm Classical
def kI (l:List Pt) (id:Int):Prop:= ∃k,k<l.length/\(l[k]!).1=id
noncomputable def bH (l:List Pt) (id:Int):Pt:=if h:kI l id then l[h.choose]! else (-1,0,0)
theorem KG {l:List Pt} (hs:mE l) {k:Nat} (hk:k<l.length) {id:Int} (h:(l[k]!).1=id):bH l id=l[k]!:=by
 have hp:kI l id:=⟨k,hk,h⟩;unfold bH;rw [dif_pos hp]
 have:=hp.choose_spec
 rw [MH hs this.1 hk (by rw [this.2,h])]
theorem fJ {l:List Pt} (ok:bT l) {id:Int} (h:kI l id):gN (bH l id)/\(bH l id).1=id:=by
 obtain ⟨k,hk,he⟩:=h;rw [KG ok.2.2 hk he];exact ⟨ok.2.1 _ (bE hk),he⟩
theorem IZ {l:List Pt} {id:Int} (h: ¬kI l id):bH l id=(-1,0,0):=by unfold bH;rw [dif_neg h]
theorem nT {l:List Pt} (ok:bT l) (id:Int):jZ ⟨l⟩ id=some (bH l id):=by
 have h1:=ok.1;have bs:=vP l id (by omega) (fun i j=>iC ok.2.2)
 unfold jZ;dsimp only;rw [aCw]
 by_cases h:kI l id
 · obtain ⟨k,hk,he⟩:=h
   rw [bs.1 k hk he];simp only [aC,Bool.not_true,cond_false,aB l k hk,KG ok.2.2 hk he]
 · obtain ⟨m,m1,m2,m3,e⟩:=bs.2 (fun k hk he=>h ⟨k,hk,he⟩)
   rw [e,IZ h];rfl
theorem BI {l:List Pt} (ok:bT l) {id:Int} (h:kI l id): ∃k,k<l.length/\gG ⟨l⟩ id=some (k:Int)/\l[k]! =bH l id:=by
 have h1:=ok.1;obtain ⟨k,hk,he⟩:=h;exact ⟨k,hk,IR ok.2.2 (by omega) hk he,(KG ok.2.2 hk he).symm⟩
theorem I0 {l:List Pt} (ok:bT l) {id:Int} (h: ¬kI l id):gG ⟨l⟩ id=some (-1):=by
 have h1:=ok.1;exact aIW (by omega) fun k hk he=>h ⟨k,hk,he⟩
def kJ (l:List Pt) (x:Int×Int):Prop:=kI l x.1/\kI l x.2
noncomputable def bI (l:List Pt) (x t:Int×Int):(Int×Int)×Bool:=EU (bH l x.2) (bH l x.1) t
theorem yY {l:List Pt} (ok:bT l) {x t:Int×Int} (hx:fV x) (ht:cK t) (h64:rJ t):
 rZ ⟨l⟩ x t=some (if kJ l x then ((bI l x t).1,(bI l x t).2,0) else ((0,0),false,8)):=by
 unfold rZ;rw [nT ok,nT ok];simp only [aC,J0 h64];have bad: ¬gN (-1,0,0):=by unfold gN;dsimp only;omega
 by_cases h1:kI l x.1
 · by_cases h2:kI l x.2
   · obtain ⟨p1,p2⟩:=fJ ok h1
     obtain ⟨q1,q2⟩:=fJ ok h2;rw [if_pos ⟨q1,p1,ht,by rw [p2,q2];exact fun h=>hx.2.2.2.2 h.symm⟩,if_pos ⟨h1,h2⟩]
     rfl
   · rw [IZ h2,if_neg (fun h=>bad h.1),if_neg (fun h=>bad h.1),if_neg (fun h=>h2 h.2)]
 · rw [IZ h1,if_neg (fun h=>bad h.2.1),if_neg (fun h=>bad h.2.1),if_neg (fun h=>h1 h.1)]
theorem yZ {l:List Pt} (ok:bT l) {x t:Int×Int} (h64:rJ t) (hb:kJ l x):sD ⟨l⟩ x t=some (bI l x t):=by
 obtain ⟨h1,h2⟩:=hb;obtain ⟨j,j1,j2,j3⟩:=BI ok h1;obtain ⟨k,k1,k2,k3⟩:=BI ok h2;unfold sD;simp only [j2,k2,aC,aB l j j1,aB l k k1,j3,k3,V0 (fJ ok h2).1 (fJ ok h1).1 h64];rfl
theorem aCx (c:aU) {l:List Pt} (ok:bT l) (hl:c.list.length<=200):xV c ⟨l⟩=some (decide (∀i,i<c.list.length->kJ l (c.list[i]!).2)):=by
 unfold xV;have key:=dD (body:=qY) (fun i=>((i:Int),c.next_,c.list,l)) c.list.length (fun i=> ¬kJ l (c.list[i]!).2) (r:=false) (e:=true) (fun i hi=>by
  have e1:decide ((i:Int)<(c.list.length:Int))=true:=aO (by omega)
  unfold qY kJ;simp only [aE,e1,cond_true,aB c.list i hi,aC,bC (show i<1000000000 by omega)]
  by_cases h1:kI l (c.list[i]!).2.1
  · obtain ⟨k,k1,k2,_⟩:=BI ok h1
    rw [k2];simp only [aC,aL (show¬(k:Int)<0 by omega),cond_false]
    by_cases h2:kI l (c.list[i]!).2.2
    · obtain ⟨j,j1,j2,_⟩:=BI ok h2
      rw [j2];simp only [aC,aL (show¬(j:Int)<0 by omega),cond_false]
      exact ⟨fun h=>absurd ⟨h1,h2⟩ h,fun _=>trivial⟩
    · rw [I0 ok h2]
      exact ⟨fun _=>rfl,fun h=>absurd (Classical.not_not.1 h).2 h2⟩
  · rw [I0 ok h1]
    exact ⟨fun _=>rfl,fun h=>absurd (Classical.not_not.1 h).1 h1⟩) (by
  unfold qY
  have:decide ((c.list.length:Int)<(c.list.length:Int))=false:=aL (by omega)
  simp only [aE,this,cond_false])
 by_cases hx: ∀i,i<c.list.length->kJ l (c.list[i]!).2
 · rw [aO hx];exact key.2 fun i hi=>Classical.not_not.2 (hx i hi)
 · rw [aL hx]
   obtain ⟨i,h⟩:=Classical.not_forall.1 hx;obtain ⟨hi,hx⟩:=Classical.not_imp.1 h;exact key.1 ⟨i,hi,hx⟩
def aZ (l:List Pt) (t:Int×Int) (H:List Ev):List uW->List uW->Prop
 | [],ds=>ds=[]
 |x::cs,ds=>((bI l x.2 t).2=true-> ∃d ds',ds=d::ds'/\d.1=x.1/\((bI l x.2 t).1.1,(bI l x.2 t).1.2,x.1,d.2)∈H/\aZ l t H cs ds')/\((bI l x.2 t).2=false->aZ l t H cs ds)
structure bG (c:aP):Prop where
 nowv:cK c.now
 now64:rJ c.now
 fld:bT c.field.points
 crt:fC c.certs
 agd:eZ c.agenda
 w200:c.agenda.where_.length=200
 hd:c.agenda.heap.length=c.due.length
 known: ∀i,i<c.certs.list.length->kJ c.field.points (c.certs.list[i]!).2
 fol:aZ c.field.points c.now c.agenda.heap c.certs.list c.due
structure uM (c:aP):Prop where
 now64:rJ c.now
 ag:C4 c.agenda
 du:c.due.length<=1000000
theorem aJG {a:aG} (ok:eZ a) (w2:a.where_.length=200) (t:Int×Int) (n:Int) (h:Int×Int):
 (0<=h.1/\h.1<200/\0<=a.where_[h.1.toNat]!/\a.heap[(a.where_[h.1.toNat]!).toNat]! =(t.1,t.2,n,h))↔((t.1,t.2,n,h):Ev)∈a.heap:=by
 have wl:=ok.wl;have hu:=ok.so.ul;constructor
 · rintro ⟨h1,h2,h3,h4⟩
   cases hb:a.slots.used[h.1.toNat]! with
   |false=>
    have:=ok.un h.1.toNat (by omega) hb
    omega
   |true=>
    have:=ok.fwd h.1.toNat (by omega) hb
    rw [<- h4];exact bE (by omega)
 · intro hm
   obtain ⟨w,hw,he⟩:=bA.1 hm;obtain ⟨b1,b2,b3,b4,b5⟩:=ok.back hw;have e:Ev.ix a.heap[w]! =h.1:=by rw [he]
   have e2:Ev.n a.heap[w]! =h.1.toNat:=by rw [he]
   rw [e] at b1 b2;rw [e2] at b5;refine ⟨b1,by omega,by omega,?_⟩
   rw [b5,Int.toNat_natCast,he]
theorem aCy {a:aG} (ok:eZ a) {i:Nat} (hi:i<a.slots.uses.length) (h:0<=a.where_[i]!):a.where_[i]!<a.heap.length:=by
 cases hb:a.slots.used[i]! with
 |false=>have:=ok.un i hi hb;omega
 |true=>exact (ok.fwd i hi hb).2.1
theorem vZ {α:Type} [Inhabited α] {l:List α} {i:Nat} (h:i<l.length):l.drop i=l[i]!::l.drop (i+1):=by
 rw [getElem!_pos l i h];exact List.drop_eq_getElem_cons h
theorem TW {c:aP} (nowv:cK c.now) (now64:rJ c.now) (fld:bT c.field.points) (crt:fC c.certs) (agd:eZ c.agenda) (w2:c.agenda.where_.length=200):
 ∀(d i:Nat) (ds:List uW),c.certs.list.length-i<=d->i<=c.certs.list.length->ds.length<=1000000->
  aJ cR (ds,c.certs.list,(c.certs.list.length:Int),(i:Int),c.now.1,c.now.2,c.field.points,c.certs.next_,c.certs.list,c.agenda.slots.uses,c.agenda.slots.used,c.agenda.slots.free,c.agenda.heap,c.agenda.where_,c.due)=
   some (.done (if (∀j,i<=j->j<c.certs.list.length->kJ c.field.points (c.certs.list[j]!).2)/\aZ c.field.points c.now c.agenda.heap (c.certs.list.drop i) ds then 0 else 8)):=by
 have hl:=crt.len;have wl:=agd.wl;have fin: ∀(ds:List uW),aJ cR (ds,c.certs.list,(c.certs.list.length:Int),(c.certs.list.length:Int),c.now.1,c.now.2,c.field.points,c.certs.next_,c.certs.list,c.agenda.slots.uses,c.agenda.slots.used,c.agenda.slots.free,c.agenda.heap,c.agenda.where_,c.due)=some (.done (if ds=[] then 0 else 8)):=by
  intro ds;refine aI ?_;unfold cR;have e1:decide ((c.certs.list.length:Int)<(c.certs.list.length:Int))=false:=aL (by omega)
  simp only [aE,e1,cond_false];cases ds with
  |nil=>rw [aL (by simp),if_pos rfl];rfl
  |cons d ds=>rw [aO (by simp),if_neg (by simp)];rfl
 intro d
 induction d with
 |zero=>
  intro i ds hd hi hds
  have:i=c.certs.list.length:=by omega
  subst this;rw [fin ds,List.drop_length]
  have:((∀j,c.certs.list.length<=j->j<c.certs.list.length->kJ c.field.points (c.certs.list[j]!).2)/\aZ c.field.points c.now c.agenda.heap [] ds)↔ds=[]:=⟨fun h=>h.2,fun h=>⟨fun j h1 h2=>by omega,h⟩⟩
  by_cases h:ds=[]
  · rw [if_pos h,if_pos (this.2 h)]
  · rw [if_neg h,if_neg (fun k=>h (this.1 k))]
 |succ d ih=>
  intro i ds hd hi hds
  by_cases he:i=c.certs.list.length
  · subst he
    rw [fin ds,List.drop_length]
    have:((∀j,c.certs.list.length<=j->j<c.certs.list.length->kJ c.field.points (c.certs.list[j]!).2)/\aZ c.field.points c.now c.agenda.heap [] ds)↔ds=[]:=⟨fun h=>h.2,fun h=>⟨fun j h1 h2=>by omega,h⟩⟩
    by_cases h:ds=[]
    · rw [if_pos h,if_pos (this.2 h)]
    · rw [if_neg h,if_neg (fun k=>h (this.1 k))]
  have hi':i<c.certs.list.length:=by omega
  have e1:decide ((i:Int)<(c.certs.list.length:Int))=true:=aO (by omega)
  have hw:=yY fld (x:=(c.certs.list[i]!).2) (t:=(c.now.1,c.now.2)) (crt.cv i hi') nowv now64;have dr:=vZ hi';have all:(∀j,i<=j->j<c.certs.list.length->kJ c.field.points (c.certs.list[j]!).2)↔(kJ c.field.points (c.certs.list[i]!).2/\ ∀j,i+1<=j->j<c.certs.list.length->kJ c.field.points (c.certs.list[j]!).2):=by
   constructor
   · intro h;exact ⟨h i (Nat.le_refl _) hi',fun j h1 h2=>h j (by omega) h2⟩
   · rintro ⟨h1,h2⟩ j h3 h4
     by_cases e:j=i
     · rw [e];exact h1
     · exact h2 j (by omega) h4
  have sc:=bC (show i<1000000000 by omega)
  by_cases hb:kJ c.field.points (c.certs.list[i]!).2
  case neg=>
   rw [if_neg (fun h=>hb (all.1 h.1).1)]
   refine aI ?_;unfold cR;simp only [e1,cond_true,aB c.certs.list i hi',aC,hw,if_neg hb];rfl
  rw [if_pos hb] at hw
  by_cases is:(bI c.field.points (c.certs.list[i]!).2 c.now).2=true
  case neg=>
   have is':(bI c.field.points (c.certs.list[i]!).2 c.now).2=false:=by simpa using is
   rw [aV (y:=(ds,c.certs.list,(c.certs.list.length:Int),((i+1:Nat):Int),c.now.1,c.now.2,c.field.points,c.certs.next_,c.certs.list,c.agenda.slots.uses,c.agenda.slots.used,c.agenda.slots.free,c.agenda.heap,c.agenda.where_,c.due)) (by
    unfold cR;simp only [e1,cond_true,aB c.certs.list i hi',aC,hw,sc,is',show ((0:Int) !=0)=false from rfl,cond_false,Bool.not_false]),ih (i+1) ds (by omega) (by omega) hds]
   have same:((∀j,i<=j->j<c.certs.list.length->kJ c.field.points (c.certs.list[j]!).2)/\aZ c.field.points c.now c.agenda.heap (c.certs.list.drop i) ds)↔((∀j,i+1<=j->j<c.certs.list.length->kJ c.field.points (c.certs.list[j]!).2)/\aZ c.field.points c.now c.agenda.heap (c.certs.list.drop (i+1)) ds):=by
    rw [dr,all];constructor
    · rintro ⟨⟨_,h1⟩,h2⟩;exact ⟨h1,h2.2 is'⟩
    · rintro ⟨h1,h2⟩;exact ⟨⟨hb,h1⟩,fun h=>absurd h is,fun _=>h2⟩
   simp only [same]
  have stop:(¬((∀j,i<=j->j<c.certs.list.length->kJ c.field.points (c.certs.list[j]!).2)/\aZ c.field.points c.now c.agenda.heap (c.certs.list.drop i) ds))->cR (ds,c.certs.list,(c.certs.list.length:Int),(i:Int),c.now.1,c.now.2,c.field.points,c.certs.next_,c.certs.list,c.agenda.slots.uses,c.agenda.slots.used,c.agenda.slots.free,c.agenda.heap,c.agenda.where_,c.due)=some (.done (.done 8))->aJ cR (ds,c.certs.list,(c.certs.list.length:Int),(i:Int),c.now.1,c.now.2,c.field.points,c.certs.next_,c.certs.list,c.agenda.slots.uses,c.agenda.slots.used,c.agenda.slots.free,c.agenda.heap,c.agenda.where_,c.due)=
   some (.done (if (∀j,i<=j->j<c.certs.list.length->kJ c.field.points (c.certs.list[j]!).2)/\aZ c.field.points c.now c.agenda.heap (c.certs.list.drop i) ds then 0 else 8)):=by
   intro h1 h2;rw [if_neg h1];exact aI h2
  cases ds with
  |nil=>
   refine stop (fun h=>?_) ?_
   · rw [dr] at h
     obtain ⟨d,ds',h1,_⟩:=h.2.1 is;cases h1
   · unfold cR
     simp only [e1,cond_true,aB c.certs.list i hi',aC,hw,is,show ((0:Int) !=0)=false from rfl,cond_false,Bool.not_true];rfl
  |cons d0 ds=>
   have l0:((((d0::ds).length:Nat):Int)==0)=false:=fS (by simp;omega)
   have g0:aK (d0::ds) 0=some d0:=rfl
   have fol: ∀P:Prop,(P↔d0.1=(c.certs.list[i]!).1/\(((bI c.field.points (c.certs.list[i]!).2 c.now).1.1,(bI c.field.points (c.certs.list[i]!).2 c.now).1.2,(c.certs.list[i]!).1,d0.2):Ev)∈c.agenda.heap)-> ¬P-> ¬((∀j,i<=j->j<c.certs.list.length->kJ c.field.points (c.certs.list[j]!).2)/\aZ c.field.points c.now c.agenda.heap (c.certs.list.drop i) (d0::ds)):=by
    intro P hP hn h;rw [dr] at h;obtain ⟨d,ds',h1,h2,h3,_⟩:=h.2.1 is;injection h1 with h1 _;subst h1;exact hn (hP.2 ⟨h2,h3⟩)
   by_cases b1:d0.1=(c.certs.list[i]!).1
   case neg=>
    refine stop (fol (d0.1=(c.certs.list[i]!).1/\_) Iff.rfl (fun h=>b1 h.1)) ?_
    unfold cR;simp only [aE,e1,cond_true,aB c.certs.list i hi',aC,hw,is,show ((0:Int) !=0)=false from rfl,cond_false,Bool.not_true,l0,g0,fA b1]
   have ea:=aJG agd w2 (bI c.field.points (c.certs.list[i]!).2 c.now).1 (c.certs.list[i]!).1 d0.2
   by_cases b2:d0.2.1<0
   · refine stop (fol (d0.1=(c.certs.list[i]!).1/\_) Iff.rfl (fun h=>by have:=(ea.2 h.2).1;omega)) ?_
     unfold cR;simp only [aE,e1,cond_true,aB c.certs.list i hi',aC,hw,is,show ((0:Int) !=0)=false from rfl,cond_false,Bool.not_true,l0,g0,bP b1,aO b2]
   by_cases b3:200<=d0.2.1
   · refine stop (fol (d0.1=(c.certs.list[i]!).1/\_) Iff.rfl (fun h=>by have:=(ea.2 h.2).2.1;omega)) ?_
     unfold cR;simp only [aE,e1,cond_true,aB c.certs.list i hi',aC,hw,is,show ((0:Int) !=0)=false from rfl,cond_false,Bool.not_true,l0,g0,bP b1,aL b2,aO b3]
   have gw:=dU (l:=c.agenda.where_) (i:=d0.2.1) (by omega) (by omega)
   by_cases b4:c.agenda.where_[d0.2.1.toNat]!<0
   · refine stop (fol (d0.1=(c.certs.list[i]!).1/\_) Iff.rfl (fun h=>by have:=(ea.2 h.2).2.2.1;omega)) ?_
     unfold cR;simp only [aE,e1,cond_true,aB c.certs.list i hi',aC,hw,is,show ((0:Int) !=0)=false from rfl,cond_false,Bool.not_true,l0,g0,bP b1,aL b2,aL b3,gw,aO b4]
   have gh:=dU (l:=c.agenda.heap) (i:=c.agenda.where_[d0.2.1.toNat]!) (by omega) (aCy agd (by omega) (by omega))
   have sl:jM (d0::ds) 1 ((((d0::ds).length:Nat):Int))=some ds:=by
    unfold jM;rw [if_pos ⟨by omega,by simp;omega,by omega⟩]
    simp
   have evq: ∀(e:Ev) (p:Int×Int) (n:Int) (h:Int×Int),((e.1==p.1)&&((e.2.1==p.2)&&((e.2.2.1==n)&&((e.2.2.2.1==h.1)&&(e.2.2.2.2==h.2)))))=decide (e=(p.1,p.2,n,h)):=by
    intro e p n h;rw [Bool.eq_iff_iff,decide_eq_true_iff];simp only [Bool.and_eq_true,beq_iff_eq];constructor
    · rintro ⟨h1,h2,h3,h4,h5⟩
      exact Prod.ext h1 (Prod.ext h2 (Prod.ext h3 (Prod.ext h4 h5)))
    · intro h;rw [h];exact ⟨rfl,rfl,rfl,rfl,rfl⟩
   have evq':=evq c.agenda.heap[(c.agenda.where_[d0.2.1.toNat]!).toNat]! (bI c.field.points (c.certs.list[i]!).2 c.now).1 (c.certs.list[i]!).1 d0.2
   by_cases b5:c.agenda.heap[(c.agenda.where_[d0.2.1.toNat]!).toNat]! =((bI c.field.points (c.certs.list[i]!).2 c.now).1.1,(bI c.field.points (c.certs.list[i]!).2 c.now).1.2,(c.certs.list[i]!).1,d0.2)
   case neg=>
    refine stop (fol (d0.1=(c.certs.list[i]!).1/\_) Iff.rfl (fun h=>b5 (ea.2 h.2).2.2.2)) ?_
    unfold cR;simp only [aE,e1,cond_true,aB c.certs.list i hi',aC,hw,is,show ((0:Int) !=0)=false from rfl,cond_false,Bool.not_true,l0,g0,bP b1,aL b2,aL b3,gw,aL b4,gh];rw [evq',aL b5];rfl
   have hmem:=ea.1 ⟨by omega,by omega,by omega,b5⟩
   rw [aV (y:=(ds,c.certs.list,(c.certs.list.length:Int),((i+1:Nat):Int),c.now.1,c.now.2,c.field.points,c.certs.next_,c.certs.list,c.agenda.slots.uses,c.agenda.slots.used,c.agenda.slots.free,c.agenda.heap,c.agenda.where_,c.due)) (by
    unfold cR;simp only [aE,e1,cond_true,aB c.certs.list i hi',aC,hw,is,show ((0:Int) !=0)=false from rfl,cond_false,Bool.not_true,l0,g0,bP b1,aL b2,aL b3,gw,aL b4,gh,sl,sc];rw [evq',aO b5]
    rfl),ih (i+1) ds (by omega) (by omega) (by simp at hds;omega)]
   have same:((∀j,i<=j->j<c.certs.list.length->kJ c.field.points (c.certs.list[j]!).2)/\aZ c.field.points c.now c.agenda.heap (c.certs.list.drop i) (d0::ds))↔((∀j,i+1<=j->j<c.certs.list.length->kJ c.field.points (c.certs.list[j]!).2)/\aZ c.field.points c.now c.agenda.heap (c.certs.list.drop (i+1)) ds):=by
    rw [dr,all];constructor
    · rintro ⟨⟨_,h1⟩,h2⟩
      obtain ⟨d,ds',k1,k2,k3,k4⟩:=h2.1 is;injection k1 with k1 k5;subst k5;exact ⟨h1,k4⟩
    · rintro ⟨h1,h2⟩
      exact ⟨⟨hb,h1⟩,fun _=>⟨d0,ds,rfl,b1,hmem,h2⟩,fun h=>by rw [is] at h;cases h⟩
   simp only [same]
end Go.Proofs.YtfejhjllooomlaaGreat
namespace Go.Proofs.YtfejhjllooomlaaGreat
open Go.Vm Classical
theorem bG.iff {c:aP} (fit:uM c):bG c↔cK c.now/\bT c.field.points/\fC c.certs/\eZ c.agenda/\c.agenda.where_.length=200/\c.agenda.heap.length=c.due.length/\(∀i,i<c.certs.list.length->kJ c.field.points (c.certs.list[i]!).2)/\aZ c.field.points c.now c.agenda.heap c.certs.list c.due:=
 ⟨fun h=>⟨h.nowv,h.fld,h.crt,h.agd,h.w200,h.hd,h.known,h.fol⟩,fun ⟨h1,h2,h3,h4,h5,h6,h7,h8⟩=>⟨h1,fit.now64,h2,h3,h4,h5,h6,h7,h8⟩⟩
theorem bG.fit {c:aP} (ok:bG c):uM c:=⟨ok.now64,ok.agd.fit,by have:=ok.hd;have:=ok.agd.bd;omega⟩
theorem TX {c:aP} {n0 n1 n2 n3:Int}:
 aJ fE (4,0,c.now.1,c.now.2,c.field.points,c.certs.next_,c.certs.list,c.agenda.slots.uses,c.agenda.slots.used,c.agenda.slots.free,c.agenda.heap,c.agenda.where_,c.due,[n0,n1,n2,n3])=
  if n0=0/\n1=0/\n2=0/\n3=0 then aJ fE (4,4,c.now.1,c.now.2,c.field.points,c.certs.next_,c.certs.list,c.agenda.slots.uses,c.agenda.slots.used,c.agenda.slots.free,c.agenda.heap,c.agenda.where_,c.due,[n0,n1,n2,n3]) else some 8:=by
 have st: ∀(i:Nat) (n:Int),i<4->aK [n0,n1,n2,n3] (i:Int)=some n->aJ fE (4,(i:Int),c.now.1,c.now.2,c.field.points,c.certs.next_,c.certs.list,c.agenda.slots.uses,c.agenda.slots.used,c.agenda.slots.free,c.agenda.heap,c.agenda.where_,c.due,[n0,n1,n2,n3])=
  if n=0 then aJ fE (4,((i+1:Nat):Int),c.now.1,c.now.2,c.field.points,c.certs.next_,c.certs.list,c.agenda.slots.uses,c.agenda.slots.used,c.agenda.slots.free,c.agenda.heap,c.agenda.where_,c.due,[n0,n1,n2,n3]) else some 8:=by
  intro i n hi hg;have e1:decide ((i:Int)<4)=true:=aO (by omega)
  by_cases h:n=0
  · rw [if_pos h]
    refine aV ?_;unfold fE;simp only [e1,cond_true,hg,aC,bP h,cond_false,bC (show i<1000000000 by omega)]
  · rw [if_neg h]
    refine aI ?_;unfold fE;simp only [e1,cond_true,hg,aC,fA h]
 have s0:=st 0 n0 (by omega) rfl
 have s1:=st 1 n1 (by omega) rfl
 have s2:=st 2 n2 (by omega) rfl
 have s3:=st 3 n3 (by omega) rfl
 have c0:((0:Nat):Int)=0:=rfl;have c4:((3+1:Nat):Int)=4:=rfl;rw [c0] at s0;rw [c4] at s3;rw [s0]
 by_cases h0:n0=0
 · rw [if_pos h0,show ((0+1:Nat):Int)=((1:Nat):Int) from rfl,s1]
   by_cases h1:n1=0
   · rw [if_pos h1,show ((1+1:Nat):Int)=((2:Nat):Int) from rfl,s2]
     by_cases h2:n2=0
     · rw [if_pos h2,show ((2+1:Nat):Int)=((3:Nat):Int) from rfl,s3]
       by_cases h3:n3=0
       · rw [if_pos h3,if_pos ⟨h0,h1,h2,h3⟩]
       · rw [if_neg h3,if_neg (fun h=>h3 h.2.2.2)]
     · rw [if_neg h2,if_neg (fun h=>h2 h.2.2.1)]
   · rw [if_neg h1,if_neg (fun h=>h1 h.2.1)]
 · rw [if_neg h0,if_neg (fun h=>h0 h.1)]
theorem nU {c:aP} (fit:uM c):gX c=some (if bG c then 0 else 8):=by
 unfold gX;rw [gY fit.now64,gJ,yX,mN _ fit.ag];simp only [aC];have h4:Int.ofNat [if cK c.now then (0:Int) else 8,wW c.field.points,if fC c.certs then (0:Int) else 8,if eZ c.agenda then (0:Int) else 8].length=4:=rfl
 rw [h4,TX];have z: ∀(p:Prop) [Decidable p],(if p then (0:Int) else 8)=0↔p:=fun p _=>by by_cases h:p<;>simp [h]
 simp only [z,fT];have f1:=bG.iff fit
 by_cases ok:cK c.now/\bT c.field.points/\fC c.certs/\eZ c.agenda
 case neg=>rw [if_neg ok,if_neg (c:=bG c) (fun h=>ok ⟨h.nowv,h.fld,h.crt,h.agd⟩)]
 obtain ⟨nowv,fld,crt,agd⟩:=ok;rw [if_pos ⟨nowv,fld,crt,agd⟩]
 by_cases w2:c.agenda.where_.length=200
 case neg=>
  rw [if_neg (c:=bG c) (fun h=>w2 h.w200)]
  refine aI ?_;unfold fE;simp only [aE,aL (show¬(4:Int)<4 by omega),cond_false,fA (show¬(c.agenda.where_.length:Int)=200 by omega),cond_true]
 by_cases hd:c.agenda.heap.length=c.due.length
 case neg=>
  rw [if_neg (c:=bG c) (fun h=>hd h.hd)]
  refine aI ?_;unfold fE;simp only [aE,aL (show¬(4:Int)<4 by omega),cond_false,bP (show (c.agenda.where_.length:Int)=200 by omega),fA (show¬(c.agenda.heap.length:Int)=(c.due.length:Int) by omega),cond_true]
 have run:=TW nowv fit.now64 fld crt agd w2 c.certs.list.length 0 c.due (by omega) (by omega) fit.du
 rw [List.drop_zero] at run;have same:((∀j,0<=j->j<c.certs.list.length->kJ c.field.points (c.certs.list[j]!).2)/\aZ c.field.points c.now c.agenda.heap c.certs.list c.due)↔bG c:=by
  rw [f1];constructor
  · rintro ⟨h1,h2⟩;exact ⟨nowv,fld,crt,agd,w2,hd,fun i hi=>h1 i (by omega) hi,h2⟩
  · rintro ⟨_,_,_,_,_,_,h1,h2⟩;exact ⟨fun j _ hj=>h1 j hj,h2⟩
 simp only [same] at run;refine aI ?_;unfold fE;simp only [aE,aL (show¬(4:Int)<4 by omega),cond_false,bP (show (c.agenda.where_.length:Int)=200 by omega),bP (show (c.agenda.heap.length:Int)=(c.due.length:Int) by omega)]
 exact run
theorem aIY {a:aG} (ok:eZ a) (h:Int×Int):wS a h=some (if yE a.slots h then (a.heap[(a.where_[h.1.toNat]!).toNat]!,0) else ((0,0,0,0,0),6)):=by
 unfold wS;rw [C5 a ok.fit,if_pos ok,YQ ok.so];simp only [aC,show ((0:Int) !=0)=false from rfl,cond_false]
 by_cases lv:yE a.slots h
 · obtain ⟨i,hi,hw,hh⟩:=ok.live lv
   have:=lv.1;have:=lv.2.1;have:=ok.wl
   rw [aO lv,if_pos lv,dU (l:=a.where_) lv.1 (by omega),hw]
   simp only [Bool.not_true,cond_false,aC,aB a.heap i hi,Int.toNat_natCast]
 · rw [aL lv,if_neg lv];rfl
theorem TY {c:aP} (now64:rJ c.now) (fld:bT c.field.points) (crt:fC c.certs) (agd:eZ c.agenda) (w2:c.agenda.where_.length=200) (hdu:c.due.length<=1000000)
 (kn: ∀i,i<c.certs.list.length->kJ c.field.points (c.certs.list[i]!).2):
 ∀(d i k:Nat),c.certs.list.length-i<=d->i<=c.certs.list.length->k<=c.due.length->
  aJ dM ((k:Int),(i:Int),c.now.1,c.now.2,c.field.points,c.certs.next_,c.certs.list,c.agenda.slots.uses,c.agenda.slots.used,c.agenda.slots.free,c.agenda.heap,c.agenda.where_,c.due)=
   some (if aZ c.field.points c.now c.agenda.heap (c.certs.list.drop i) (c.due.drop k) then 0 else 8):=by
 have hl:=crt.len;have wl:=agd.wl
 have fin: ∀k:Nat,k<=c.due.length->aJ dM ((k:Int),(c.certs.list.length:Int),c.now.1,c.now.2,c.field.points,c.certs.next_,c.certs.list,c.agenda.slots.uses,c.agenda.slots.used,c.agenda.slots.free,c.agenda.heap,c.agenda.where_,c.due)=some (if aZ c.field.points c.now c.agenda.heap (c.certs.list.drop c.certs.list.length) (c.due.drop k) then 0 else 8):=by
  intro k hk;rw [List.drop_length];refine aI ?_;unfold dM;have e1:decide ((c.certs.list.length:Int)<(c.certs.list.length:Int))=false:=aL (by omega)
  simp only [aE,e1,cond_false]
  have:aZ c.field.points c.now c.agenda.heap [] (c.due.drop k)↔k=c.due.length:=by
   show c.due.drop k=[]↔_;rw [List.drop_eq_nil_iff];omega
  by_cases h:k=c.due.length
  · rw [if_pos (this.2 h),bP (by omega)];rfl
  · rw [if_neg (fun x=>h (this.1 x)),fA (by omega)];rfl
 intro d
 induction d with
 |zero=>
  intro i k hd hi hk
  have:i=c.certs.list.length:=by omega
  subst this;exact fin k hk
 |succ d ih=>
  intro i k hd hi hk
  by_cases he:i=c.certs.list.length
  · subst he;exact fin k hk
  have hi':i<c.certs.list.length:=by omega
  have e1:decide ((i:Int)<(c.certs.list.length:Int))=true:=aO (by omega)
  have hw:=yZ fld (x:=(c.certs.list[i]!).2) (t:=(c.now.1,c.now.2)) now64 (kn i hi');have dr:=vZ hi';have sc:=bC (show i<1000000000 by omega)
  have sk:=bC (show k<1000000000 by omega)
  by_cases is:(bI c.field.points (c.certs.list[i]!).2 c.now).2=true
  case neg=>
   have is':(bI c.field.points (c.certs.list[i]!).2 c.now).2=false:=by simpa using is
   rw [aV (y:=((k:Int),((i+1:Nat):Int),c.now.1,c.now.2,c.field.points,c.certs.next_,c.certs.list,c.agenda.slots.uses,c.agenda.slots.used,c.agenda.slots.free,c.agenda.heap,c.agenda.where_,c.due)) (by
    unfold dM;simp only [aE,e1,cond_true,aB c.certs.list i hi',aC,hw,sc,is',Bool.not_false]),ih (i+1) k (by omega) (by omega) hk]
   have same:aZ c.field.points c.now c.agenda.heap (c.certs.list.drop i) (c.due.drop k)↔aZ c.field.points c.now c.agenda.heap (c.certs.list.drop (i+1)) (c.due.drop k):=by
    rw [dr];exact ⟨fun h=>h.2 is',fun h=>⟨fun h'=>absurd h' is,fun _=>h⟩⟩
   simp only [same]
  have stop:(¬aZ c.field.points c.now c.agenda.heap (c.certs.list.drop i) (c.due.drop k))->dM ((k:Int),(i:Int),c.now.1,c.now.2,c.field.points,c.certs.next_,c.certs.list,c.agenda.slots.uses,c.agenda.slots.used,c.agenda.slots.free,c.agenda.heap,c.agenda.where_,c.due)=some (.done 8)->
   aJ dM ((k:Int),(i:Int),c.now.1,c.now.2,c.field.points,c.certs.next_,c.certs.list,c.agenda.slots.uses,c.agenda.slots.used,c.agenda.slots.free,c.agenda.heap,c.agenda.where_,c.due)=some (if aZ c.field.points c.now c.agenda.heap (c.certs.list.drop i) (c.due.drop k) then 0 else 8):=by
   intro h1 h2;rw [if_neg h1];exact aI h2
  by_cases hkl:k=c.due.length
  · refine stop (fun h=>?_) ?_
    · rw [dr] at h
      obtain ⟨d,ds',h1,_⟩:=h.1 is;rw [hkl,List.drop_length] at h1;cases h1
    · unfold dM
      simp only [aE,e1,cond_true,aB c.certs.list i hi',aC,hw,is,Bool.not_true,cond_false,aO (show (c.due.length:Int)<=(k:Int) by omega)]
  have hk':k<c.due.length:=by omega
  have dk:=vZ hk';have e2:decide ((c.due.length:Int)<=(k:Int))=false:=aL (by omega)
  have fol: ¬((c.due[k]!).1=(c.certs.list[i]!).1/\(((bI c.field.points (c.certs.list[i]!).2 c.now).1.1,(bI c.field.points (c.certs.list[i]!).2 c.now).1.2,(c.certs.list[i]!).1,(c.due[k]!).2):Ev)∈c.agenda.heap)-> ¬aZ c.field.points c.now c.agenda.heap (c.certs.list.drop i) (c.due.drop k):=by
   intro hn h;rw [dr,dk] at h;obtain ⟨d,ds',h1,h2,h3,_⟩:=h.1 is;injection h1 with h1 _;subst h1;exact hn ⟨h2,h3⟩
  by_cases b1:(c.due[k]!).1=(c.certs.list[i]!).1
  case neg=>
   refine stop (fol (fun h=>b1 h.1)) ?_
   unfold dM;simp only [aE,e1,cond_true,aB c.certs.list i hi',aC,hw,is,Bool.not_true,cond_false,e2,aB c.due k hk',fA b1]
  have fi:=aIY agd (c.due[k]!).2;have ea:=aJG agd w2 (bI c.field.points (c.certs.list[i]!).2 c.now).1 (c.certs.list[i]!).1 (c.due[k]!).2;have fi':wS (aG.mk (aR.mk c.agenda.slots.uses c.agenda.slots.used c.agenda.slots.free) c.agenda.heap c.agenda.where_) (c.due[k]!).2=_:=fi
  by_cases lv:yE c.agenda.slots (c.due[k]!).2
  case neg=>
   rw [if_neg lv] at fi';refine stop (fol (fun h=>lv ?_)) ?_
   · obtain ⟨w,hw',hev⟩:=bA.1 h.2
     have:=(agd.handle hw').1
     rwa [hev] at this
   · unfold dM
     simp only [aE,e1,cond_true,aB c.certs.list i hi',aC,hw,is,Bool.not_true,cond_false,e2,aB c.due k hk',bP b1,fi',show ((6:Int) !=0)=true from rfl]
  rw [if_pos lv] at fi';obtain ⟨w,hw1,hw2,hw3⟩:=agd.live lv;rw [hw2,Int.toNat_natCast] at fi';have q1:(0<=(c.due[k]!).2.1/\(c.due[k]!).2.1<200/\0<=c.agenda.where_[(c.due[k]!).2.1.toNat]!):=⟨lv.1,by have:=lv.2.1;omega,by rw [hw2];omega⟩
  by_cases b2:(c.agenda.heap[w]!).2.2.1=(c.certs.list[i]!).1
  case neg=>
   refine stop (fol (fun h=>b2 ?_)) ?_
   · have:=(ea.2 h.2).2.2.2
     rw [hw2,Int.toNat_natCast] at this;rw [this]
   · unfold dM
     simp only [aE,e1,cond_true,aB c.certs.list i hi',aC,hw,is,Bool.not_true,cond_false,e2,aB c.due k hk',bP b1,fi',show ((0:Int) !=0)=false from rfl,fA b2]
  have teq:((c.agenda.heap[w]!).1==(bI c.field.points (c.certs.list[i]!).2 c.now).1.1&&(c.agenda.heap[w]!).2.1==(bI c.field.points (c.certs.list[i]!).2 c.now).1.2)=decide (((c.agenda.heap[w]!).1,(c.agenda.heap[w]!).2.1)=(bI c.field.points (c.certs.list[i]!).2 c.now).1):=by
   rw [Bool.eq_iff_iff,decide_eq_true_iff];simp only [Bool.and_eq_true,beq_iff_eq];constructor
   · rintro ⟨h1,h2⟩;exact Prod.ext h1 h2
   · intro h;rw [<- h];exact ⟨rfl,rfl⟩
  by_cases b3:((c.agenda.heap[w]!).1,(c.agenda.heap[w]!).2.1)=(bI c.field.points (c.certs.list[i]!).2 c.now).1
  case neg=>
   refine stop (fol (fun h=>b3 ?_)) ?_
   · have:=(ea.2 h.2).2.2.2
     rw [hw2,Int.toNat_natCast] at this;rw [this]
   · unfold dM
     simp only [aE,e1,cond_true,aB c.certs.list i hi',aC,hw,is,Bool.not_true,cond_false,e2,aB c.due k hk',bP b1,fi',show ((0:Int) !=0)=false from rfl,bP b2];rw [teq,aL b3];rfl
  have hmem:=ea.1 ⟨q1.1,q1.2.1,q1.2.2,by
   rw [hw2,Int.toNat_natCast];have t1:=congrArg Prod.fst b3;have t2:=congrArg Prod.snd b3;exact Prod.ext t1 (Prod.ext t2 (Prod.ext b2 hw3))⟩
  rw [aV (y:=(((k+1:Nat):Int),((i+1:Nat):Int),c.now.1,c.now.2,c.field.points,c.certs.next_,c.certs.list,c.agenda.slots.uses,c.agenda.slots.used,c.agenda.slots.free,c.agenda.heap,c.agenda.where_,c.due)) (by
   unfold dM;simp only [aE,e1,cond_true,aB c.certs.list i hi',aC,hw,is,Bool.not_true,cond_false,e2,aB c.due k hk',bP b1,fi',show ((0:Int) !=0)=false from rfl,bP b2,sc,sk];rw [teq,aO b3]
   rfl),ih (i+1) (k+1) (by omega) (by omega) (by omega)]
  have same:aZ c.field.points c.now c.agenda.heap (c.certs.list.drop i) (c.due.drop k)↔aZ c.field.points c.now c.agenda.heap (c.certs.list.drop (i+1)) (c.due.drop (k+1)):=by
   rw [dr,dk];constructor
   · intro h2
     obtain ⟨d,ds',k1,k2,k3,k4⟩:=h2.1 is;injection k1 with k1 k5;subst k5;exact k4
   · intro h2
     exact ⟨fun _=>⟨_,_,rfl,b1,hmem,h2⟩,fun h=>by rw [is] at h;cases h⟩
  simp only [same]
theorem M4 {c:aP} (fit:uM c):xX c=some (if bG c then 0 else 8):=by
 unfold xX;rw [C1 fit.now64,wX,C8,C5 _ fit.ag];simp only [aC]
 by_cases nowv:cK c.now
 case neg=>rw [if_neg nowv,if_neg (c:=bG c) (fun h=>nowv h.nowv)];rfl
 rw [if_pos nowv]
 by_cases fld:bT c.field.points
 case neg=>rw [fA (fun h=>fld (fT.1 h)),if_neg (c:=bG c) (fun h=>fld h.fld)];rfl
 rw [bP (fT.2 fld)]
 by_cases crt:fC c.certs
 case neg=>rw [if_neg crt,if_neg (c:=bG c) (fun h=>crt h.crt)];rfl
 rw [if_pos crt];have kn:=aCx c.certs fld crt.len;simp only [show ((0:Int) !=0)=false from rfl,cond_false,kn,aC]
 by_cases known: ∀i,i<c.certs.list.length->kJ c.field.points (c.certs.list[i]!).2
 case neg=>rw [aL known,if_neg (c:=bG c) (fun h=>known h.known)];rfl
 rw [aO known]
 by_cases agd:eZ c.agenda
 case neg=>rw [if_neg agd,if_neg (c:=bG c) (fun h=>agd h.agd)];rfl
 rw [if_pos agd];simp only [aE,show ((0:Int) !=0)=false from rfl,cond_false,Bool.not_true]
 by_cases w2:c.agenda.where_.length=200
 case neg=>rw [fA (by omega),if_neg (c:=bG c) (fun h=>w2 h.w200)];rfl
 rw [bP (by omega)]
 by_cases hd:c.agenda.heap.length=c.due.length
 case neg=>rw [fA (by omega),if_neg (c:=bG c) (fun h=>hd h.hd)];rfl
 rw [bP (by omega)]
 have run:=TY fit.now64 fld crt agd w2 fit.du known c.certs.list.length 0 0 (by omega) (by omega) (by omega)
 rw [List.drop_zero,List.drop_zero] at run;have same:aZ c.field.points c.now c.agenda.heap c.certs.list c.due↔bG c:=by
  rw [bG.iff fit];exact ⟨fun h=>⟨nowv,fld,crt,agd,w2,hd,known,h⟩,fun h=>h.2.2.2.2.2.2.2⟩
 simp only [same] at run;simp only [cond_false];exact run
end Go.Proofs.YtfejhjllooomlaaGreat
namespace Go.Proofs.YtfejhjllooomlaaGreat
open Go.Vm Classical
section
variable {l : List Pt} {t : Int × Int}
theorem aZ.cons_true {H:List Ev} {x:uW} {cs ds:List uW} (h:(bI l x.2 t).2=true):aZ l t H (x::cs) ds↔ ∃d ds',ds=d::ds'/\d.1=x.1/\(((bI l x.2 t).1.1,(bI l x.2 t).1.2,x.1,d.2):Ev)∈H/\aZ l t H cs ds':=
 ⟨fun k=>k.1 h,fun k=>⟨fun _=>k,fun k'=>(by rw [h] at k';cases k')⟩⟩
theorem aZ.cons_false {H:List Ev} {x:uW} {cs ds:List uW} (h:(bI l x.2 t).2=false):aZ l t H (x::cs) ds↔aZ l t H cs ds:=
 ⟨fun k=>k.2 h,fun k=>⟨fun k'=>(by rw [h] at k';cases k'),fun _=>k⟩⟩
theorem aZ.mono {H H':List Ev}: ∀{cs ds:List uW},(∀x∈cs,∀e:Ev,e.num=x.1->e∈H->e∈H')->aZ l t H cs ds->aZ l t H' cs ds
 | [],_,_,h=>h
 |x::cs,ds,hm,h=>by
  have hm': ∀y∈cs,∀e:Ev,e.num=y.1->e∈H->e∈H':=fun y hy=>hm y (by simp [hy])
  cases hx:(bI l x.2 t).2 with
  |true=>
   rw [aZ.cons_true hx] at h ⊢;obtain ⟨d,ds',h1,h2,h3,h4⟩:=h;exact ⟨d,ds',h1,h2,hm x (by simp) _ rfl h3,aZ.mono hm' h4⟩
  |false=>
   rw [aZ.cons_false hx] at h ⊢;exact aZ.mono hm' h
theorem aZ.due {H:List Ev}: ∀{cs ds:List uW},aZ l t H cs ds-> ∀d∈ds,∃x∈cs,d.1=x.1/\(bI l x.2 t).2=true/\(((bI l x.2 t).1.1,(bI l x.2 t).1.2,x.1,d.2):Ev)∈H
 | [],ds,h,d,hd=>by
  have:ds=[]:=h
  subst this;cases hd
 |x::cs,ds,h,d,hd=>by
  cases hx:(bI l x.2 t).2 with
  |true=>
   rw [aZ.cons_true hx] at h;obtain ⟨e,ds',h1,h2,h3,h4⟩:=h;subst h1;rcases List.mem_cons.1 hd with rfl|hd
   · exact ⟨x,by simp,h2,hx,h3⟩
   · obtain ⟨y,hy,k⟩:=aZ.due h4 d hd
     exact ⟨y,by simp [hy],k⟩
  |false=>
   rw [aZ.cons_false hx] at h;obtain ⟨y,hy,k⟩:=aZ.due h d hd;exact ⟨y,by simp [hy],k⟩
theorem aZ.has {H:List Ev}: ∀{cs ds:List uW},aZ l t H cs ds-> ∀x∈cs,(bI l x.2 t).2=true-> ∃d∈ds,d.1=x.1/\(((bI l x.2 t).1.1,(bI l x.2 t).1.2,x.1,d.2):Ev)∈H
 | [],_,_,x,hx,_=>by cases hx
 |y::cs,ds,h,x,hx,hf=>by
  cases hy:(bI l y.2 t).2 with
  |true=>
   rw [aZ.cons_true hy] at h;obtain ⟨e,ds',h1,h2,h3,h4⟩:=h;subst h1;rcases List.mem_cons.1 hx with rfl|hx
   · exact ⟨e,by simp,h2,h3⟩
   · obtain ⟨d,hd,k⟩:=aZ.has h4 x hx hf
     exact ⟨d,by simp [hd],k⟩
  |false=>
   rw [aZ.cons_false hy] at h;rcases List.mem_cons.1 hx with rfl|hx
   · rw [hf] at hy;cases hy
   · exact aZ.has h x hx hf
def Up (cs:List uW):Prop:=cs.Pairwise fun x y=>x.1<y.1
theorem vQ {cs:List uW}:Up cs↔ ∀i j,i<j->j<cs.length->(cs[i]!).1<(cs[j]!).1:=by
 unfold Up;rw [List.pairwise_iff_getElem];constructor
 · intro h i j hij hj
   rw [getElem!_pos cs i (by omega),getElem!_pos cs j hj]
   exact h i j (by omega) hj hij
 · intro h i j hi hj hij
   have:=h i j hij hj
   rwa [getElem!_pos cs i hi,getElem!_pos cs j hj] at this
theorem aZ.up {H:List Ev}: ∀{cs ds:List uW},aZ l t H cs ds->Up cs->Up ds
 | [],ds,h,_=>by
  have:ds=[]:=h
  subst this;exact List.Pairwise.nil
 |x::cs,ds,h,hu=>by
  have hu':=List.pairwise_cons.1 hu;cases hx:(bI l x.2 t).2 with
  |true=>
   rw [aZ.cons_true hx] at h;obtain ⟨e,ds',h1,h2,h3,h4⟩:=h;subst h1;refine List.pairwise_cons.2 ⟨fun d hd=>?_,aZ.up h4 hu'.2⟩
   obtain ⟨y,hy,k,_⟩:=aZ.due h4 d hd
   have:=hu'.1 y hy
   omega
  |false=>
   rw [aZ.cons_false hx] at h;exact aZ.up h hu'.2
theorem aZ.snoc {H:List Ev}: ∀{cs ds:List uW} {x:uW},aZ l t H cs ds->((bI l x.2 t).2=false->aZ l t H (cs++[x]) ds)/\
 (∀d:uW,(bI l x.2 t).2=true->d.1=x.1->(((bI l x.2 t).1.1,(bI l x.2 t).1.2,x.1,d.2):Ev)∈H->aZ l t H (cs++[x]) (ds++[d]))
 | [],ds,x,h=>by
  have:ds=[]:=h
  subst this;refine ⟨fun hx=>(aZ.cons_false hx).2 rfl,fun d hx h1 h2=>(aZ.cons_true hx).2 ⟨d,[],rfl,h1,h2,rfl⟩⟩
 |y::cs,ds,x,h=>by
  cases hy:(bI l y.2 t).2 with
  |true=>
   rw [aZ.cons_true hy] at h;obtain ⟨e,ds',h1,h2,h3,h4⟩:=h;subst h1;have ih:=aZ.snoc (x:=x) h4;refine ⟨fun hx=>(aZ.cons_true hy).2 ⟨e,ds',rfl,h2,h3,ih.1 hx⟩,fun d hx k1 k2=>(aZ.cons_true hy).2 ⟨e,ds'++[d],rfl,h2,h3,ih.2 d hx k1 k2⟩⟩
  |false=>
   rw [aZ.cons_false hy] at h;have ih:=aZ.snoc (x:=x) h;exact ⟨fun hx=>(aZ.cons_false hy).2 (ih.1 hx),fun d hx k1 k2=>(aZ.cons_false hy).2 (ih.2 d hx k1 k2)⟩
theorem aZ.erase {H:List Ev}: ∀{cs ds:List uW} {i:Nat},aZ l t H cs ds->i<cs.length->((bI l (cs[i]!).2 t).2=false->aZ l t H (cs.eraseIdx i) ds)/\
 ((bI l (cs[i]!).2 t).2=true-> ∃k,k<ds.length/\(ds[k]!).1=(cs[i]!).1/\(((bI l (cs[i]!).2 t).1.1,(bI l (cs[i]!).2 t).1.2,(cs[i]!).1,(ds[k]!).2):Ev)∈H/\aZ l t H (cs.eraseIdx i) (ds.eraseIdx k))
 | [],_,i,_,hi=>by cases hi
 |y::cs,ds,0,h,_=>by
  show ((bI l y.2 t).2=false->aZ l t H cs ds)/\((bI l y.2 t).2=true-> ∃k,k<ds.length/\(ds[k]!).1=y.1/\(((bI l y.2 t).1.1,(bI l y.2 t).1.2,y.1,(ds[k]!).2):Ev)∈H/\aZ l t H cs (ds.eraseIdx k));refine ⟨fun hy=>(aZ.cons_false hy).1 h,fun hy=>?_⟩
  obtain ⟨e,ds',h1,h2,h3,h4⟩:=(aZ.cons_true hy).1 h;subst h1;exact ⟨0,by simp,h2,h3,h4⟩
 |y::cs,ds,i+1,h,hi=>by
  have hi':i<cs.length:=by simpa using hi
  show ((bI l (cs[i]!).2 t).2=false->aZ l t H (y::cs.eraseIdx i) ds)/\((bI l (cs[i]!).2 t).2=true-> ∃k,k<ds.length/\(ds[k]!).1=(cs[i]!).1/\(((bI l (cs[i]!).2 t).1.1,(bI l (cs[i]!).2 t).1.2,(cs[i]!).1,(ds[k]!).2):Ev)∈H/\aZ l t H (y::cs.eraseIdx i) (ds.eraseIdx k));cases hy:(bI l y.2 t).2 with
  |true=>
   obtain ⟨e,ds',h1,h2,h3,h4⟩:=(aZ.cons_true hy).1 h;subst h1;have ih:=aZ.erase (i:=i) h4 hi';refine ⟨fun hx=>(aZ.cons_true hy).2 ⟨e,ds',rfl,h2,h3,ih.1 hx⟩,fun hx=>?_⟩
   obtain ⟨k,k1,k2,k3,k4⟩:=ih.2 hx;exact ⟨k+1,by simp;omega,k2,k3,(aZ.cons_true hy).2 ⟨e,ds'.eraseIdx k,rfl,h2,h3,k4⟩⟩
  |false=>
   have h:=(aZ.cons_false hy).1 h;have ih:=aZ.erase (i:=i) h hi';refine ⟨fun hx=>(aZ.cons_false hy).2 (ih.1 hx),fun hx=>?_⟩
   obtain ⟨k,k1,k2,k3,k4⟩:=ih.2 hx;exact ⟨k,k1,k2,k3,(aZ.cons_false hy).2 k4⟩
end
theorem JM {H:List Ev} {ns:List Int} (hd:ns.Nodup) (hl:H.length<=ns.length) (he: ∀n∈ns,∃e∈H,Ev.num e=n): ∀e∈H,Ev.num e∈ns:=by
 have pos: ∀n,n∈ns-> ∃w,w<H.length/\Ev.num H[w]! =n:=fun n hn=>by
  obtain ⟨e,he,h2⟩:=he n hn;obtain ⟨w,hw,rfl⟩:=bA.1 he;exact ⟨w,hw,h2⟩
 let f:Int->Nat:=fun n=>if h: ∃w,w<H.length/\Ev.num H[w]! =n then h.choose else 0
 have hf: ∀n∈ns,f n<H.length/\Ev.num H[f n]! =n:=fun n hn=>by
  have h:=pos n hn;show (if h: ∃w,w<H.length/\Ev.num H[w]! =n then h.choose else 0)<_/\Ev.num H[(if h: ∃w,w<H.length/\Ev.num H[w]! =n then h.choose else 0)]! =n
  rw [dif_pos h];exact h.choose_spec
 have full:=JH (n:=H.length) (l:=ns.map f) (D8 hd fun x hx y hy h=>by
  have h1:=(hf x hx).2;have h2:=(hf y hy).2;rw [h] at h1
  omega) (fun x hx=>by
  obtain ⟨n,hn,rfl⟩:=List.mem_map.1 hx;exact (hf n hn).1) (by rw [List.length_map];exact hl)
 intro e hm;obtain ⟨w,hw,rfl⟩:=bA.1 hm;obtain ⟨n,hn,h⟩:=List.mem_map.1 (full w hw);rw [<- h,(hf n hn).2];exact hn
theorem TZ {cs:List uW} (h:Up cs):(cs.map fun x=>x.1).Nodup:=by
 refine D8 ?_ ?_
 · unfold Up at h
   exact h.imp fun hab he=>by rw [he] at hab;omega
 · intro x hx y hy he
   obtain ⟨i,hi,rfl⟩:=bA.1 hx;obtain ⟨j,hj,rfl⟩:=bA.1 hy;rcases Nat.lt_trichotomy i j with h1|h1|h1
   · have:=vQ.1 h i j h1 hj;omega
   · rw [h1]
   · have:=vQ.1 h j i h1 hi;omega
theorem bG.crt_up {c:aP} (ok:bG c):Up c.certs.list:=vQ.2 ok.crt.up
theorem bG.due_up {c:aP} (ok:bG c):Up c.due:=ok.fol.up ok.crt_up
theorem bG.nums {c:aP} (ok:bG c): ∀e∈c.agenda.heap,∃d∈c.due,d.1=Ev.num e:=by
 have:=JM (H:=c.agenda.heap) (TZ ok.due_up) (by rw [List.length_map,ok.hd];exact Nat.le_refl _) (fun n hn=>by
  obtain ⟨d,hd,rfl⟩:=List.mem_map.1 hn;obtain ⟨x,hx,h1,h2,h3⟩:=ok.fol.due d hd;exact ⟨_,h3,h1.symm⟩)
 intro e he;obtain ⟨d,hd,h⟩:=List.mem_map.1 (this e he);exact ⟨d,hd,h⟩
end Go.Proofs.YtfejhjllooomlaaGreat
