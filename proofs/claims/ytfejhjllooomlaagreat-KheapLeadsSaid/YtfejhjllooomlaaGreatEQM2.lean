/- Plain laws (2). -/
import Derived.Test.YtfejhjllooomlaaGreatEQM1
namespace Go.Proofs.YtfejhjllooomlaaGreat
open Go.Vm Classical
theorem QE (a:aG) (fit:CY a) (so:eO a.slots) (wl:a.where_.length=a.slots.uses.length):
 aI lW (a.where_,(a.where_.length:Int),0,a.slots.uses,a.slots.used,a.slots.free,a.heap,a.where_)=some (if (∀i,i<a.slots.uses.length->ML a i)/\(∀k,k<a.heap.length->NI a.heap k) then 0 else 8):=by
 have hu:=so.ul;have hn:=so.n2;have hh:=fit.hp;have inner:=QD a.heap a.slots.uses a.slots.free a.where_ a.slots.used fit.hp fit.at64
 have key:=dN (body:=lW) (fun i=>(a.where_,(a.where_.length:Int),(i:Int),a.slots.uses,a.slots.used,a.slots.free,a.heap,a.where_)) a.where_.length (fun i=> ¬ML a i) (r:=8) (e:=if (∀k,k<a.heap.length->NI a.heap k) then 0 else 8) (fun i hi=>by
  have e1:decide ((i:Int)<(a.where_.length:Int))=true:=aT (by omega)
  unfold lW;simp only [aF,e1,cond_true,aC a.where_ i hi,aC a.slots.used i (by omega),aC a.slots.uses i (by omega),aB,bG (show i<1000000000 by omega)]
  unfold ML;generalize a.where_[i]! =w at*;cases hb:a.slots.used[i]! with
  |false=>
   simp only [Bool.not_false,cond_true]
   by_cases hw:w= -1
   · rw [cY hw]
     exact ⟨fun h=>absurd ⟨fun h=>(by cases h),fun _=>hw⟩ h,fun _=>rfl⟩
   · rw [eU hw]
     exact ⟨fun _=>rfl,fun h=>absurd ((Classical.not_not.1 h).2 trivial) hw⟩
  |true=>
   simp only [Bool.not_true,cond_false]
   by_cases b1:w<0
   · rw [aT b1]
     exact ⟨fun _=>rfl,fun h=>absurd ((Classical.not_not.1 h).1 trivial).1 (by omega)⟩
   by_cases b2:(a.heap.length:Int)<=w
   · rw [aM b1,aT b2]
     exact ⟨fun _=>rfl,fun h=>absurd ((Classical.not_not.1 h).1 trivial).2.1 (by omega)⟩
   rw [aM b1,aM b2];simp only [cond_false,dT (l:=a.heap) (i:=w) (by omega) (by omega),aB]
   by_cases b3:(a.heap[w.toNat]!).2.2.2.1=i
   · by_cases b4:(a.heap[w.toNat]!).2.2.2.2=a.slots.uses[i]!
     · rw [gG b3,gG b4]
       exact ⟨fun h=>absurd ⟨fun _=>⟨by omega,by omega,b3,b4⟩,fun h=>(by cases h)⟩ h,fun _=>rfl⟩
     · rw [gG b3,gA b4]
       exact ⟨fun _=>rfl,fun h=>absurd ((Classical.not_not.1 h).1 trivial).2.2.2 b4⟩
   · rw [gA b3]
     exact ⟨fun _=>rfl,fun h=>absurd ((Classical.not_not.1 h).1 trivial).2.2.1 b3⟩) (by
  unfold lW
  have:decide ((a.where_.length:Int)<(a.where_.length:Int))=false:=aM (by omega)
  simp only [aF,this,cond_false]
  by_cases hx: ∀k,k<a.heap.length->NI a.heap k
  · rw [if_pos hx];exact inner.1 hx
  · rw [if_neg hx];exact inner.2 hx)
 by_cases hw: ∀i,i<a.slots.uses.length->ML a i
 · refine (key.2 fun i hi=>Classical.not_not.2 (hw i (by omega))).trans ?_
   by_cases hx: ∀k,k<a.heap.length->NI a.heap k
   · rw [if_pos hx,if_pos ⟨hw,hx⟩]
   · rw [if_neg hx,if_neg (fun h=>hx h.2)]
 · rw [if_neg (fun h=>hw h.1)]
   obtain ⟨i,h⟩:=Classical.not_forall.1 hw;obtain ⟨hi,hx⟩:=Classical.not_imp.1 h;exact key.1 ⟨i,by omega,hx⟩
theorem jE (a:aG) (fit:CY a):jL a=some (if eQ a then 0 else 8):=by
 have hh:=fit.hp;unfold jL;rw [xY _ fit.fr];simp only [aF]
 by_cases so:eO a.slots
 case neg=>rw [if_neg so,if_neg (fun h=>so h.so)];rfl
 have hu:=so.ul;have hn:=so.n2;have hf:=so.fl;rw [if_pos so];simp only [aB,show ((0:Int) !=0)=false from rfl,cond_false]
 by_cases wl:a.where_.length=a.slots.uses.length
 case neg=>
  rw [eU (by omega),if_neg (fun h=>wl h.wl)];rfl
 rw [cY (by omega)]
 have e:aA .i64 ((a.slots.used.length:Int) - (a.slots.free.length:Int))=((a.slots.uses.length-a.slots.free.length:Nat):Int):=by rw [wi];omega
 rw [e]
 by_cases hl:a.heap.length+a.slots.free.length=a.slots.uses.length
 case neg=>
  rw [eU (by omega),if_neg (fun h=>hl h.hl)];rfl
 rw [cY (by omega)]
 simp only [cond_false];rw [QE a fit so wl]
 by_cases ok:eQ a
 · rw [if_pos ok,if_pos ok.to]
 · rw [if_neg ok,if_neg]
   intro h;exact ok (eQ.of fit so wl hl h.1 h.2)
theorem aBO {x y:Ev} (hx:mH (x.1,x.2.1)) (hy:mH (y.1,y.2.1)):eK x y=some (decide (dO x y)):=by
 unfold eK dO;rw [AU hx hy];simp only [aB];generalize kW (x.1,x.2.1) (y.1,y.2.1)=c
 by_cases h1:c<0
 · simp [h1]
 · by_cases h2:c=0
   · subst h2;simp
   · simp only [h1,gA h2,h2,decide_false,cond_false,false_or,false_and]
theorem XY {s:aR} (ok:eO s) (h:Int×Int):vQ s h=some (decide (xF s h)):=by
 have hu:=ok.ul;unfold vQ xF;simp only [aF]
 by_cases a1:0<=h.1
 · by_cases a2:h.1<s.uses.length
   · simp only [a1,a2,decide_true,cond_true,dT (l:=s.used) a1 (by omega),dT (l:=s.uses) a1 a2,aB,true_and]
     generalize s.uses[h.1.toNat]! =u;cases s.used[h.1.toNat]!<;>simp [XW]
   · simp [a1,a2]
 · simp [a1]
theorem ZJ (a:aG) (so:eO a.slots):uT a=some (decide (a.where_.length=a.slots.uses.length/\a.heap.length+a.slots.free.length=a.slots.uses.length/\ ∀i,i<a.slots.uses.length->ML a i)):=by
 have hu:=so.ul;have hn:=so.n2;have hf:=so.fl;unfold uT;simp only [aF]
 by_cases wl:a.where_.length=a.slots.uses.length
 case neg=>
  rw [eU (by omega),aM (fun h=>wl h.1)];rfl
 rw [cY (by omega)]
 have e:aA .i64 ((a.slots.uses.length:Int) - (a.slots.free.length:Int))=((a.slots.uses.length-a.slots.free.length:Nat):Int):=by rw [wi];omega
 rw [e]
 by_cases hl:a.heap.length+a.slots.free.length=a.slots.uses.length
 case neg=>
  rw [eU (by omega),aM (fun h=>hl h.2.1)];rfl
 rw [cY (by omega)]
 simp only [cond_false];have key:=dN (body:=oI) (fun i=>((a.slots.uses.length:Int),(i:Int),a.slots.uses,a.slots.used,a.slots.free,a.heap,a.where_)) a.slots.uses.length (fun i=> ¬ML a i) (r:=false) (e:=true) (fun i hi=>by
  have e1:decide ((i:Int)<(a.slots.uses.length:Int))=true:=aT (by omega)
  unfold oI;simp only [aF,e1,cond_true,aC a.where_ i (by omega),aC a.slots.used i (by omega),aB,bG (show i<1000000000 by omega)]
  unfold ML;generalize a.where_[i]! =w at*;cases hb:a.slots.used[i]! with
  |false=>
   simp only [Bool.not_false,cond_true]
   by_cases hw:w= -1
   · rw [cY hw]
     exact ⟨fun h=>absurd ⟨fun h=>(by cases h),fun _=>hw⟩ h,fun _=>rfl⟩
   · rw [eU hw]
     exact ⟨fun _=>rfl,fun h=>absurd ((Classical.not_not.1 h).2 trivial) hw⟩
  |true=>
   simp only [Bool.not_true,cond_false]
   by_cases b1:w<0
   · rw [aT b1]
     exact ⟨fun _=>rfl,fun h=>absurd ((Classical.not_not.1 h).1 trivial).1 (by omega)⟩
   by_cases b2:(a.heap.length:Int)<=w
   · rw [aM b1,aT b2]
     exact ⟨fun _=>rfl,fun h=>absurd ((Classical.not_not.1 h).1 trivial).2.1 (by omega)⟩
   rw [aM b1,aM b2];simp only [cond_false,dT (l:=a.heap) (i:=w) (by omega) (by omega),aB]
   by_cases b3:(a.heap[w.toNat]!).2.2.2.1=i
   · rw [cY b3]
     simp only [cond_false];rw [XY (s:=⟨a.slots.uses,a.slots.used,a.slots.free⟩) so];have lv:xF ⟨a.slots.uses,a.slots.used,a.slots.free⟩ (a.heap[w.toNat]!).2.2.2↔(a.heap[w.toNat]!).2.2.2.2=a.slots.uses[i]!:=by
      unfold xF;dsimp only;rw [b3];constructor
      · intro h;exact h.2.2.2.symm
      · intro h;exact ⟨by omega,by omega,by rw [Int.toNat_natCast];exact hb,by rw [Int.toNat_natCast];exact h.symm⟩
     simp only [aB,lv]
     by_cases b4:(a.heap[w.toNat]!).2.2.2.2=a.slots.uses[i]!
     · rw [aT b4]
       exact ⟨fun h=>absurd ⟨fun _=>⟨by omega,by omega,b3,b4⟩,fun h=>(by cases h)⟩ h,fun _=>rfl⟩
     · rw [aM b4]
       exact ⟨fun _=>rfl,fun h=>absurd ((Classical.not_not.1 h).1 trivial).2.2.2 b4⟩
   · rw [eU b3]
     exact ⟨fun _=>rfl,fun h=>absurd ((Classical.not_not.1 h).1 trivial).2.2.1 b3⟩) (by
  unfold oI
  have:decide ((a.slots.uses.length:Int)<(a.slots.uses.length:Int))=false:=aM (by omega)
  simp only [this,cond_false])
 by_cases hw: ∀i,i<a.slots.uses.length->ML a i
 · rw [aT ⟨wl,hl,hw⟩]
   exact key.2 fun i hi=>Classical.not_not.2 (hw i hi)
 · rw [aM (fun h=>hw h.2.2)]
   obtain ⟨i,h⟩:=Classical.not_forall.1 hw;obtain ⟨hi,hx⟩:=Classical.not_imp.1 h;exact key.1 ⟨i,hi,hx⟩
theorem TD (H:List Ev) (u fr W:List Int) (us:List Bool) (k:Nat) (hk:k<H.length) (hl:H.length<=1000000) (x:Ev):
 ((∃j,j<k/\(H[j]!).2.2.1=x.2.2.1)->aI kQ ((k:Int),0,u,us,fr,H,W,x)=some (.done 8))/\
 ((∀j,j<k-> ¬(H[j]!).2.2.1=x.2.2.1)->aI kQ ((k:Int),0,u,us,fr,H,W,x)=some (.next (((k+1:Nat):Int),u,us,fr,H,W))):=by
 refine dN (body:=kQ) (fun j=>((k:Int),(j:Int),u,us,fr,H,W,x)) k (fun j=>(H[j]!).2.2.1=x.2.2.1) (r:= .done 8) (e:= .next (((k+1:Nat):Int),u,us,fr,H,W)) (fun j hj=>?_) ?_
 · have e1:decide ((j:Int)<(k:Int))=true:=aT (by omega)
   unfold kQ;simp only [e1,cond_true,aC H j (by omega),aB,bG (show j<1000000000 by omega)]
   constructor
   · intro h;rw [gG h];rfl
   · intro h;rw [gA h];rfl
 · unfold kQ
   have:decide ((k:Int)<(k:Int))=false:=aM (by omega)
   simp only [this,cond_false,bG (show k<1000000000 by omega)]
theorem TE (H:List Ev) (u fr W:List Int) (us:List Bool) (hl:H.length<=1000000) (r64: ∀w,w<H.length->mH ((H[w]!).1,(H[w]!).2.1)):
 aI kS (1,u,us,fr,H,W)=some (.done (if∀k,0<k->k<H.length-> ¬dO H[k]! H[(k-1) / 2]! then 0 else 8)):=by
 by_cases h0:H.length=0
 · rw [if_pos (fun k _ hk=>by omega)]
   refine aK ?_;unfold kS
   have:decide ((1:Int)<(H.length:Int))=false:=aM (by omega)
   simp only [aF,this,cond_false]
 have key:=dN (body:=kS) (fun i=>(((i+1:Nat):Int),u,us,fr,H,W)) (H.length-1) (fun i=>dO H[i+1]! H[i / 2]!) (r:= .done 8) (e:= .done 0) (fun i hi=>by
  have e1:decide (((i+1:Nat):Int)<(H.length:Int))=true:=aT (by omega)
  unfold kS;simp only [aF,e1,cond_true,uC (show i<1000000000 by omega),aC H (i+1) (by omega),aC H (i / 2) (by omega),aB,aBO (r64 (i+1) (by omega)) (r64 (i / 2) (by omega)),bG (show i+1<1000000000 by omega)]
  constructor
  · intro h;rw [aT h];rfl
  · intro h;rw [aM h];rfl) (by
  unfold kS
  have:decide (((H.length-1+1:Nat):Int)<(H.length:Int))=false:=aM (by omega)
  simp only [aF,this,cond_false])
 by_cases ho: ∀k,0<k->k<H.length-> ¬dO H[k]! H[(k-1) / 2]!
 · rw [if_pos ho]
   refine key.2 fun i hi hc=>ho (i+1) (by omega) (by omega) ?_
   rwa [show (i+1-1) / 2=i / 2 by omega]
 · rw [if_neg ho]
   obtain ⟨k,h⟩:=Classical.not_forall.1 ho;obtain ⟨k0,h⟩:=Classical.not_imp.1 h;obtain ⟨hk,hx⟩:=Classical.not_imp.1 h;refine key.1 ⟨k-1,by omega,?_⟩
   rw [show k-1+1=k by omega]
   exact Classical.not_not.1 hx
def QF (H:List Ev) (k:Nat):Prop:=bH ((H[k]!).1,(H[k]!).2.1)/\0<=(H[k]!).2.2.1/\(H[k]!).2.2.1<=1000000/\(∀j,j<k-> ¬(H[j]!).2.2.1=(H[k]!).2.2.1)
theorem CZ (a:aG) (fit:CY a):tH a=some (if eQ a then 0 else 8):=by
 have hh:=fit.hp;unfold tH;rw [MK _ fit.fr]
 by_cases so:eO a.slots
 case neg=>rw [if_neg so,if_neg (fun h=>so h.so)];rfl
 rw [if_pos so];simp only [aB,show ((0:Int) !=0)=false from rfl,cond_false,ZJ a so]
 by_cases pl:a.where_.length=a.slots.uses.length/\a.heap.length+a.slots.free.length=a.slots.uses.length/\ ∀i,i<a.slots.uses.length->ML a i
 case neg=>
  rw [aM pl,if_neg (fun h=>pl ⟨h.wl,h.hl,h.to.1⟩)];rfl
 rw [aT pl];obtain ⟨wl,hl,hw⟩:=pl;simp only [Bool.not_true,cond_false];have key:=dN (body:=qC) (fun k=>((k:Int),a.slots.uses,a.slots.used,a.slots.free,a.heap,a.where_)) a.heap.length (fun k=> ¬QF a.heap k) (r:=8) (e:=if∀k,0<k->k<a.heap.length-> ¬dO a.heap[k]! a.heap[(k-1) / 2]! then 0 else 8) (fun k hk=>by
  have e1:decide ((k:Int)<(a.heap.length:Int))=true:=aT (by omega)
  have l1:=TD a.heap a.slots.uses a.slots.free a.where_ a.slots.used k hk hh a.heap[k]!;unfold qC;simp only [aF,e1,cond_true,aC a.heap k hk,aB,nA (fit.at64 k hk)];unfold QF
  by_cases b1:bH ((a.heap[k]!).1,(a.heap[k]!).2.1)
  case neg=>
   rw [if_neg b1];exact ⟨fun _=>rfl,fun h=>absurd (Classical.not_not.1 h).1 b1⟩
  rw [if_pos b1]
  by_cases b2:(a.heap[k]!).2.2.1<0
  · rw [aT b2]
    exact ⟨fun _=>rfl,fun h=>absurd (Classical.not_not.1 h).2.1 (by omega)⟩
  by_cases b3:1000000<(a.heap[k]!).2.2.1
  · rw [aM b2,aT b3]
    exact ⟨fun _=>rfl,fun h=>absurd (Classical.not_not.1 h).2.2.1 (by omega)⟩
  rw [aM b2,aM b3];simp only [show ((0:Int) !=0)=false from rfl,cond_false]
  by_cases b4: ∃j,j<k/\(a.heap[j]!).2.2.1=(a.heap[k]!).2.2.1
  · refine ⟨fun _=>l1.1 b4,fun h=>?_⟩
    obtain ⟨j,j1,j2⟩:=b4;exact absurd j2 ((Classical.not_not.1 h).2.2.2 j j1)
  · have b4': ∀j,j<k-> ¬(a.heap[j]!).2.2.1=(a.heap[k]!).2.2.1:=fun j h1 h2=>b4 ⟨j,h1,h2⟩
    exact ⟨fun h=>absurd ⟨b1,by omega,by omega,b4'⟩ h,fun _=>l1.2 b4'⟩) (by
  unfold qC
  have:decide ((a.heap.length:Int)<(a.heap.length:Int))=false:=aM (by omega)
  simp only [aF,this,cond_false];exact TE a.heap _ _ _ _ hh fit.at64)
 have same:eQ a↔(∀k,k<a.heap.length->QF a.heap k)/\ ∀k,0<k->k<a.heap.length-> ¬dO a.heap[k]! a.heap[(k-1) / 2]!:=by
  constructor
  · intro ok
    refine ⟨fun k hk=>?_,ok.ord⟩
    have:=ok.to.2 k hk
    exact ⟨this.1,this.2.1,this.2.2.1,this.2.2.2.1⟩
  · rintro ⟨h1,h2⟩
    refine eQ.of fit so wl hl hw fun k hk=>?_
    obtain ⟨c1,c2,c3,c4⟩:=h1 k hk;refine ⟨c1,c2,c3,c4,fun k0=>?_⟩
    unfold VS;rw [if_pos ⟨c1,(h1 ((k-1) / 2) (by omega)).1⟩,GW]
    exact h2 k k0 hk
 by_cases he: ∀k,k<a.heap.length->QF a.heap k
 · refine (key.2 fun i hi=>Classical.not_not.2 (he i hi)).trans ?_
   by_cases ho: ∀k,0<k->k<a.heap.length-> ¬dO a.heap[k]! a.heap[(k-1) / 2]!
   · rw [if_pos ho,if_pos (same.2 ⟨he,ho⟩)]
   · rw [if_neg ho,if_neg (fun h=>ho (same.1 h).2)]
 · rw [if_neg (fun h=>he (same.1 h).1)]
   obtain ⟨i,h⟩:=Classical.not_forall.1 he;obtain ⟨hi,hx⟩:=Classical.not_imp.1 h;exact key.1 ⟨i,hi,hx⟩
end Go.Proofs.YtfejhjllooomlaaGreat
namespace Go.Proofs.YtfejhjllooomlaaGreat
open Go.Vm Classical
theorem EK {l:List Ev} {n:Nat} {e:Ev} (hn:n<=l.length):e∈l.take n↔ ∃w,w<n/\l[w]! =e:=by
 rw [dD];constructor
 · rintro ⟨i,h1,_,h3⟩;exact ⟨i,h1,h3⟩
 · rintro ⟨i,h1,h3⟩;exact ⟨i,h1,by omega,h3⟩
theorem aIZ {s:aR} (so:eO s) {n:Nat} {H:List Ev} {W:List Int} (E:Ev->Prop) (hn:n<=H.length) (wl:W.length=s.uses.length) (hl:n+s.free.length=s.uses.length)
 (ix: ∀w,w<n->0<=(H[w]!).ix/\(H[w]!).ix<W.length/\W[(H[w]!).n]! =(w:Int)) (mem: ∀e,(∃w,w<n/\H[w]! =e)↔E e) (ord: ∀k,0<k->k<n-> ¬dO H[k]! H[(k-1) / 2]!)
 (ue: ∀i,i<s.uses.length->s.used[i]! =true-> ∃e:Ev,E e/\e.ix=i/\e.2.2.2.2=s.uses[i]!) (un: ∀i,i<s.uses.length->s.used[i]! =false->W[i]! = -1)
 (ev: ∀e,E e->rN e) (nums: ∀e f:Ev,E e->E f->e.num=f.num->e.ix=f.ix):eQ ⟨s,H.take n,W⟩:=by
 have len:(H.take n).length=n:=by rw [List.length_take];omega
 have cell: ∀w,w<n->(H.take n)[w]! =H[w]!:=fun w hw=>mG hw
 refine ⟨so,wl,by show (H.take n).length+_=_;rw [len];exact hl,?_,un,?_,?_,?_⟩
 · intro i hi hu
   dsimp only at hi hu ⊢;rw [len];obtain ⟨e,he,e1,e2⟩:=ue i hi hu;obtain ⟨w,hw,rfl⟩:=(mem e).2 he;obtain ⟨a1,a2,a3⟩:=ix w hw;have hn':(H[w]!).n=i:=by show ((H[w]!).ix).toNat=i;omega
   rw [hn'] at a3;rw [a3,Int.toNat_natCast,cell w hw];exact ⟨by omega,by omega,e1,e2⟩
 · intro w hw
   dsimp only at hw ⊢;rw [len] at hw;rw [cell w hw];exact ev _ ((mem _).1 ⟨w,hw,rfl⟩)
 · intro v w hv hw
   dsimp only at hw ⊢;rw [len] at hw;rw [cell v (by omega),cell w hw]
   intro hc
   have:=nums _ _ ((mem _).1 ⟨v,by omega,rfl⟩) ((mem _).1 ⟨w,hw,rfl⟩) hc
   obtain ⟨a1,a2,a3⟩:=ix v (by omega)
   obtain ⟨b1,b2,b3⟩:=ix w hw;have hn':(H[v]!).n=(H[w]!).n:=by show ((H[v]!).ix).toNat=((H[w]!).ix).toNat;rw [this]
   rw [hn'] at a3;omega
 · intro k k0 hk
   dsimp only at hk ⊢;rw [len] at hk;rw [cell k hk,cell _ (by omega)]
   exact ord k k0 hk
theorem yB {s:aR} (so:eO s) {n:Nat} {x:Ev} {M:Ev->Prop} {K:Nat->Prop} {H H1:List Ev} {W W1:List Int} (st:DW n x M K H W H1 W1) (hn:n<=H.length) (wl:W.length=s.uses.length) (hl:n+s.free.length=s.uses.length)
 (ue: ∀i,i<s.uses.length->s.used[i]! =true-> ∃e:Ev,(e=x\/M e)/\e.ix=i/\e.2.2.2.2=s.uses[i]!) (un: ∀i,i<s.uses.length->s.used[i]! =false->K i/\W[i]! = -1)
 (ev: ∀e,(e=x\/M e)->rN e) (nums: ∀e f:Ev,(e=x\/M e)->(f=x\/M f)->e.num=f.num->e.ix=f.ix):eQ ⟨s,H1.take n,W1⟩:=by
 refine aIZ so (fun e=>e=x\/M e) (by rw [st.hl];exact hn) (by rw [st.wl];exact wl) hl (by rw [st.wl];exact st.ix) st.mem st.ord ue ?_ ev nums
 intro i hi hu;rw [st.out i (un i hi hu).1];exact (un i hi hu).2
theorem eQ.bd {a:aG} (ok:eQ a):a.heap.length<=200/\a.where_.length<=200:=by
 have:=ok.hl;have:=ok.wl;have:=ok.so.n2
 omega
theorem eQ.cells {a:aG} (ok:eQ a):nC a.heap.length a.heap a.where_:=by
 have:=ok.bd
 refine ⟨Nat.le_refl _,by omega,fun w hw=>?_⟩
 obtain ⟨b1,b2,b3,b4,b5⟩:=ok.back hw;exact ⟨ok.ev w hw,b1,by rw [ok.wl];exact b2⟩
theorem eQ.inj {a:aG} (ok:eQ a) {v w:Nat} (hv:v<a.heap.length) (hw:w<a.heap.length) (h:Ev.ix a.heap[v]! =Ev.ix a.heap[w]!):v=w:=by
 have h1:=(ok.back hv).2.2.2.2;have h2:=(ok.back hw).2.2.2.2
 have:Ev.n a.heap[v]! =Ev.n a.heap[w]!:=by show (Ev.ix a.heap[v]!).toNat=(Ev.ix a.heap[w]!).toNat;rw [h]
 rw [this] at h1;omega
theorem eQ.grand {a:aG} (ok:eQ a) {i k:Nat} (i0:0<i) (k0:0<k) (hk:k<a.heap.length) (hp:(k-1) / 2=i): ¬dO a.heap[k]! a.heap[(i-1) / 2]!:=by
 have h1:=ok.ord k k0 hk;rw [hp] at h1;exact yZ (ok.ev _ (by omega)).den (ok.ev _ (by omega)).den (ok.ev _ hk).den (ok.ord i i0 (by omega)) h1
theorem eQ.live {a:aG} (ok:eQ a) {h:Int×Int} (lv:xF a.slots h): ∃i,i<a.heap.length/\a.where_[h.1.toNat]! =(i:Int)/\(a.heap[i]!).2.2.2=h:=by
 obtain ⟨l1,l2,l3,l4⟩:=lv;obtain ⟨f1,f2,f3,f4⟩:=ok.fwd h.1.toNat (by omega) l3
 refine ⟨(a.where_[h.1.toNat]!).toNat,by omega,by omega,?_⟩
 have e1:(a.heap[(a.where_[h.1.toNat]!).toNat]!).2.2.2.1=h.1:=by
  have:Ev.ix a.heap[(a.where_[h.1.toNat]!).toNat]! =(h.1.toNat:Int):=f3
  have h2:Ev.ix a.heap[(a.where_[h.1.toNat]!).toNat]! =(a.heap[(a.where_[h.1.toNat]!).toNat]!).2.2.2.1:=rfl;omega
 exact Prod.ext e1 (by rw [f4,l4])
theorem eQ.handle {a:aG} (ok:eQ a) {i:Nat} (hi:i<a.heap.length):xF a.slots (a.heap[i]!).2.2.2/\a.where_[((a.heap[i]!).2.2.2.1).toNat]! =(i:Int):=by
 obtain ⟨b1,b2,b3,b4,b5⟩:=ok.back hi;exact ⟨⟨b1,b2,b3,b4⟩,b5⟩
theorem eQ.used_ev {a:aG} (ok:eQ a) {i:Nat} (hi:i<a.slots.uses.length) (hu:a.slots.used[i]! =true): ∃w,w<a.heap.length/\Ev.ix a.heap[w]! =i/\(a.heap[w]!).2.2.2.2=a.slots.uses[i]!:=by
 obtain ⟨f1,f2,f3,f4⟩:=ok.fwd i hi hu;exact ⟨(a.where_[i]!).toNat,by omega,f3,f4⟩
theorem eQ.no_ev {a:aG} (ok:eQ a) {i:Nat} (hu:a.slots.used[i]! =false) {w:Nat} (hw:w<a.heap.length):Ev.n a.heap[w]!≠i:=by
 intro h
 have:=(ok.back hw).2.2.1
 rw [h,hu] at this;cases this
theorem eQ.nums {a:aG} (ok:eQ a) {v w:Nat} (hv:v<a.heap.length) (hw:w<a.heap.length) (h:Ev.num a.heap[v]! =Ev.num a.heap[w]!):v=w:=by
 rcases Nat.lt_trichotomy v w with h1|h1|h1
 · exact absurd h (ok.nd v w h1 hw)
 · exact h1
 · exact absurd h.symm (ok.nd w v h1 hv)
theorem set_same {α:Type} [Inhabited α] {l:List α} {k:Nat} {v:α} (h:l[k]! =v):l.set k v=l:=by
 by_cases hk:k<l.length
 · apply GQ (by rw [List.length_set])
   intro i hi;rw [bF];split
   · rename_i e;rw [e.1];exact h.symm
   · rfl
 · exact List.set_eq_of_length_le (by omega)
def rO (x:Ev) (t:Int×Int):Ev:=(t.1,t.2,x.2.2)
noncomputable def kF (a:aG) (i:Nat) (t:Int×Int):aG:=⟨a.slots,(cI a.heap.length (rO a.heap[i]! t) i a.heap a.where_).1,(cI a.heap.length (rO a.heap[i]! t) i a.heap a.where_).2⟩
theorem MM {a:aG} (ok:eQ a) {i:Nat} (hi:i<a.heap.length) {t:Int×Int} (ht:bH t) (h64:mH t):rN (rO a.heap[i]! t):=by
 have:=ok.ev i hi
 exact ⟨ht,h64,this.2.2.1,this.2.2.2⟩
theorem MN {a:aG} (ok:eQ a) {i:Nat} (hi:i<a.heap.length) (t:Int×Int):FH a.heap.length (rO a.heap[i]! t) (fun e=> ∃w,w<a.heap.length/\w≠i/\a.heap[w]! =e) a.heap a.where_ i:=by
 obtain ⟨b1,b2,b3,b4,b5⟩:=ok.back hi;refine ⟨hi,Nat.le_refl _,fun w hw hwi=>?_,b1,by rw [ok.wl];exact b2,fun e=>Iff.rfl⟩
 obtain ⟨c1,c2,c3,c4,c5⟩:=ok.back hw;exact ⟨c1,by rw [ok.wl];exact c2,c5,fun h=>hwi (ok.inj hw hi h)⟩
theorem OL {a:aG} (ok:eQ a) (i:Nat):FK a.heap.length a.heap i:=
 ⟨fun w hw=>(ok.ev w hw).den,fun k k0 hk _ _=>ok.ord k k0 hk,fun i0 _k k0 hk hp=>ok.grand i0 k0 hk hp⟩
theorem oC {a:aG} (ok:eQ a) {i:Nat} (hi:i<a.heap.length) {t:Int×Int} (ht:bH t):
 DW a.heap.length (rO a.heap[i]! t) (fun e=> ∃w,w<a.heap.length/\w≠i/\a.heap[w]! =e) (fun k=>k≠Ev.n (rO a.heap[i]! t)/\ ∀w,w<a.heap.length->w≠i->Ev.n a.heap[w]!≠k) a.heap a.where_ (kF a i t).heap (kF a i t).where_:=
 CW (x:=rO a.heap[i]! t) ht.1 (MN ok hi t) (OL ok i)
theorem II {a:aG} (ok:eQ a) {i:Nat} (hi:i<a.heap.length) {t:Int×Int} (ht:bH t):(kF a i t).heap.length=a.heap.length/\(kF a i t).where_.length=a.where_.length:=
 ⟨(oC ok hi ht).hl,(oC ok hi ht).wl⟩
theorem ZK {a:aG} (ok:eQ a) {i:Nat} (hi:i<a.heap.length) {t:Int×Int} (ht:bH t) (e:Ev):e∈(kF a i t).heap↔(e=rO a.heap[i]! t\/(e∈a.heap/\e≠a.heap[i]!)):=by
 have st:=oC ok hi ht;have h1:e∈(kF a i t).heap↔ ∃w,w<a.heap.length/\((kF a i t).heap)[w]! =e:=by
  rw [aU,(II ok hi ht).1]
 rw [h1];refine (st.mem e).trans ?_;constructor
 · rintro (h|⟨w,hw,hwi,rfl⟩)
   · exact .inl h
   · exact .inr ⟨bA hw,fun h=>hwi (ok.inj hw hi (by rw [h]))⟩
 · rintro (h|⟨h,hne⟩)
   · exact .inl h
   · obtain ⟨w,hw,rfl⟩:=aU.1 h
     exact .inr ⟨w,hw,fun h=>hne (by rw [h]),rfl⟩
theorem aBP {a:aG} (ok:eQ a) {i:Nat} (hi:i<a.heap.length) {t:Int×Int} (ht:bH t) (h64:mH t):eQ (kF a i t):=by
 have st:=oC ok hi ht;have len:=(II ok hi ht).1;have hx:Ev.ix (rO a.heap[i]! t)=Ev.ix a.heap[i]!:=rfl;have key:=yB ok.so st (Nat.le_refl _) ok.wl ok.hl (fun j hj hu=>by
  obtain ⟨w,hw,e1,e2⟩:=ok.used_ev hj hu
  by_cases e:w=i
  · subst e;exact ⟨rO a.heap[w]! t,.inl rfl,e1,e2⟩
  · exact ⟨a.heap[w]!,.inr ⟨w,hw,e,rfl⟩,e1,e2⟩) (fun j hj hu=>⟨⟨(ok.no_ev hu hi).symm,fun w hw _=>ok.no_ev hu hw⟩,ok.un j hj hu⟩) (by
  rintro e (rfl|⟨w,hw,_,rfl⟩)
  · exact MM ok hi ht h64
  · exact ok.ev w hw) (by
  rintro e f (rfl|⟨v,hv,hvi,rfl⟩) (rfl|⟨w,hw,hwi,rfl⟩) he
  · rfl
  · exact absurd (ok.nums hi hw he).symm hwi
  · exact absurd (ok.nums hv hi he) hvi
  · rw [ok.nums hv hw he])
 have:(kF a i t).heap.take a.heap.length=(kF a i t).heap:=List.take_of_length_le (by rw [len];exact Nat.le_refl _)
 show eQ ⟨a.slots,(kF a i t).heap,(kF a i t).where_⟩;rw [<- this];exact key
theorem TF {a:aG} (ok:eQ a) (fit:CY a) {h:Int×Int} {i:Nat} (hi:i<a.heap.length) (hh:(a.heap[i]!).2.2.2=h):pV a h=some ((i:Int),0):=by
 obtain ⟨lv,wv⟩:=ok.handle hi;rw [hh] at lv;unfold pV;rw [jE a fit,if_pos ok];simp only [aB,show ((0:Int) !=0)=false from rfl,cond_false,JA ok.so,aT lv,Bool.not_true]
 have:=lv.2.1;have:=lv.1;have:=ok.wl
 have e:(a.heap[i]!).2.2.2.1=h.1:=by rw [hh]
 rw [dT (l:=a.where_) lv.1 (by omega),<- e,wv]
 rfl
theorem JS {a:aG} (ok:eQ a) (fit:CY a) {h t:Int×Int} {i:Nat} (hi:i<a.heap.length) (hh:(a.heap[i]!).2.2.2=h) (ht:bH t) (h64:mH t):uS a h t=some (kF a i t,0):=by
 have bd:=ok.bd;obtain ⟨b1,b2,b3,b4,b5⟩:=ok.back hi;unfold uS;rw [jE a fit,if_pos ok,dV h64,if_pos ht];have pl:=TF ok fit hi hh;have se:=MH (u:=a.slots.uses) (us:=a.slots.used) (fr:=a.slots.free) (MM ok hi ht h64) (show 0<=Ev.ix (rO a.heap[i]! t) from b1) ok.cells rfl hi (show Ev.ix (rO a.heap[i]! t)<a.where_.length by rw [ok.wl];exact b2)
 have se':eW (a.slots.uses,a.slots.used,a.slots.free,(i:Int),t.1,t.2,(a.heap[i]!).2.2.1,(a.heap[i]!).2.2.2.1,(a.heap[i]!).2.2.2.2,a.heap,a.where_)=some (cI a.heap.length (rO a.heap[i]! t) i a.heap a.where_):=se
 simp only [aB,gt_iff_lt,Int.lt_irrefl,if_false,show ((0:Int) !=0)=false from rfl,cond_false,pl,bK (show a.heap.length<=1048576 by omega),bK (show a.where_.length<=1048576 by omega),aC a.heap i hi,se']
 rfl
theorem sJ {a:aG} (ok:eQ a):rF a=some a:=by
 have bd:=ok.bd;unfold rF;simp only [xZ ok.so,aB,bK (show a.heap.length<=1048576 by omega),bK (show a.where_.length<=1048576 by omega)]
theorem IJ {a:aG} (ok:eQ a) {h t:Int×Int} {i:Nat} (hi:i<a.heap.length) (hh:(a.heap[i]!).2.2.2=h) (ht:bH t) (h64:mH t):xW a h t=some (kF a i t):=by
 have bd:=ok.bd;obtain ⟨b1,b2,b3,b4,b5⟩:=ok.back hi;obtain ⟨lv,wv⟩:=ok.handle hi;have hx:=MM ok hi ht h64;have x1:Ev.ix (rO a.heap[i]! t)<a.where_.length:=by rw [ok.wl];exact b2
 have st:=oC ok hi ht;obtain ⟨j,H1,W1,e1,e3,e4,e5,e6,e7,e8,e9,e10⟩:=J2 (x:=rO a.heap[i]! t) ht.1 i a.heap a.where_ (MN ok hi t) (OL ok i);have w1:a.where_.set (Ev.n (rO a.heap[i]! t)) (i:Int)=a.where_:=set_same b5;unfold xW;rw [sJ ok];have g1:aL a.where_ h.1=some (i:Int):=by
  have e:(a.heap[i]!).2.2.2.1=h.1:=by rw [hh]
  rw [dT (l:=a.where_) (i:=h.1) (by rw [<- e];exact b1) (by rw [<- e,ok.wl];exact b2),<- e,wv]
 have u1:vU ((i:Int),a.slots.uses,a.slots.used,a.slots.free,a.heap.set i (rO a.heap[i]! t),a.where_)=some ((j:Int),a.slots.uses,a.slots.used,a.slots.free,H1.set j (rO a.heap[i]! t),W1.set (Ev.n (rO a.heap[i]! t)) (j:Int)):=by
  unfold vU
  have:=aBK (c0:=((i:Int),a.slots.uses,a.slots.used,a.slots.free,a.heap.set i (rO a.heap[i]! t),a.where_)) (u:=a.slots.uses) (us:=a.slots.used) (fr:=a.slots.free) hx b1 rfl rfl rfl i a.heap a.where_ ok.cells hi rfl x1 List.length_set rfl
  rw [w1,e1] at this;exact this
 have cells1:nC a.heap.length H1 W1:=by
  refine ⟨by rw [e5];exact Nat.le_refl _,by omega,fun w hw=>?_⟩
  exact ⟨(CX ok.cells hi e1 w hw).1,(CX ok.cells hi e1 w hw).2.1,by rw [e6];exact (CX ok.cells hi e1 w hw).2.2⟩
 have d1:rH ((j:Int),a.slots.uses,a.slots.used,a.slots.free,H1.set j (rO a.heap[i]! t),W1.set (Ev.n (rO a.heap[i]! t)) (j:Int))=some (a.slots.uses,a.slots.used,a.slots.free,(cI a.heap.length (rO a.heap[i]! t) i a.heap a.where_).1,(cI a.heap.length (rO a.heap[i]! t) i a.heap a.where_).2):=by
  unfold rH
  have:=TB (c0:=((j:Int),a.slots.uses,a.slots.used,a.slots.free,H1.set j (rO a.heap[i]! t),W1.set (Ev.n (rO a.heap[i]! t)) (j:Int))) (n:=a.heap.length) (u:=a.slots.uses) (us:=a.slots.used) (fr:=a.slots.free) hx b1 rfl rfl rfl a.heap.length j H1 W1 (by omega) cells1 e3.lt e5 (by rw [e6];exact x1) List.length_set List.length_set
  rw [this];unfold cI;rw [e1]
 have s1:bY a.heap (i:Int) (t.1,t.2,(a.heap[i]!).2.2)=a.heap.set i (rO a.heap[i]! t):=rfl;simp only [aB,g1,aC a.heap i hi,s1,u1,d1];rfl
end Go.Proofs.YtfejhjllooomlaaGreat
namespace Go.Proofs.YtfejhjllooomlaaGreat
open Go.Vm Classical
theorem OM (H:List Ev) (n:Int) (hl:H.length<=1000000):cR H n=some (decide (∃w,w<H.length/\(H[w]!).2.2.1=n)):=by
 unfold cR eN;have key:=lI (body:=cQ) (fun i=>(H,n,(H.length:Int),(i:Int))) H.length (fun i=>(H[i]!).2.2.1=n) (fun i=>(i:Int)) (e:= -1) (fun i hi=>by
  have e1:decide ((i:Int)<(H.length:Int))=true:=aT (by omega)
  unfold cQ xU;simp only [e1,cond_true,aC H i hi,aB,bG (show i<1000000000 by omega)]
  constructor
  · intro h;rw [gG h];rfl
  · intro h;rw [gA h];rfl) (by
  unfold cQ
  have:decide ((H.length:Int)<(H.length:Int))=false:=aM (by omega)
  simp only [this,cond_false])
 rw [aF]
 by_cases hx: ∃w,w<H.length/\(H[w]!).2.2.1=n
 · obtain ⟨k,h1,h2,h3⟩:=I7 hx
   have:=key.1 k h1 h2 h3
   rw [show ((0:Nat):Int)=0 from rfl] at this;rw [this,aT hx];simp only [aB,aT (show (0:Int)<=(k:Int) by omega)]
 · have:=key.2 fun i hi he=>hx ⟨i,hi,he⟩
   rw [show ((0:Nat):Int)=0 from rfl] at this;rw [this,aM hx];rfl
noncomputable def dF (a:aG) (t:Int×Int) (n:Int):Ev:=(t.1,t.2,n,lQ a.slots)
noncomputable def lS (a:aG) (t:Int×Int) (n:Int):aG:=
 ⟨gF a.slots,(cI (a.heap.length+1) (dF a t n) a.heap.length (a.heap++[dF a t n]) a.where_).1,(cI (a.heap.length+1) (dF a t n) a.heap.length (a.heap++[dF a t n]) a.where_).2⟩
section
variable {a : aG} (ok : eQ a) (op : yY a.slots) {t : Int × Int} (ht : bH t) (h64 : mH t) {n : Int} (n0 : 0 <= n) (n1 : n <= 1000000)
include ok op
theorem GY:Ev.ix (dF a t n)=(cT a.slots:Int)/\cT a.slots<a.slots.uses.length/\a.slots.used[cT a.slots]! =false/\a.slots.free.length=(gF a.slots).free.length+1:=by
 obtain ⟨h1,h2,h3⟩:=AV ok.so op.1;refine ⟨rfl,h1,?_,?_⟩
 · have:=ok.so.uf (cT a.slots) h1
   cases h:a.slots.used[cT a.slots]! with
   |false=>rfl
   |true=>exact absurd h3 (this.1 h)
 · show _=(a.slots.free.take (a.slots.free.length-1)).length+1
   have:=op.1
   rw [List.length_take];omega
theorem ON:FH (a.heap.length+1) (dF a t n) (fun e=>e∈a.heap) (a.heap++[dF a t n]) a.where_ a.heap.length:=by
 obtain ⟨h1,h2,h3,h4⟩:=GY (t:=t) (n:=n) ok op;have cell: ∀w,w<a.heap.length->(a.heap++[dF a t n])[w]! =a.heap[w]!:=fun w hw=>gI hw
 refine ⟨by omega,by simp,fun w hw hwi=>?_,by rw [h1];omega,by rw [h1,ok.wl];omega,fun e=>?_⟩
 · have hw':w<a.heap.length:=by omega
   rw [cell w hw'];obtain ⟨c1,c2,c3,c4,c5⟩:=ok.back hw';refine ⟨c1,by rw [ok.wl];exact c2,c5,fun h=>?_⟩
   rw [h1] at h
   have:Ev.n a.heap[w]! =cT a.slots:=by show (Ev.ix a.heap[w]!).toNat=_;omega
   exact ok.no_ev h3 hw' this
 · constructor
   · rintro ⟨w,hw,hwi,rfl⟩
     rw [cell w (by omega)]
     exact bA (by omega)
   · intro h
     obtain ⟨w,hw,rfl⟩:=aU.1 h;exact ⟨w,by omega,by omega,cell w hw⟩
theorem TG (ht:bH t):FK (a.heap.length+1) (a.heap++[dF a t n]) a.heap.length:=by
 have _:=op;have cell: ∀w,w<a.heap.length->(a.heap++[dF a t n])[w]! =a.heap[w]!:=fun w hw=>gI hw
 refine ⟨fun w hw=>?_,fun k k0 hk k1 k2=>?_,fun i0 k k0 hk hp=>by omega⟩
 · by_cases h:w<a.heap.length
   · rw [cell w h];exact (ok.ev w h).den
   · have:w=a.heap.length:=by omega
     subst this;rw [kU (Nat.le_refl _),Nat.sub_self];exact ht.1
 · rw [cell k (by omega),cell _ (by omega)]
   exact ok.ord k k0 (by omega)
theorem AY (ht:bH t):DW (a.heap.length+1) (dF a t n) (fun e=>e∈a.heap) (fun k=>k≠Ev.n (dF a t n)/\ ∀w,w<a.heap.length+1->w≠a.heap.length->Ev.n (a.heap++[dF a t n])[w]!≠k) (a.heap++[dF a t n]) a.where_ (lS a t n).heap (lS a t n).where_:=
 CW (x:=dF a t n) ht.1 (ON ok op) (TG ok op ht)
theorem GZ (ht:bH t):(lS a t n).heap.length=a.heap.length+1:=by
 have:=(AY (n:=n) ok op ht).hl
 rw [this];simp
theorem TH (ht:bH t) (e:Ev):e∈(lS a t n).heap↔(e=dF a t n\/e∈a.heap):=by
 have st:=AY (n:=n) ok op ht;rw [aU,GZ ok op ht];exact st.mem e
theorem QG (ht:bH t) (h64:mH t) (n0:0<=n) (n1:n<=1000000):rN (dF a t n):=by
 have _:=ok;have _:=op;exact ⟨ht,h64,n0,n1⟩
theorem XZ (ht:bH t) (h64:mH t) (n0:0<=n) (n1:n<=1000000) (nn: ∀e∈a.heap,Ev.num e≠n):eQ (lS a t n):=by
 have st:=AY (n:=n) ok op ht;have len:=GZ (n:=n) ok op ht;obtain ⟨h1,h2,h3,h4⟩:=GY (t:=t) (n:=n) ok op;have hu:=ok.so.ul;have ul:(gF a.slots).uses.length=a.slots.uses.length:=List.length_set;have key:=yB (aBI ok.so op) st (by simp) (by rw [ul];exact ok.wl) (by rw [ul];have:=ok.hl;omega) (fun j hj hu'=>by
  rw [ul] at hj;change (a.slots.used.set (cT a.slots) true)[j]! =true at hu';rw [bF] at hu'
  show∃e:Ev,_/\_/\_=(a.slots.uses.set (cT a.slots) (a.slots.uses[cT a.slots]!+1))[j]!
  rw [bF]
  by_cases e:j=cT a.slots
  · rw [if_pos ⟨e,h2⟩]
    exact ⟨dF a t n,.inl rfl,by rw [h1,e],rfl⟩
  · rw [if_neg (fun k=>e k.1)]
    rw [if_neg (fun k=>e k.1)] at hu'
    obtain ⟨w,hw,e1,e2⟩:=ok.used_ev hj hu';exact ⟨a.heap[w]!,.inr (bA hw),e1,e2⟩) (fun j hj hu'=>by
  rw [ul] at hj;change (a.slots.used.set (cT a.slots) true)[j]! =false at hu';rw [bF] at hu'
  by_cases e:j=cT a.slots
  · rw [if_pos ⟨e,by omega⟩] at hu';cases hu'
  · rw [if_neg (fun k=>e k.1)] at hu'
    refine ⟨⟨?_,fun w hw hwi=>?_⟩,ok.un j hj hu'⟩
    · show j≠(Ev.ix (dF a t n)).toNat
      omega
    · rw [gI (by omega)]
      exact ok.no_ev hu' (by omega)) (by
  rintro e (rfl|h)
  · exact QG ok op ht h64 n0 n1
  · obtain ⟨w,hw,rfl⟩:=aU.1 h
    exact ok.ev w hw) (by
  rintro e f (rfl|he) (rfl|hf) hn
  · rfl
  · exact absurd hn.symm (nn f hf)
  · exact absurd hn (nn e he)
  · obtain ⟨v,hv,rfl⟩:=aU.1 he
    obtain ⟨w,hw,rfl⟩:=aU.1 hf;rw [ok.nums hv hw hn])
 have:(lS a t n).heap.take (a.heap.length+1)=(lS a t n).heap:=List.take_of_length_le (by rw [len];exact Nat.le_refl _)
 show eQ ⟨gF a.slots,(lS a t n).heap,(lS a t n).where_⟩;rw [<- this];exact key
theorem MO (ht:bH t) (h64:mH t) (n0:0<=n) (n1:n<=1000000):nC (a.heap.length+1) (a.heap++[dF a t n]) a.where_:=by
 have bd:=ok.bd;obtain ⟨h1,h2,h3,h4⟩:=GY (t:=t) (n:=n) ok op;refine ⟨by simp,by simp;omega,fun w hw=>?_⟩
 by_cases h:w<a.heap.length
 · rw [gI h];exact ok.cells.ev w h
 · have:w=a.heap.length:=by omega
   subst this;rw [kU (Nat.le_refl _),Nat.sub_self];exact ⟨QG ok op ht h64 n0 n1,by show 0<=Ev.ix (dF a t n);omega,by show Ev.ix (dF a t n)<_;rw [ok.wl];omega⟩
theorem zA (fit:CY a) (ht:bH t) (h64:mH t) (n0:0<=n) (n1:n<=1000000) (nn: ∀e∈a.heap,Ev.num e≠n):lE a t n=some (lS a t n,lQ a.slots,0):=by
 have bd:=ok.bd;obtain ⟨h1,h2,h3,h4⟩:=GY (t:=t) (n:=n) ok op;have hn: ¬ ∃w,w<a.heap.length/\(a.heap[w]!).2.2.1=n:=by
  rintro ⟨w,hw,e⟩;exact nn _ (bA hw) e
 unfold lE;rw [jE a fit,if_pos ok,dV h64,if_pos ht,OM _ _ (by omega),aM hn,GV ok.so,if_pos op]
 have se:=MH (u:=(gF a.slots).uses) (us:=(gF a.slots).used) (fr:=(gF a.slots).free) (QG ok op ht h64 n0 n1) (show 0<=Ev.ix (dF a t n) by omega) (MO ok op ht h64 n0 n1) (by simp) (show a.heap.length<a.heap.length+1 by omega) (show Ev.ix (dF a t n)<a.where_.length by rw [ok.wl];omega)
 have e1:aA .i64 (((a.heap++[dF a t n]).length:Int) -1)=(a.heap.length:Int):=by rw [wi,List.length_append];simp;omega
 have ap:bZ a.heap [(t.1,t.2,n,lQ a.slots)]=some (a.heap++[dF a t n]):=fF (by simp;omega)
 have se':eW ((gF a.slots).uses,(gF a.slots).used,(gF a.slots).free,(a.heap.length:Int),t.1,t.2,n,(lQ a.slots).1,(lQ a.slots).2,a.heap++[dF a t n],a.where_)=some (cI (a.heap.length+1) (dF a t n) a.heap.length (a.heap++[dF a t n]) a.where_):=se
 simp only [aB,gt_iff_lt,Int.lt_irrefl,if_false,show ((0:Int) !=0)=false from rfl,cond_false,aM (show¬n<0 by omega),aM (show¬1000000<n by omega),bK (show a.heap.length<=1048576 by omega),bK (show a.where_.length<=1048576 by omega),ap,aF,e1,se']
 rfl
theorem BL (ht:bH t) (h64:mH t) (n0:0<=n) (n1:n<=1000000):fD a t n=some (lS a t n,lQ a.slots):=by
 have bd:=ok.bd;obtain ⟨h1,h2,h3,h4⟩:=GY (t:=t) (n:=n) ok op;unfold fD;rw [sJ ok];have e1:aA .i64 (((a.heap++[dF a t n]).length:Int) -1)=(a.heap.length:Int):=by rw [wi,List.length_append];simp;omega
 have ap:bZ a.heap [(t.1,t.2,n,lQ a.slots)]=some (a.heap++[dF a t n]):=fF (by simp;omega)
 have hx:=QG (n:=n) ok op ht h64 n0 n1;have last:cI (a.heap.length+1) (dF a t n) a.heap.length (a.heap++[dF a t n]) a.where_=_:=S9 (x:=dF a t n) ht.1 (ON ok op) (TG ok op ht) (fun k k0 hk hp=>by omega)
 have hs:(a.heap++[dF a t n]).set a.heap.length (dF a t n)=a.heap++[dF a t n]:=set_same (by rw [kU (Nat.le_refl _),Nat.sub_self];rfl)
 have ws:bY a.where_ (lQ a.slots).1 (a.heap.length:Int)=a.where_.set (Ev.n (dF a t n)) (a.heap.length:Int):=rfl
 have u1:vV ((gF a.slots).uses,(gF a.slots).used,(gF a.slots).free,(a.heap.length:Int),a.heap++[dF a t n],a.where_.set (Ev.n (dF a t n)) (a.heap.length:Int))=some (((iY (dF a t n) a.heap.length (a.heap++[dF a t n]) a.where_).1:Int),(iY (dF a t n) a.heap.length (a.heap++[dF a t n]) a.where_).2.1.set (iY (dF a t n) a.heap.length (a.heap++[dF a t n]) a.where_).1 (dF a t n),(iY (dF a t n) a.heap.length (a.heap++[dF a t n]) a.where_).2.2.set (Ev.n (dF a t n)) ((iY (dF a t n) a.heap.length (a.heap++[dF a t n]) a.where_).1:Int)):=by
  unfold vV
  have:=aBM (c0:=((gF a.slots).uses,(gF a.slots).used,(gF a.slots).free,(a.heap.length:Int),a.heap++[dF a t n],a.where_.set (Ev.n (dF a t n)) (a.heap.length:Int))) (u:=(gF a.slots).uses) (us:=(gF a.slots).used) (fr:=(gF a.slots).free) hx (show 0<=Ev.ix (dF a t n) by omega) a.heap.length (a.heap++[dF a t n]) a.where_ (MO ok op ht h64 n0 n1) (by omega) (by simp) (by rw [ok.wl];omega) rfl List.length_set
  rw [hs] at this;exact this
 have g1:aL a.where_ (lQ a.slots).1=some a.where_[cT a.slots]!:=aC a.where_ (cT a.slots) (by rw [ok.wl];exact h2)
 simp only [aB,MC ok.so op,ap,g1,aF,e1,ws,u1];unfold lS;rw [last]
end
theorem zB {a:aG} (ok:eQ a) (op: ¬yY a.slots) (fit:CY a) {t:Int×Int} (ht:bH t) (h64:mH t) {n:Int} (n0:0<=n) (n1:n<=1000000) (nn: ∀e∈a.heap,Ev.num e≠n):lE a t n=some (⟨⟨[],[],[]⟩,[],[]⟩,(0,0),18):=by
 have bd:=ok.bd;have hn: ¬ ∃w,w<a.heap.length/\(a.heap[w]!).2.2.1=n:=by
  rintro ⟨w,hw,e⟩;exact nn _ (bA hw) e
 unfold lE;rw [jE a fit,if_pos ok,dV h64,if_pos ht,OM _ _ (by omega),aM hn,GV ok.so,if_neg op]
 simp only [aB,gt_iff_lt,Int.lt_irrefl,if_false,show ((0:Int) !=0)=false from rfl,cond_false,aM (show¬n<0 by omega),aM (show¬1000000<n by omega),show ((18:Int) !=0)=true from rfl,cond_true]
end Go.Proofs.YtfejhjllooomlaaGreat
namespace Go.Proofs.YtfejhjllooomlaaGreat
open Go.Vm Classical
theorem xH {l:List Ev} {n i:Nat} {v:Ev}:(l.set i v).take n=(l.take n).set i v:=by
 apply List.ext_getElem?;intro j;rw [List.getElem?_take,List.getElem?_set,List.getElem?_set,List.getElem?_take,List.length_take]
 by_cases h1:j<n
 · rw [if_pos h1]
   by_cases h2:i=j
   · subst h2
     by_cases h3:i<l.length
     · rw [if_pos rfl,if_pos h3,if_pos rfl,if_pos (by omega)]
     · rw [if_pos rfl,if_neg h3,if_pos rfl,if_neg (by omega)]
   · rw [if_neg h2,if_neg h2,if_pos h1]
 · rw [if_neg h1]
   by_cases h2:i=j
   · rw [if_pos h2,if_neg (by omega)]
   · rw [if_neg h2,if_neg h1]
theorem TI {n:Nat} {x:Ev}: ∀(i:Nat) (H:List Ev) (W:List Int),i<n->iY x i (H.take n) W=((iY x i H W).1,(iY x i H W).2.1.take n,(iY x i H W).2.2)
 |0,H,W,hi=>by rw [iY,iY]
 |i+1,H,W,hi=>by
  have e:(H.take n)[i / 2]! =H[i / 2]!:=mG (by omega)
  rw [iY,iY,e]
  by_cases h:dO x H[i / 2]!
  · rw [if_pos h,if_pos h,<- xH]
    exact TI (i / 2) _ _ (by omega)
  · rw [if_neg h,if_neg h]
termination_by i=>i
decreasing_by omega
theorem aBQ {x:Ev}: ∀(i:Nat) (H:List Ev) (W:List Int),(iY x i H W).1<=i
 |0,H,W=>by rw [iY];exact Nat.le_refl _
 |i+1,H,W=>by
  rw [iY];split
  · exact Nat.le_trans (aBQ (i / 2) _ _) (by omega)
  · exact Nat.le_refl _
termination_by i=>i
decreasing_by omega
theorem MP {n:Nat} {H:List Ev} {i:Nat} (hk:2*i+1<n):hU n (H.take n) i=hU n H i:=by
 unfold hU
 by_cases h:2*i+2<n
 · rw [mG h,mG (show 2*i+1<n by omega)]
 · rw [if_neg (fun k=>h k.1),if_neg (fun k=>h k.1)]
theorem TJ {n:Nat} {x:Ev} {i:Nat} {H:List Ev} {W:List Int} (h:2*i+1<n) (hl:dO H[hU n H i]! x):dW n x i H W=dW n x (hU n H i) (H.set i H[hU n H i]!) (W.set (H[hU n H i]!).n (i:Int)):=by
 rw [dW,dif_pos h,if_pos hl]
theorem AZ {n:Nat} {x:Ev} {i:Nat} {H:List Ev} {W:List Int} (h: ¬(2*i+1<n/\dO H[hU n H i]! x)):dW n x i H W=(i,H,W):=by
 rw [dW];split
 · rename_i h1;rw [if_neg (fun k=>h ⟨h1,k⟩)]
 · rfl
theorem MQ {n : Nat} {x : Ev} : ∀ (d i : Nat) (H : List Ev) (W : List Int), n - i <= d -> dW n x i (H.take n) W = ((dW n x i H W).1, (dW n x i H W).2.1.take n, (dW n x i H W).2.2)
  | 0, i, H, W, hd => by
    rw [AZ (fun h => by omega), AZ (fun h => by omega)]
  | d + 1, i, H, W, hd => by
    have kc := pE n H i
    by_cases h : 2 * i + 1 < n /\ dO H[hU n H i]! x
    · have e : (H.take n)[hU n (H.take n) i]! = H[hU n H i]! := by rw [MP h.1, mG (by omega)]
      rw [TJ h.1 h.2, TJ (H := H.take n) h.1 (by rw [e]; exact h.2), e, MP h.1, <- xH]
      exact MQ d _ _ _ (by omega)
    · have h' : ¬ (2 * i + 1 < n /\ dO (H.take n)[hU n (H.take n) i]! x) := by
        rintro ⟨k1, k2⟩
        rw [MP k1, mG (by omega)] at k2
        exact h ⟨k1, k2⟩
      rw [AZ h, AZ h']
theorem X0 {x:Ev}: ∀(i:Nat) (H:List Ev) (W:List Int),(iY x i H W).2.1.length=H.length/\(iY x i H W).2.2.length=W.length
 |0,H,W=>by rw [iY];exact ⟨rfl,rfl⟩
 |i+1,H,W=>by
  rw [iY];split
  · have:=X0 (x:=x) (i / 2) (H.set (i+1) H[i / 2]!) (W.set (H[i / 2]!).n ((i+1:Nat):Int))
    rwa [List.length_set,List.length_set] at this
  · exact ⟨rfl,rfl⟩
termination_by i=>i
decreasing_by omega
theorem G0 {n:Nat} {x:Ev} {i:Nat} {H:List Ev} {W:List Int} (hi:i<n):cI n x i (H.take n) W=((cI n x i H W).1.take n,(cI n x i H W).2):=by
 unfold cI;rw [TI i H W hi];dsimp only;rw [MQ n _ _ _ (by omega)]
 dsimp only;rw [xH]
noncomputable def dU (a:aG) (i:Nat):aG:=
 if i<a.heap.length-1 then ⟨fG a.slots (a.heap[i]!).2.2.2,(cI (a.heap.length-1) a.heap[a.heap.length-1]! i a.heap (a.where_.set (Ev.n a.heap[i]!) (-1))).1.take (a.heap.length-1),(cI (a.heap.length-1) a.heap[a.heap.length-1]! i a.heap (a.where_.set (Ev.n a.heap[i]!) (-1))).2⟩
 else ⟨fG a.slots (a.heap[i]!).2.2.2,a.heap.take (a.heap.length-1),a.where_.set (Ev.n a.heap[i]!) (-1)⟩
section
variable {a : aG} (ok : eQ a) {i : Nat} (hi : i < a.heap.length)
include ok hi
theorem zC {w:Nat} (hw:w<a.heap.length) (hne:w≠i):Ev.n a.heap[w]!≠Ev.n a.heap[i]!:=by
 have h1:=(ok.back hw).1;have h2:=(ok.back hi).1;exact aPz h1 h2 fun h=>hne (ok.inj hw hi h)
theorem OO:nC (a.heap.length-1) a.heap (a.where_.set (Ev.n a.heap[i]!) (-1)):=by
 have c:=ok.cells;refine ⟨by omega,c.hb,fun w hw=>?_⟩
 rw [List.length_set];exact c.ev w (by omega)
theorem aBR (hlt:i<a.heap.length-1):FH (a.heap.length-1) a.heap[a.heap.length-1]! (fun e=> ∃w,w<a.heap.length-1/\w≠i/\a.heap[w]! =e) a.heap (a.where_.set (Ev.n a.heap[i]!) (-1)) i:=by
 obtain ⟨b1,b2,b3,b4,b5⟩:=ok.back (show a.heap.length-1<a.heap.length by omega)
 refine ⟨hlt,by omega,fun w hw hwi=>?_,b1,by rw [List.length_set,ok.wl];exact b2,fun e=>Iff.rfl⟩
 obtain ⟨c1,c2,c3,c4,c5⟩:=ok.back (show w<a.heap.length by omega)
 refine ⟨c1,by rw [List.length_set,ok.wl];exact c2,?_,fun h=>?_⟩
 · rw [bF,if_neg (fun h=>zC ok hi (show w<a.heap.length by omega) hwi h.1)]
   exact c5
 · have:=ok.inj (show w<a.heap.length by omega) (show a.heap.length-1<a.heap.length by omega) h
   omega
theorem aH7:FK (a.heap.length-1) a.heap i:=
 ⟨fun w hw=>(ok.ev w (by omega)).den,fun k k0 hk _ _=>ok.ord k k0 (by omega),fun i0 k k0 hk hp=>ok.grand i0 k0 (by omega) hp⟩
theorem JB (hlt:i<a.heap.length-1):
 DW (a.heap.length-1) a.heap[a.heap.length-1]! (fun e=> ∃w,w<a.heap.length-1/\w≠i/\a.heap[w]! =e) (fun k=>k≠Ev.n a.heap[a.heap.length-1]!/\ ∀w,w<a.heap.length-1->w≠i->Ev.n a.heap[w]!≠k) a.heap (a.where_.set (Ev.n a.heap[i]!) (-1))
  (cI (a.heap.length-1) a.heap[a.heap.length-1]! i a.heap (a.where_.set (Ev.n a.heap[i]!) (-1))).1 (cI (a.heap.length-1) a.heap[a.heap.length-1]! i a.heap (a.where_.set (Ev.n a.heap[i]!) (-1))).2:=
 CW (ok.ev (a.heap.length-1) (by omega)).den (aBR ok hi hlt) (aH7 ok hi)
theorem OP:eO (fG a.slots (a.heap[i]!).2.2.2):=aBH ok.so (ok.handle hi).1
theorem C0 {j:Nat} (hj:j<a.slots.uses.length):(fG a.slots (a.heap[i]!).2.2.2).used[j]! =if j=Ev.n a.heap[i]! then false else a.slots.used[j]!:=by
 have _:=hi;show (a.slots.used.set (Ev.n a.heap[i]!) false)[j]! =_;rw [bF]
 have:=ok.so.ul
 by_cases e:j=Ev.n a.heap[i]!
 · rw [if_pos ⟨e,by omega⟩,if_pos e]
 · rw [if_neg (fun k=>e k.1),if_neg e]
theorem IK:eQ (dU a i):=by
 have hb:=ok.back hi;have hl:a.heap.length-1+(fG a.slots (a.heap[i]!).2.2.2).free.length=a.slots.uses.length:=by
  show a.heap.length-1+(a.slots.free++[_]).length=_;rw [List.length_append]
  have:=ok.hl
  simp only [List.length_cons,List.length_nil];omega
 have un: ∀j,j<a.slots.uses.length->(fG a.slots (a.heap[i]!).2.2.2).used[j]! =false->(a.where_.set (Ev.n a.heap[i]!) (-1))[j]! = -1:=by
  intro j hj hu;rw [C0 ok hi hj] at hu;rw [bF]
  by_cases e:j=Ev.n a.heap[i]!
  · rw [if_pos ⟨e.symm▸rfl,by rw [ok.wl];omega⟩]
  · rw [if_neg e] at hu
    rw [if_neg (fun k=>e k.1)]
    exact ok.un j hj hu
 unfold dU
 by_cases hlt:i<a.heap.length-1
 · rw [if_pos hlt]
   have st:=JB ok hi hlt;refine yB (OP ok hi) st (by omega) (by rw [List.length_set];exact ok.wl) hl (fun j hj hu=>?_) (fun j hj hu=>⟨⟨?_,fun w hw hwi=>?_⟩,un j hj hu⟩) ?_ ?_
   · change j<a.slots.uses.length at hj
     rw [C0 ok hi hj] at hu
     by_cases e:j=Ev.n a.heap[i]!
     · rw [if_pos e] at hu;cases hu
     · rw [if_neg e] at hu
       obtain ⟨w,hw,e1,e2⟩:=ok.used_ev hj hu;refine ⟨a.heap[w]!,?_,e1,e2⟩
       by_cases hl':w=a.heap.length-1
       · left;rw [hl']
       · refine .inr ⟨w,by omega,fun h=>e ?_,rfl⟩
         rw [<- h];show j=(Ev.ix a.heap[w]!).toNat;omega
   · change j<a.slots.uses.length at hj
     rw [C0 ok hi hj] at hu
     by_cases e:j=Ev.n a.heap[i]!
     · rw [e];exact (zC ok hi (by omega) (by omega)).symm
     · rw [if_neg e] at hu
       exact (ok.no_ev hu (by omega)).symm
   · change j<a.slots.uses.length at hj
     rw [C0 ok hi hj] at hu
     by_cases e:j=Ev.n a.heap[i]!
     · rw [e];exact zC ok hi (by omega) hwi
     · rw [if_neg e] at hu
       exact ok.no_ev hu (by omega)
   · rintro e (rfl|⟨w,hw,_,rfl⟩)
     · exact ok.ev _ (by omega)
     · exact ok.ev w (by omega)
   · rintro e f (rfl|⟨v,hv,hvi,rfl⟩) (rfl|⟨w,hw,hwi,rfl⟩) he
     · rfl
     · rw [ok.nums (by omega) (by omega) he]
     · rw [ok.nums (by omega) (by omega) he]
     · rw [ok.nums (by omega) (by omega) he]
 · rw [if_neg hlt]
   have hie:i=a.heap.length-1:=by omega
   refine aIZ (OP ok hi) (fun e=> ∃w,w<a.heap.length-1/\a.heap[w]! =e) (by omega) (by rw [List.length_set];exact ok.wl) hl (fun w hw=>?_) (fun e=>Iff.rfl) (fun k k0 hk=>ok.ord k k0 (by omega)) (fun j hj hu=>?_) un ?_ ?_
   · obtain ⟨c1,c2,c3,c4,c5⟩:=ok.back (show w<a.heap.length by omega)
     refine ⟨c1,by rw [List.length_set,ok.wl];exact c2,?_⟩
     rw [bF,if_neg (fun h=>zC ok hi (show w<a.heap.length by omega) (by omega) h.1)]
     exact c5
   · change j<a.slots.uses.length at hj
     rw [C0 ok hi hj] at hu
     by_cases e:j=Ev.n a.heap[i]!
     · rw [if_pos e] at hu;cases hu
     · rw [if_neg e] at hu
       obtain ⟨w,hw,e1,e2⟩:=ok.used_ev hj hu;refine ⟨a.heap[w]!,⟨w,?_,rfl⟩,e1,e2⟩
       have:w≠i:=fun h=>e (by rw [<- h];show j=(Ev.ix a.heap[w]!).toNat;omega)
       omega
   · rintro e ⟨w,hw,rfl⟩
     exact ok.ev w (by omega)
   · rintro e f ⟨v,hv,rfl⟩ ⟨w,hw,rfl⟩ he
     rw [ok.nums (by omega) (by omega) he]
theorem MR (e:Ev):e∈(dU a i).heap↔(e∈a.heap/\e≠a.heap[i]!):=by
 have other: ∀w,w<a.heap.length->(a.heap[w]!≠a.heap[i]!↔w≠i):=fun w hw=>⟨fun h k=>h (by rw [k]),fun h k=>h (ok.inj hw hi (by rw [k]))⟩
 unfold dU
 by_cases hlt:i<a.heap.length-1
 · rw [if_pos hlt]
   have st:=JB ok hi hlt;show e∈(_:List Ev).take _↔_;rw [EK (by rw [st.hl];omega)]
   refine (st.mem e).trans ?_;constructor
   · rintro (h|⟨w,hw,hwi,rfl⟩)
     · rw [h];exact ⟨bA (by omega),(other _ (by omega)).2 (by omega)⟩
     · exact ⟨bA (by omega),(other _ (by omega)).2 hwi⟩
   · rintro ⟨h,hne⟩
     obtain ⟨w,hw,rfl⟩:=aU.1 h
     by_cases c:w=a.heap.length-1
     · left;rw [c]
     · exact .inr ⟨w,by omega,(other w hw).1 hne,rfl⟩
 · rw [if_neg hlt]
   show e∈a.heap.take _↔_;rw [EK (by omega)]
   constructor
   · rintro ⟨w,hw,rfl⟩
     exact ⟨bA (by omega),(other _ (by omega)).2 (by omega)⟩
   · rintro ⟨h,hne⟩
     obtain ⟨w,hw,rfl⟩:=aU.1 h
     have:=(other w hw).1 hne
     exact ⟨w,by omega,rfl⟩
theorem IL:sB a (i:Int)=some (dU a i,a.heap[i]!,0):=by
 have bd:=ok.bd;obtain ⟨b1,b2,b3,b4,b5⟩:=ok.back hi;obtain ⟨c1,c2,c3,c4,c5⟩:=ok.back (show a.heap.length-1<a.heap.length by omega)
 unfold sB;have e1:aA .i64 ((a.heap.length:Int) -1)=((a.heap.length-1:Nat):Int):=xE (by omega) (by omega)
 have g1:aL a.where_ (a.heap[i]!).2.2.2.1=some a.where_[(a.heap[i]!).2.2.2.1.toNat]!:=dT b1 (by rw [ok.wl];exact b2)
 have ws:bY a.where_ (a.heap[i]!).2.2.2.1 (-1)=a.where_.set (Ev.n a.heap[i]!) (-1):=rfl
 simp only [aC a.heap i hi,aB,QA ok.so (ok.handle hi).1,show ((0:Int) !=0)=false from rfl,cond_false,bK (show a.heap.length<=1048576 by omega),bK (show a.where_.length<=1048576 by omega),aF,e1,aC a.heap (a.heap.length-1) (by omega),rM a.heap (a.heap.length-1) (by omega),g1,ws,Int.toNat_natCast]
 unfold dU
 by_cases hlt:i<a.heap.length-1
 · rw [aT (by omega),if_pos hlt]
   have se:=VQ (cap:=a.heap.length) (u:=(fG a.slots (a.heap[i]!).2.2.2).uses) (us:=(fG a.slots (a.heap[i]!).2.2.2).used) (fr:=(fG a.slots (a.heap[i]!).2.2.2).free) (ok.ev (a.heap.length-1) (by omega)) (show 0<=Ev.ix a.heap[a.heap.length-1]! from c1) (OO ok hi) hlt (show Ev.ix a.heap[a.heap.length-1]!<_ by rw [List.length_set,ok.wl];exact c2)
   rw [se];rfl
 · rw [aM (by omega),if_neg hlt]
   rfl
theorem rP (fit:CY a) {h:Int×Int} (hh:(a.heap[i]!).2.2.2=h):mB a h=some (dU a i,a.heap[i]!,0):=by
 unfold mB;rw [TF ok fit hi hh];simp only [aB,show ((0:Int) !=0)=false from rfl,cond_false,IL ok hi]
theorem zD {h:Int×Int} (hh:(a.heap[i]!).2.2.2=h):mE a h=some (dU a i):=by
 have bd:=ok.bd;subst hh;obtain ⟨b1,b2,b3,b4,b5⟩:=ok.back hi;obtain ⟨c1,c2,c3,c4,c5⟩:=ok.back (show a.heap.length-1<a.heap.length by omega)
 unfold mE;rw [sJ ok];have e1:aA .i64 ((a.heap.length:Int) -1)=((a.heap.length-1:Nat):Int):=xE (by omega) (by omega)
 have g1:aL a.where_ (a.heap[i]!).2.2.2.1=some (i:Int):=by
  rw [dT (l:=a.where_) b1 (by rw [ok.wl];exact b2)]
  exact congrArg some b5
 have gv:=MB ok.so (ok.handle hi).1;simp only [aB,g1,aF,e1,Int.toNat_natCast];unfold dU
 by_cases hlt:i<a.heap.length-1
 · rw [eU (show (i:Int)≠((a.heap.length-1:Nat):Int) by omega),if_pos hlt]
   have hne:a.heap.length-1≠i:=by omega
   have nn:Ev.n a.heap[a.heap.length-1]!≠Ev.n a.heap[i]!:=zC ok hi (by omega) hne
   have sw:=GX (n:=a.heap.length) (x:=a.heap[i]!) (u:=a.slots.uses) (us:=a.slots.used) (fr:=a.slots.free) (H:=a.heap) (W:=a.where_) hi (show a.heap.length-1<a.heap.length by omega) hne rfl b1 (by rw [ok.wl];exact b2) c1 (by rw [ok.wl];exact c2)
   rw [set_same (l:=a.heap) rfl,set_same (l:=a.where_) b5] at sw;have hs:(a.heap.set i a.heap[a.heap.length-1]!).set (a.heap.length-1) a.heap[i]! =(a.heap.set (a.heap.length-1) a.heap[i]!).set i a.heap[a.heap.length-1]!:=List.set_comm _ _ (by omega)
   have ws:bY ((a.where_.set (Ev.n a.heap[a.heap.length-1]!) (i:Int)).set (Ev.n a.heap[i]!) ((a.heap.length-1:Nat):Int)) (a.heap[i]!).2.2.2.1 (-1)=(a.where_.set (Ev.n a.heap[i]!) (-1)).set (Ev.n a.heap[a.heap.length-1]!) (i:Int):=by
    show ((a.where_.set (Ev.n a.heap[a.heap.length-1]!) (i:Int)).set (Ev.n a.heap[i]!) ((a.heap.length-1:Nat):Int)).set (Ev.n a.heap[i]!) (-1)=_;rw [List.set_set,List.set_comm _ _ nn]
   have g2:aL ((a.where_.set (Ev.n a.heap[a.heap.length-1]!) (i:Int)).set (Ev.n a.heap[i]!) ((a.heap.length-1:Nat):Int)) (a.heap[i]!).2.2.2.1=some _:=dT b1 (by rw [List.length_set,List.length_set,ok.wl];exact b2)
   have cells:nC (a.heap.length-1) (a.heap.set (a.heap.length-1) a.heap[i]!) (a.where_.set (Ev.n a.heap[i]!) (-1)):=by
    refine ⟨by rw [List.length_set];omega,by rw [List.length_set];omega,fun w hw=>?_⟩
    rw [bF,if_neg (by omega)]
    exact (OO ok hi).ev w hw
   have x1:Ev.ix a.heap[a.heap.length-1]!<(a.where_.set (Ev.n a.heap[i]!) (-1)).length:=by rw [List.length_set,ok.wl];exact c2
   have hx:=ok.ev (a.heap.length-1) (by omega)
   have gv':tM (aR.mk a.slots.uses a.slots.used a.slots.free) (a.heap[i]!).2.2.2=some (fG a.slots (a.heap[i]!).2.2.2):=gv;have tk:(a.heap.set (a.heap.length-1) a.heap[i]!).take (a.heap.length-1)=a.heap.take (a.heap.length-1):=by rw [xH];exact List.set_eq_of_length_le (by rw [List.length_take];omega)
   have U:qF ((fG a.slots (a.heap[i]!).2.2.2).uses,(fG a.slots (a.heap[i]!).2.2.2).used,(fG a.slots (a.heap[i]!).2.2.2).free,a.heap.length-1,((a.heap.set (a.heap.length-1) a.heap[i]!).set i a.heap[a.heap.length-1]!).length,(i:Int),(a.heap.set (a.heap.length-1) a.heap[i]!).set i a.heap[a.heap.length-1]!,(a.where_.set (Ev.n a.heap[i]!) (-1)).set (Ev.n a.heap[a.heap.length-1]!) (i:Int))=
    some (((iY a.heap[a.heap.length-1]! i (a.heap.set (a.heap.length-1) a.heap[i]!) (a.where_.set (Ev.n a.heap[i]!) (-1))).1:Int),(iY a.heap[a.heap.length-1]! i (a.heap.set (a.heap.length-1) a.heap[i]!) (a.where_.set (Ev.n a.heap[i]!) (-1))).2.1.set (iY a.heap[a.heap.length-1]! i (a.heap.set (a.heap.length-1) a.heap[i]!) (a.where_.set (Ev.n a.heap[i]!) (-1))).1 a.heap[a.heap.length-1]!,(iY a.heap[a.heap.length-1]! i (a.heap.set (a.heap.length-1) a.heap[i]!) (a.where_.set (Ev.n a.heap[i]!) (-1))).2.2.set (Ev.n a.heap[a.heap.length-1]!) ((iY a.heap[a.heap.length-1]! i (a.heap.set (a.heap.length-1) a.heap[i]!) (a.where_.set (Ev.n a.heap[i]!) (-1))).1:Int)):=by
    unfold qF
    exact aBJ (n:=a.heap.length-1) (c0:=((fG a.slots (a.heap[i]!).2.2.2).uses,(fG a.slots (a.heap[i]!).2.2.2).used,(fG a.slots (a.heap[i]!).2.2.2).free,a.heap.length-1,((a.heap.set (a.heap.length-1) a.heap[i]!).set i a.heap[a.heap.length-1]!).length,(i:Int),(a.heap.set (a.heap.length-1) a.heap[i]!).set i a.heap[a.heap.length-1]!,(a.where_.set (Ev.n a.heap[i]!) (-1)).set (Ev.n a.heap[a.heap.length-1]!) (i:Int))) hx c1 i _ _ cells hlt x1 List.length_set List.length_set
   have ul:=aBQ (x:=a.heap[a.heap.length-1]!) i (a.heap.set (a.heap.length-1) a.heap[i]!) (a.where_.set (Ev.n a.heap[i]!) (-1));have un:=X0 (x:=a.heap[a.heap.length-1]!) i (a.heap.set (a.heap.length-1) a.heap[i]!) (a.where_.set (Ev.n a.heap[i]!) (-1));have uc:=fun w hw=>CX (x:=a.heap[a.heap.length-1]!) cells hlt (i:=i) rfl w hw
   have cells1:nC (a.heap.length-1) (iY a.heap[a.heap.length-1]! i (a.heap.set (a.heap.length-1) a.heap[i]!) (a.where_.set (Ev.n a.heap[i]!) (-1))).2.1 (iY a.heap[a.heap.length-1]! i (a.heap.set (a.heap.length-1) a.heap[i]!) (a.where_.set (Ev.n a.heap[i]!) (-1))).2.2:=by
    refine ⟨by rw [un.1,List.length_set];omega,by rw [un.1,List.length_set];omega,fun w hw=>?_⟩
    rw [un.2];exact uc w hw
   have D:nP ((fG a.slots (a.heap[i]!).2.2.2).uses,(fG a.slots (a.heap[i]!).2.2.2).used,(fG a.slots (a.heap[i]!).2.2.2).free,a.heap.length-1,((a.heap.set (a.heap.length-1) a.heap[i]!).set i a.heap[a.heap.length-1]!).length,((iY a.heap[a.heap.length-1]! i (a.heap.set (a.heap.length-1) a.heap[i]!) (a.where_.set (Ev.n a.heap[i]!) (-1))).1:Int),(iY a.heap[a.heap.length-1]! i (a.heap.set (a.heap.length-1) a.heap[i]!) (a.where_.set (Ev.n a.heap[i]!) (-1))).2.1.set (iY a.heap[a.heap.length-1]! i (a.heap.set (a.heap.length-1) a.heap[i]!) (a.where_.set (Ev.n a.heap[i]!) (-1))).1 a.heap[a.heap.length-1]!,(iY a.heap[a.heap.length-1]! i (a.heap.set (a.heap.length-1) a.heap[i]!) (a.where_.set (Ev.n a.heap[i]!) (-1))).2.2.set (Ev.n a.heap[a.heap.length-1]!) ((iY a.heap[a.heap.length-1]! i (a.heap.set (a.heap.length-1) a.heap[i]!) (a.where_.set (Ev.n a.heap[i]!) (-1))).1:Int))=
    some (cI (a.heap.length-1) a.heap[a.heap.length-1]! i (a.heap.set (a.heap.length-1) a.heap[i]!) (a.where_.set (Ev.n a.heap[i]!) (-1))):=by
    unfold nP
    exact TA (n:=a.heap.length-1) (c0:=((fG a.slots (a.heap[i]!).2.2.2).uses,(fG a.slots (a.heap[i]!).2.2.2).used,(fG a.slots (a.heap[i]!).2.2.2).free,a.heap.length-1,((a.heap.set (a.heap.length-1) a.heap[i]!).set i a.heap[a.heap.length-1]!).length,((iY a.heap[a.heap.length-1]! i (a.heap.set (a.heap.length-1) a.heap[i]!) (a.where_.set (Ev.n a.heap[i]!) (-1))).1:Int),(iY a.heap[a.heap.length-1]! i (a.heap.set (a.heap.length-1) a.heap[i]!) (a.where_.set (Ev.n a.heap[i]!) (-1))).2.1.set (iY a.heap[a.heap.length-1]! i (a.heap.set (a.heap.length-1) a.heap[i]!) (a.where_.set (Ev.n a.heap[i]!) (-1))).1 a.heap[a.heap.length-1]!,(iY a.heap[a.heap.length-1]! i (a.heap.set (a.heap.length-1) a.heap[i]!) (a.where_.set (Ev.n a.heap[i]!) (-1))).2.2.set (Ev.n a.heap[a.heap.length-1]!) ((iY a.heap[a.heap.length-1]! i (a.heap.set (a.heap.length-1) a.heap[i]!) (a.where_.set (Ev.n a.heap[i]!) (-1))).1:Int))) hx c1 a.heap.length (iY a.heap[a.heap.length-1]! i (a.heap.set (a.heap.length-1) a.heap[i]!) (a.where_.set (Ev.n a.heap[i]!) (-1))).1 (iY a.heap[a.heap.length-1]! i (a.heap.set (a.heap.length-1) a.heap[i]!) (a.where_.set (Ev.n a.heap[i]!) (-1))).2.1 (iY a.heap[a.heap.length-1]! i (a.heap.set (a.heap.length-1) a.heap[i]!) (a.where_.set (Ev.n a.heap[i]!) (-1))).2.2 (by omega) cells1 (by omega) (by rw [un.2];exact x1) List.length_set List.length_set
   have st:=G0 (n:=(a.heap.length-1)) (x:=a.heap[a.heap.length-1]!) (i:=i) (H:=(a.heap.set (a.heap.length-1) a.heap[i]!)) (W:=(a.where_.set (Ev.n a.heap[i]!) (-1))) hlt;have st2:=G0 (n:=(a.heap.length-1)) (x:=a.heap[a.heap.length-1]!) (i:=i) (H:=a.heap) (W:=(a.where_.set (Ev.n a.heap[i]!) (-1))) hlt;rw [tk,st2] at st;injection st with st1 st3
   simp only [cond_true,sw,aB,rM _ (a.heap.length-1) (show a.heap.length-1<=((a.heap.set (a.heap.length-1) a.heap[i]!).set i a.heap[a.heap.length-1]!).length by rw [List.length_set,List.length_set];omega),g2,gv',ws,hs,U,D,<- st1,<- st3]
 · rw [cY (show (i:Int)=((a.heap.length-1:Nat):Int) by omega),if_neg hlt]
   have ws:bY a.where_ (a.heap[i]!).2.2.2.1 (-1)=a.where_.set (Ev.n a.heap[i]!) (-1):=rfl;simp only [cond_false,rM a.heap (a.heap.length-1) (by omega),aB,gv,ws]
end
end Go.Proofs.YtfejhjllooomlaaGreat
namespace Go.Proofs.YtfejhjllooomlaaGreat
open Go.Vm Classical
abbrev tN:=Int×Int×Int
theorem eQ.fit {a:aG} (ok:eQ a):CY a:=by
 have bd:=ok.bd
 have:=ok.so.fl
 have:=ok.so.n2
 exact ⟨by omega,by omega,by omega,fun w hw=>(ok.ev w hw).2.1⟩
theorem J5 (l:List tN) (id:Int) (hl:l.length<=1000000) (hs: ∀i j,i<j->j<l.length->(l[i]!).1<(l[j]!).1):
 (∀k,k<l.length->(l[k]!).1=id->aW l id ()=some ((k:Int),true))/\
 ((∀k,k<l.length->(l[k]!).1≠id)-> ∃m,m<=l.length/\(∀i,i<m->(l[i]!).1<id)/\(∀i,m<=i->i<l.length->id<(l[i]!).1)/\aW l id ()=some ((m:Int),false)):=by
 obtain ⟨m,m1,m2,m3⟩:=S8 (fun i=>(l[i]!).1) id l.length hs
 have run:aW l id ()=aI aV (l,id,(l.length:Int),(m:Int),(m:Int)):=by
  unfold aW;refine IE (body:=aV) (fun lo hi=>(l,id,(l.length:Int),(lo:Int),(hi:Int))) l.length m (fun i=>(l[i]!).1<id) (fun lo hi h1 h2=>?_) m2 (fun i h1 h2 h3=>by have:=m3 i h1 h2;omega) l.length 0 l.length (by omega) (by omega) m1 (Nat.le_refl _)
  have e1:decide ((lo:Int)<(hi:Int))=true:=aT (by omega)
  have hh:=aH2 (a:=lo) (b:=hi) (by omega) (by omega)
  unfold aV sX;simp only [e1,cond_true,hh,aC l ((lo+hi) / 2) (by omega),kV,aB,bG (show (lo+hi) / 2<1000000000 by omega)]
  constructor
  · intro h
    have:decide (jZ (l[(lo+hi) / 2]!).1 id<0)=true:=by
     rcases dZ (l[(lo+hi) / 2]!).1 id with ⟨a,e⟩|⟨a,e⟩|⟨a,e⟩<;>rw [e]<;>first|rfl|omega
    rw [this];rfl
  · intro h
    have:decide (jZ (l[(lo+hi) / 2]!).1 id<0)=false:=by
     rcases dZ (l[(lo+hi) / 2]!).1 id with ⟨a,e⟩|⟨a,e⟩|⟨a,e⟩<;>rw [e]<;>first|rfl|omega
    rw [this];rfl
 have fin:aI aV (l,id,(l.length:Int),(m:Int),(m:Int))=if m<l.length/\(l[m]!).1=id then some ((m:Int),true) else some ((m:Int),false):=by
  have e1:decide ((m:Int)<(m:Int))=false:=aM (by omega)
  by_cases hm:m<l.length
  · have e2:decide ((m:Int)<(l.length:Int))=true:=aT (by omega)
    have body:aV (l,id,(l.length:Int),(m:Int),(m:Int))=some (.done ((m:Int),jZ (l[m]!).1 id==0)):=by
     unfold aV sX;simp only [e1,e2,cond_true,cond_false,aC l m hm,kV,aB]
    rw [aK body];rcases dZ (l[m]!).1 id with ⟨a,e⟩|⟨a,e⟩|⟨a,e⟩
    · rw [e,if_neg (fun h=>by omega)];rfl
    · rw [e,if_pos ⟨hm,a⟩];rfl
    · rw [e,if_neg (fun h=>by omega)];rfl
  · have e2:decide ((m:Int)<(l.length:Int))=false:=aM (by omega)
    have body:aV (l,id,(l.length:Int),(m:Int),(m:Int))=some (.done ((m:Int),false)):=by
     unfold aV;simp only [e1,e2,cond_false]
    rw [aK body,if_neg (fun h=>hm h.1)]
 rw [run,fin];constructor
 · intro k hk he
   have hkm:k=m:=by
    rcases Nat.lt_trichotomy k m with h|h|h
    · have:=m2 k h;omega
    · exact h
    · have h1:=m3 m (Nat.le_refl _) (by omega)
      have h2:=hs m k h hk;omega
   subst hkm;rw [if_pos ⟨hk,he⟩]
 · intro h
   refine ⟨m,m1,m2,fun i h1 h2=>?_,?_⟩
   · have:=m3 i h1 h2
     have:=h i h2
     omega
   · rw [if_neg (fun k=>h m k.1 k.2)]
theorem aNB:dC=aW:=rfl
theorem aBS:dA=aW:=rfl
theorem aH8:dB=aW:=rfl
theorem vY {α:Type} (l:List α) (k:Nat):l.eraseIdx k=l.take k++l.drop (k+1):=List.eraseIdx_eq_take_drop_succ l k
theorem C1 (l:List tN) (k:Nat) (hk:k<l.length): ∃L:List tN,eF ((k:Int),((k+1:Nat):Int),l)=some (l.length-1,l.length,L)/\L.take (l.length-1)=l.eraseIdx k:=by
 unfold eF;have e1:decide ((0:Int)<=(k:Int))=true:=aT (by omega)
 have e2:decide ((k:Int)<=((k+1:Nat):Int))=true:=aT (by omega)
 have e3:decide (((k+1:Nat):Int)<=(l.length:Int))=true:=aT (by omega)
 have e4:decide ((l.length:Int)<=(l.length:Int))=true:=aT (by omega)
 have e5:((k:Int)==((k+1:Nat):Int))=false:=gA (by omega)
 have e6:decide ((0:Int)<=((k+1:Nat):Int))=true:=aT (by omega)
 have e7:decide ((k:Int)<=(l.length:Int))=true:=aT (by omega)
 have dr:(l.drop (k+1)).take (l.length- (k+1))=l.drop (k+1):=List.take_of_length_le (by rw [List.length_drop];exact Nat.le_refl _)
 have dl:(l.drop (k+1)).length=l.length- (k+1):=List.length_drop;simp only [aF,e1,e2,e3,e4,e5,e6,e7,Bool.and_self,cond_true,cond_false,rM l k (by omega),aB,Int.toNat_natCast,Nat.zero_add,dr,dl,Bool.not_false,Bool.and_true]
 by_cases h:k+1=l.length
 · have em:(l.drop (k+1)).isEmpty=true:=by rw [List.isEmpty_iff,List.drop_eq_nil_iff];omega
   have n1:Nat.beq (l.length-k) 0=false:=by
    cases hb:Nat.beq (l.length-k) 0 with
    |false=>rfl
    |true=>have:=Nat.eq_of_beq_eq_true hb;omega
   have n2:Nat.ble (k+(l.length-k)) l.length=true:=Nat.ble_eq_true_of_le (by omega)
   have ll:(kL l k (List.replicate (l.length-k) ((0:Int),(0:Int),(0:Int)))).length=l.length:=by
    unfold kL;simp;omega
   simp only [em,cond_true,n1,cond_false,n2,ll,beq_self_eq_true];refine ⟨_,by rw [show k=l.length-1 by omega],?_⟩
   rw [vY,show l.length-1=k by omega]
   unfold kL;rw [List.append_assoc,List.take_append_of_le_length (by rw [List.length_take];omega),List.take_take,Nat.min_self]
   rw [List.drop_eq_nil_of_le (by omega),List.append_nil]
 · have em:(l.drop (k+1)).isEmpty=false:=by
    cases hb:(l.drop (k+1)).isEmpty with
    |false=>rfl
    |true=>rw [List.isEmpty_iff,List.drop_eq_nil_iff] at hb;omega
   have n1:Nat.ble (k+(l.length- (k+1))) l.length=true:=Nat.ble_eq_true_of_le (by omega)
   have n2:decide ((0:Int)<=((k+(l.length- (k+1)):Nat):Int))=true:=aT (by omega)
   have n3:decide (((k+(l.length- (k+1)):Nat):Int)<=(l.length:Int))=true:=aT (by omega)
   have n4:Nat.beq (l.length- (k+(l.length- (k+1)))) 0=false:=by
    cases hb:Nat.beq (l.length- (k+(l.length- (k+1)))) 0 with
    |false=>rfl
    |true=>have:=Nat.eq_of_beq_eq_true hb;omega
   have l1:(kL l k (l.drop (k+1))).length=l.length:=by
    unfold kL;simp;omega
   have n5:Nat.ble (k+(l.length- (k+1))+(l.length- (k+(l.length- (k+1))))) l.length=true:=Nat.ble_eq_true_of_le (by omega)
   have l2:(kL (kL l k (l.drop (k+1))) (k+(l.length- (k+1))) (List.replicate (l.length- (k+(l.length- (k+1)))) ((0:Int),(0:Int),(0:Int)))).length=l.length:=by
    unfold kL;simp;omega
   simp only [em,cond_false,n1,cond_true,n2,n3,Bool.and_self,n4,l1,n5,l2,beq_self_eq_true];refine ⟨_,by rw [show k+(l.length- (k+1))=l.length-1 by omega],?_⟩
   rw [vY]
   have:k+(l.length- (k+1))=l.length-1:=by omega
   unfold kL;rw [List.append_assoc,List.take_append_of_le_length (by simp;omega),List.take_take,Nat.min_self,List.append_assoc]
   rw [show (l.take k++(l.drop (k+1)++l.drop (k+(l.drop (k+1)).length)))=(l.take k++l.drop (k+1))++l.drop (k+(l.drop (k+1)).length) by rw [List.append_assoc]]
   rw [List.take_append_of_le_length (by simp;omega),List.take_of_length_le (by simp;omega)]
theorem MS:lM=eF:=rfl
theorem MT {α:Type} [Inhabited α] {l:List α} {k i:Nat}:(l.eraseIdx k)[i]! =if i<k then l[i]! else l[i+1]!:=by
 rw [vY]
 by_cases hk:k<l.length
 · by_cases h:i<k
   · rw [if_pos h,gI (by rw [List.length_take];omega),mG h]
   · rw [if_neg h,kU (by rw [List.length_take];omega),vB,List.length_take]
     congr 1;omega
 · have e1:l.take k=l:=List.take_of_length_le (by omega)
   have e2:l.drop (k+1)=[]:=List.drop_eq_nil_of_le (by omega)
   rw [e1,e2,List.append_nil];split
   · rfl
   · rw [getElem!_neg l i (by omega),getElem!_neg l (i+1) (by omega)]
end Go.Proofs.YtfejhjllooomlaaGreat
namespace Go.Proofs.YtfejhjllooomlaaGreat
open Go.Vm Classical
def jO (x:Int×Int):Prop:=0<=x.1/\x.1<=65535/\0<=x.2/\x.2<=65535/\x.1≠x.2
theorem EL (x:Int×Int):vL x=some (decide (jO x)):=by
 obtain ⟨a,b⟩:=x;unfold vL;dsimp only
 by_cases h1:0<=a
 · by_cases h3:0<=b
   · have e1:decide (0<=if b<a then b else a)=true:=aT (by split<;>omega)
     rw [e1]
     by_cases h2:a<=65535
     · by_cases h4:b<=65535
       · have e2:decide ((if b>a then b else a)<=65535)=true:=aT (by split<;>omega)
         rw [e2]
         by_cases h5:a=b
         · rw [cY h5,aM (p:=jO (a,b)) (fun h=>h.2.2.2.2 h5)];rfl
         · rw [eU h5,aT (p:=jO (a,b)) ⟨h1,h2,h3,h4,h5⟩];rfl
       · have e2:decide ((if b>a then b else a)<=65535)=false:=aM (by split<;>omega)
         rw [e2,aM (p:=jO (a,b)) (fun h=>h4 h.2.2.2.1)];rfl
     · have e2:decide ((if b>a then b else a)<=65535)=false:=aM (by split<;>omega)
       rw [e2,aM (p:=jO (a,b)) (fun h=>h2 h.2.1)];rfl
   · have e1:decide (0<=if b<a then b else a)=false:=aM (by split<;>omega)
     rw [e1,aM (p:=jO (a,b)) (fun h=>h3 h.2.2.1)];rfl
 · have e1:decide (0<=if b<a then b else a)=false:=aM (by split<;>omega)
   rw [e1,aM (p:=jO (a,b)) (fun h=>h1 h.1)];rfl
theorem EM (x:Int×Int):vP x=some (decide (jO x)):=by
 obtain ⟨a,b⟩:=x;unfold vP;dsimp only
 by_cases h1:0<=a
 · by_cases h2:a<=65535
   · by_cases h3:0<=b
     · by_cases h4:b<=65535
       · by_cases h5:a=b
         · rw [cY h5,aT h1,aT h2,aT h3,aT h4,aM (p:=jO (a,b)) (fun h=>h.2.2.2.2 h5)];rfl
         · rw [eU h5,aT h1,aT h2,aT h3,aT h4,aT (p:=jO (a,b)) ⟨h1,h2,h3,h4,h5⟩];rfl
       · rw [aT h1,aT h2,aT h3,aM h4,aM (p:=jO (a,b)) (fun h=>h4 h.2.2.2.1)];rfl
     · rw [aT h1,aT h2,aM h3,aM (p:=jO (a,b)) (fun h=>h3 h.2.2.1)];rfl
   · rw [aT h1,aM h2,aM (p:=jO (a,b)) (fun h=>h2 h.2.1)];rfl
 · rw [aM h1,aM (p:=jO (a,b)) (fun h=>h1 h.1)];rfl
structure eS (c:aY):Prop where
 len:c.list.length<=200
 n0:0<=c.next_
 n1:c.next_<=1000000
 cv: ∀i,i<c.list.length->jO (c.list[i]!).2
 nr: ∀i,i<c.list.length->0<=(c.list[i]!).1/\(c.list[i]!).1<c.next_
 up: ∀i j,i<j->j<c.list.length->(c.list[i]!).1<(c.list[j]!).1
 nd: ∀i j,i<j->j<c.list.length->(c.list[i]!).2≠(c.list[j]!).2
def C2 (l:List tN) (i:Nat):Int:=if i=0 then -1 else (l[i-1]!).1
def VT (c:aY) (i:Nat):Prop:=jO (c.list[i]!).2/\(∀j,j<i->(c.list[j]!).2≠(c.list[i]!).2)/\C2 c.list i<(c.list[i]!).1/\(c.list[i]!).1<c.next_
theorem eS.iff {c:aY} (h1:c.list.length<=200) (h2:0<=c.next_) (h3:c.next_<=1000000):eS c↔ ∀i,i<c.list.length->VT c i:=by
 constructor
 · intro ok i hi
   refine ⟨ok.cv i hi,fun j hj=>ok.nd j i hj hi,?_,(ok.nr i hi).2⟩
   unfold C2;split
   · have:=(ok.nr i hi).1;omega
   · exact ok.up (i-1) i (by omega) hi
 · intro h
   have low: ∀i,i<c.list.length->0<=(c.list[i]!).1:=by
    intro i
    induction i with
    |zero=>
     intro hi
     have:=(h 0 hi).2.2.1
     unfold C2 at this;rw [if_pos rfl] at this;omega
    |succ i ih=>
     intro hi;have h1:=(h (i+1) hi).2.2.1;unfold C2 at h1;rw [if_neg (by omega),show i+1-1=i by omega] at h1
     have:=ih (by omega)
     omega
   have up: ∀i j,i<j->j<c.list.length->(c.list[i]!).1<(c.list[j]!).1:=by
    intro i j
    induction j with
    |zero=>intro h;omega
    |succ j ih=>
     intro hij hj;have h1:=(h (j+1) hj).2.2.1;unfold C2 at h1;rw [if_neg (by omega),show j+1-1=j by omega] at h1
     by_cases e:i=j
     · subst e;exact h1
     · have:=ih (by omega) (by omega)
       omega
   exact ⟨h1,h2,h3,fun i hi=>(h i hi).1,fun i hi=>⟨low i hi,(h i hi).2.2.2⟩,up,fun i j hij hj=>(h j hj).2.1 i hij⟩
theorem MU (l:List tN) (k:Nat) (a b:Int):pQ [a,b] ((l.take k).map fun x=>[x.2.1,x.2.2])=true:=by
 unfold pQ;rw [List.all_eq_true];intro x hx;obtain ⟨y,hy,rfl⟩:=List.mem_map.1 hx;rfl
theorem MV (l:List tN) (k:Nat) (x:Int×Int):JN ((l.take k).map fun y=>[y.2.1,y.2.2]) [x.1,x.2]=decide (∃j,j<k/\j<l.length/\(l[j]!).2=x):=by
 unfold JN;rw [Bool.eq_iff_iff,List.any_eq_true,decide_eq_true_iff];constructor
 · rintro ⟨y,hy,he⟩
   obtain ⟨z,hz,rfl⟩:=List.mem_map.1 hy;obtain ⟨j,h1,h2,rfl⟩:=dD.1 hz
   have:[x.1,x.2]=[(l[j]!).2.1,(l[j]!).2.2]:=by simpa using he
   injection this with e1 e2;injection e2 with e2 _;exact ⟨j,h1,h2,Prod.ext e1.symm e2.symm⟩
 · rintro ⟨j,h1,h2,h3⟩
   refine ⟨[(l[j]!).2.1,(l[j]!).2.2],List.mem_map.2 ⟨l[j]!,dD.2 ⟨j,h1,h2,rfl⟩,rfl⟩,?_⟩;rw [h3];simp
theorem yC (c:aY):qV c=some (if eS c then 0 else 8):=by
 unfold qV;simp only [aF]
 by_cases h1:200<c.list.length
 · rw [aT (show (200:Int)<(c.list.length:Int) by omega),if_neg (fun h=>by have:=h.len;omega)];rfl
 rw [aM (show¬(200:Int)<(c.list.length:Int) by omega)]
 by_cases h2:c.next_<0
 · rw [aT h2,if_neg (fun h=>by have:=h.n0;omega)];rfl
 rw [aM h2]
 by_cases h3:1000000<c.next_
 · rw [aT h3,if_neg (fun h=>by have:=h.n1;omega)];rfl
 rw [aM h3];simp only [cond_false];have key:=dN (body:=rX) (fun i=>(C2 c.list i,c.list,(c.list.length:Int),(i:Int),c.next_,c.list,(c.list.take i).map fun x=>[x.2.1,x.2.2])) c.list.length (fun i=> ¬VT c i) (r:=8) (e:=0) (fun i hi=>by
  have e1:decide ((i:Int)<(c.list.length:Int))=true:=aT (by omega)
  have has:RI ((c.list.take i).map fun x=>[x.2.1,x.2.2]) [(c.list[i]!).2.1,(c.list[i]!).2.2]=some (decide (∃j,j<i/\j<c.list.length/\(c.list[j]!).2=(c.list[i]!).2)):=by
   unfold RI;rw [MU,MV];rfl
  have nx:(c.list.take (i+1)).map (fun x=>[x.2.1,x.2.2])=((c.list.take i).map fun x=>[x.2.1,x.2.2])++[[(c.list[i]!).2.1,(c.list[i]!).2.2]]:=by
   rw [iX hi,List.map_append];rfl
  have ln:C2 c.list (i+1)=(c.list[i]!).1:=by unfold C2;rw [if_neg (by omega),show i+1-1=i by omega]
  unfold rX;simp only [e1,cond_true,aC c.list i hi,aB,EL,has,nx,ln,bG (show i<1000000000 by omega)]
  unfold VT
  by_cases b1:jO (c.list[i]!).2
  case neg=>
   rw [aM b1];exact ⟨fun _=>rfl,fun h=>absurd (Classical.not_not.1 h).1 b1⟩
  rw [aT b1]
  by_cases b2: ∃j,j<i/\j<c.list.length/\(c.list[j]!).2=(c.list[i]!).2
  · rw [aT b2]
    refine ⟨fun _=>rfl,fun h=>?_⟩
    obtain ⟨j,j1,j2,j3⟩:=b2;exact absurd j3 ((Classical.not_not.1 h).2.1 j j1)
  rw [aM b2];have b2': ∀j,j<i->(c.list[j]!).2≠(c.list[i]!).2:=fun j hj he=>b2 ⟨j,hj,by omega,he⟩
  by_cases b3:(c.list[i]!).1<=C2 c.list i
  · rw [aT b3]
    exact ⟨fun _=>rfl,fun h=>absurd (Classical.not_not.1 h).2.2.1 (by omega)⟩
  rw [aM b3]
  by_cases b4:c.next_<=(c.list[i]!).1
  · rw [aT b4]
    exact ⟨fun _=>rfl,fun h=>absurd (Classical.not_not.1 h).2.2.2 (by omega)⟩
  rw [aM b4];have ins:RJ ((c.list.take i).map fun x=>[x.2.1,x.2.2]) [(c.list[i]!).2.1,(c.list[i]!).2.2]=some (((c.list.take i).map fun x=>[x.2.1,x.2.2])++[[(c.list[i]!).2.1,(c.list[i]!).2.2]]):=by
   unfold RJ UI;rw [MU,MV,aM b2];rfl
  rw [ins];exact ⟨fun h=>absurd ⟨b1,b2',by omega,by omega⟩ h,fun _=>rfl⟩) (by
  unfold rX
  have:decide ((c.list.length:Int)<(c.list.length:Int))=false:=aM (by omega)
  simp only [this,cond_false])
 have h0:C2 c.list 0= -1:=rfl;rw [h0] at key
 by_cases ok:eS c
 · rw [if_pos ok]
   exact key.2 fun i hi=>Classical.not_not.2 ((eS.iff (by omega) (by omega) (by omega)).1 ok i hi)
 · rw [if_neg ok]
   rw [eS.iff (by omega) (by omega) (by omega)] at ok
   obtain ⟨i,h⟩:=Classical.not_forall.1 ok;obtain ⟨hi,hx⟩:=Classical.not_imp.1 h;exact key.1 ⟨i,hi,hx⟩
theorem TK (c:aY) (i:Nat) (hi:i<c.list.length) (hl:c.list.length<=200):
 ((∃j,j<i/\(c.list[j]!).2=(c.list[i]!).2)->aI fS ((i:Int),0,c.next_,c.list,c.list[i]!)=some (.done 8))/\
 ((∀j,j<i-> ¬(c.list[j]!).2=(c.list[i]!).2)->aI fS ((i:Int),0,c.next_,c.list,c.list[i]!)=some (.next (((i+1:Nat):Int),c.next_,c.list))):=by
 refine dN (body:=fS) (fun j=>((i:Int),(j:Int),c.next_,c.list,c.list[i]!)) i (fun j=>(c.list[j]!).2=(c.list[i]!).2) (r:= .done 8) (e:= .next (((i+1:Nat):Int),c.next_,c.list)) (fun j hj=>?_) ?_
 · have e1:decide ((j:Int)<(i:Int))=true:=aT (by omega)
   unfold fS;simp only [e1,cond_true,aC c.list j (by omega),aB,bG (show j<1000000000 by omega)]
   generalize c.list[j]! =x;generalize c.list[i]! =y;constructor
   · intro h;rw [gG (congrArg Prod.fst h),gG (congrArg Prod.snd h)];rfl
   · intro h
     by_cases h1:x.2.1=y.2.1
     · rw [gG h1,gA (fun h2=>h (Prod.ext h1 h2))];rfl
     · rw [gA h1];rfl
 · unfold fS
   have:decide ((i:Int)<(i:Int))=false:=aM (by omega)
   simp only [this,cond_false,bG (show i<1000000000 by omega)]
theorem C3 (c:aY):tF c=some (if eS c then 0 else 8):=by
 unfold tF;simp only [aF]
 by_cases h1:200<c.list.length
 · rw [aT (show (200:Int)<(c.list.length:Int) by omega),if_neg (fun h=>by have:=h.len;omega)];rfl
 rw [aM (show¬(200:Int)<(c.list.length:Int) by omega)]
 by_cases h2:c.next_<0
 · rw [aT h2,if_neg (fun h=>by have:=h.n0;omega)];rfl
 rw [aM h2]
 by_cases h3:1000000<c.next_
 · rw [aT h3,if_neg (fun h=>by have:=h.n1;omega)];rfl
 rw [aM h3];simp only [cond_false];have key:=dN (body:=pZ) (fun i=>((i:Int),c.next_,c.list)) c.list.length (fun i=> ¬(jO (c.list[i]!).2/\0<=(c.list[i]!).1/\(c.list[i]!).1<c.next_/\(0<i->(c.list[i-1]!).1<(c.list[i]!).1)/\ ∀j,j<i-> ¬(c.list[j]!).2=(c.list[i]!).2)) (r:=8) (e:=0) (fun i hi=>by
  have e1:decide ((i:Int)<(c.list.length:Int))=true:=aT (by omega)
  have l1:=TK c i hi (by omega)
  unfold pZ;simp only [aF,e1,cond_true,aC c.list i hi,aB,EM]
  by_cases b1:jO (c.list[i]!).2
  case neg=>
   rw [aM b1];exact ⟨fun _=>rfl,fun h=>absurd (Classical.not_not.1 h).1 b1⟩
  rw [aT b1]
  by_cases b2:(c.list[i]!).1<0
  · rw [aT b2]
    exact ⟨fun _=>rfl,fun h=>absurd (Classical.not_not.1 h).2.1 (by omega)⟩
  rw [aM b2]
  by_cases b3:c.next_<=(c.list[i]!).1
  · rw [aT b3]
    exact ⟨fun _=>rfl,fun h=>absurd (Classical.not_not.1 h).2.2.1 (by omega)⟩
  rw [aM b3];simp only [Bool.not_true,cond_false];have go:(0<i->(c.list[i-1]!).1<(c.list[i]!).1)->(¬(jO (c.list[i]!).2/\0<=(c.list[i]!).1/\(c.list[i]!).1<c.next_/\(0<i->(c.list[i-1]!).1<(c.list[i]!).1)/\ ∀j,j<i-> ¬(c.list[j]!).2=(c.list[i]!).2)->aI fS ((i:Int),0,c.next_,c.list,c.list[i]!)=some (.done 8))/\
   (¬¬(jO (c.list[i]!).2/\0<=(c.list[i]!).1/\(c.list[i]!).1<c.next_/\(0<i->(c.list[i-1]!).1<(c.list[i]!).1)/\ ∀j,j<i-> ¬(c.list[j]!).2=(c.list[i]!).2)->aI fS ((i:Int),0,c.next_,c.list,c.list[i]!)=some (.next (((i+1:Nat):Int),c.next_,c.list))):=by
   intro hp;constructor
   · intro h
     refine l1.1 (Classical.byContradiction fun hx=>h ⟨b1,by omega,by omega,hp,fun j hj he=>hx ⟨j,hj,he⟩⟩)
   · intro h
     exact l1.2 (Classical.not_not.1 h).2.2.2.2
  by_cases b4:0<i
  · have f1:decide ((0:Int)<(i:Int))=true:=aT (by omega)
    simp only [f1,cond_true,xE (show i<1000000000 by omega) b4,aC c.list (i-1) (by omega),aB]
    by_cases b5:(c.list[i]!).1<=(c.list[i-1]!).1
    · rw [aT b5]
      exact ⟨fun _=>rfl,fun h=>absurd ((Classical.not_not.1 h).2.2.2.1 b4) (by omega)⟩
    · rw [aM b5]
      exact go fun _=>by omega
  · have f1:decide ((0:Int)<(i:Int))=false:=aM (by omega)
    rw [f1];exact go fun h=>absurd h b4) (by
  unfold pZ
  have:decide ((c.list.length:Int)<(c.list.length:Int))=false:=aM (by omega)
  simp only [aF,this,cond_false])
 have same:eS c↔ ∀i,i<c.list.length->(jO (c.list[i]!).2/\0<=(c.list[i]!).1/\(c.list[i]!).1<c.next_/\(0<i->(c.list[i-1]!).1<(c.list[i]!).1)/\ ∀j,j<i-> ¬(c.list[j]!).2=(c.list[i]!).2):=by
  constructor
  · intro ok i hi
    exact ⟨ok.cv i hi,(ok.nr i hi).1,(ok.nr i hi).2,fun h=>ok.up (i-1) i (by omega) hi,fun j hj=>ok.nd j i hj hi⟩
  · intro h
    rw [eS.iff (by omega) (by omega) (by omega)]
    intro i hi;obtain ⟨a1,a2,a3,a4,a5⟩:=h i hi;refine ⟨a1,a5,?_,a3⟩;unfold C2;split
    · omega
    · exact a4 (by omega)
 by_cases ok:eS c
 · rw [if_pos ok]
   exact key.2 fun i hi=>Classical.not_not.2 (same.1 ok i hi)
 · rw [if_neg ok]
   rw [same] at ok;obtain ⟨i,h⟩:=Classical.not_forall.1 ok;obtain ⟨hi,hx⟩:=Classical.not_imp.1 h;exact key.1 ⟨i,hi,hx⟩
end Go.Proofs.YtfejhjllooomlaaGreat
namespace Go.Proofs.YtfejhjllooomlaaGreat
open Go.Vm Classical
def uW (l:List tN) (x:Int×Int):Prop:= ∃i,i<l.length/\(l[i]!).2=x
theorem MW (l:List tN) (x:Int×Int) (hl:l.length<=1000000):cC l x=some (decide (uW l x)):=by
 unfold cC fK;have key:=lI (body:=dG) (fun i=>(l,x.1,x.2,(l.length:Int),(i:Int))) l.length (fun i=>(l[i]!).2=x) (fun i=>(i:Int)) (e:= -1) (fun i hi=>by
  have e1:decide ((i:Int)<(l.length:Int))=true:=aT (by omega)
  unfold dG FA;simp only [e1,cond_true,aC l i hi,aB,bG (show i<1000000000 by omega)]
  generalize l[i]! =y;constructor
  · intro h;rw [gG (congrArg Prod.fst h),gG (congrArg Prod.snd h)];rfl
  · intro h
    by_cases h1:y.2.1=x.1
    · rw [gG h1,gA (fun h2=>h (Prod.ext h1 h2))];rfl
    · rw [gA h1];rfl) (by
  unfold dG
  have:decide ((l.length:Int)<(l.length:Int))=false:=aM (by omega)
  simp only [this,cond_false])
 rw [aF]
 by_cases hx:uW l x
 · obtain ⟨k,h1,h2,h3⟩:=I7 hx
   have:=key.1 k h1 h2 h3
   rw [show ((0:Nat):Int)=0 from rfl] at this;rw [this,aT hx];simp only [aB,aT (show (0:Int)<=(k:Int) by omega)]
 · have:=key.2 fun i hi he=>hx ⟨i,hi,he⟩
   rw [show ((0:Nat):Int)=0 from rfl] at this;rw [this,aM hx];rfl
theorem zE:eE=cC:=rfl
theorem A0 (c:aY) (x:Int×Int) (hl:c.list.length<=1000000):vA c x=some (decide (uW c.list x)):=by
 unfold vA;have key:=dN (body:=uU) (fun i=>((i:Int),c.next_,c.list,x)) c.list.length (fun i=>(c.list[i]!).2=x) (r:=true) (e:=false) (fun i hi=>by
  have e1:decide ((i:Int)<(c.list.length:Int))=true:=aT (by omega)
  unfold uU;simp only [aF,e1,cond_true,aC c.list i hi,aB,bG (show i<1000000000 by omega)]
  generalize c.list[i]! =y;constructor
  · intro h;rw [gG (congrArg Prod.fst h),gG (congrArg Prod.snd h)];rfl
  · intro h
    by_cases h1:y.2.1=x.1
    · rw [gG h1,gA (fun h2=>h (Prod.ext h1 h2))];rfl
    · rw [gA h1];rfl) (by
  unfold uU
  have:decide ((c.list.length:Int)<(c.list.length:Int))=false:=aM (by omega)
  simp only [aF,this,cond_false])
 by_cases hx:uW c.list x
 · rw [aT hx];exact key.1 hx
 · rw [aM hx];exact key.2 fun i hi he=>hx ⟨i,hi,he⟩
def oK (c:aY) (x:Int×Int):aY:=⟨c.next_+1,c.list++[(c.next_,x)]⟩
def EN (c:aY):Prop:=c.list.length=200\/c.next_=1000000
theorem TL {c:aY} (ok:eS c) {x:Int×Int} (hx:jO x):GO c x=some (if uW c.list x then (⟨0,[]⟩,0,14) else if EN c then (⟨0,[]⟩,0,18) else (oK c x,c.next_,0)):=by
 have:=ok.len;have:=ok.n0;have:=ok.n1
 unfold GO;rw [yC,if_pos ok,EL,aT hx,MW _ _ (by omega)]
 simp only [aB,show ((0:Int) !=0)=false from rfl,cond_false,Bool.not_true,aF]
 by_cases h1:uW c.list x
 · rw [aT h1,if_pos h1];rfl
 rw [aM h1,if_neg h1];unfold EN
 by_cases h2:c.list.length=200
 · rw [gG (show (c.list.length:Int)=200 by omega),if_pos (.inl h2)];rfl
 rw [gA (show¬(c.list.length:Int)=200 by omega)]
 by_cases h3:c.next_=1000000
 · rw [gG h3,if_pos (.inr h3)];rfl
 rw [gA h3,if_neg (by omega)]
 have e:aA .i64 (c.next_+1)=c.next_+1:=by rw [wi];omega
 simp only [cond_false,bK (show c.list.length<=1048576 by omega),aB,fF (show c.list.length+[(c.next_,x)].length<=1048576 by simp;omega),e]
 rfl
theorem QH {c:aY} (ok:eS c) {x:Int×Int} (hx:jO x):ID c x=some (if uW c.list x then (⟨0,[]⟩,0,14) else if EN c then (⟨0,[]⟩,0,18) else (oK c x,c.next_,0)):=by
 have:=ok.len;have:=ok.n0;have:=ok.n1
 unfold ID AQ;rw [C3,if_pos ok,EM,aT hx,A0 _ _ (by omega)]
 simp only [aB,show ((0:Int) !=0)=false from rfl,cond_false,Bool.not_true,aF]
 by_cases h1:uW c.list x
 · rw [aT h1,if_pos h1];rfl
 rw [aM h1,if_neg h1];unfold EN
 by_cases h2:c.list.length=200
 · rw [gG (show (c.list.length:Int)=200 by omega),if_pos (.inl h2)];rfl
 rw [gA (show¬(c.list.length:Int)=200 by omega)]
 by_cases h3:c.next_=1000000
 · rw [gG h3,if_pos (.inr h3)];rfl
 rw [gA h3,if_neg (by omega)]
 have e:aA .i64 (c.next_+1)=c.next_+1:=by rw [wi];omega
 simp only [cond_false,bK (show c.list.length<=1048576 by omega),aB,fF (show c.list.length+[(c.next_,x)].length<=1048576 by simp;omega),e]
 rfl
theorem vZ {c:aY} {x:Int×Int} {i:Nat}:(oK c x).list[i]! =if i<c.list.length then c.list[i]! else if i=c.list.length then (c.next_,x) else default:=by
 show (c.list++[(c.next_,x)])[i]! =_
 by_cases h:i<c.list.length
 · rw [if_pos h,gI h]
 · rw [if_neg h,kU (by omega)]
   by_cases e:i=c.list.length
   · rw [if_pos e,e,Nat.sub_self];rfl
   · rw [if_neg e,getElem!_neg _ _ (by simp;omega)]
theorem DZ {c:aY} {x:Int×Int}:(oK c x).list.length=c.list.length+1:=by
 show (c.list++[(c.next_,x)]).length=_;simp
theorem VU {c:aY} (ok:eS c) {x:Int×Int} (hx:jO x) (hn: ¬uW c.list x) (hf: ¬EN c):eS (oK c x):=by
 have h1:=ok.len;have h2:=ok.n0;have h3:=ok.n1;unfold EN at hf;refine ⟨by rw [DZ];omega,by show 0<=c.next_+1;omega,by show c.next_+1<=1000000;omega,?_,?_,?_,?_⟩
 · intro i hi
   rw [DZ] at hi;rw [vZ]
   by_cases h:i<c.list.length
   · rw [if_pos h];exact ok.cv i h
   · rw [if_neg h,if_pos (by omega)];exact hx
 · intro i hi
   rw [DZ] at hi;rw [vZ];show 0<=_/\_<c.next_+1
   by_cases h:i<c.list.length
   · rw [if_pos h];have:=ok.nr i h;omega
   · rw [if_neg h,if_pos (by omega)];dsimp only;omega
 · intro i j hij hj
   rw [DZ] at hj;rw [vZ,vZ,if_pos (by omega)]
   by_cases h:j<c.list.length
   · rw [if_pos h];exact ok.up i j hij h
   · rw [if_neg h,if_pos (by omega)]
     exact (ok.nr i (by omega)).2
 · intro i j hij hj
   rw [DZ] at hj;rw [vZ,vZ,if_pos (by omega)]
   by_cases h:j<c.list.length
   · rw [if_pos h];exact ok.nd i j hij h
   · rw [if_neg h,if_pos (by omega)]
     exact fun he=>hn ⟨i,by omega,he⟩
def nR (c:aY) (k:Nat):aY:=⟨c.next_,c.list.eraseIdx k⟩
theorem X1 {α:Type} {l:List α} {k:Nat} (hk:k<l.length):(l.eraseIdx k).length=l.length-1:=by
 rw [List.length_eraseIdx,if_pos hk]
theorem MX {c:aY} (ok:eS c) {k:Nat} (hk:k<c.list.length):eS (nR c k):=by
 have h1:=ok.len;have len:(nR c k).list.length=c.list.length-1:=X1 hk;have cell: ∀i,∃j,i<=j/\j<=i+1/\(i<c.list.length-1->j<c.list.length)/\(nR c k).list[i]! =c.list[j]!/\(i<k->j=i)/\(k<=i->j=i+1):=by
  intro i
  by_cases h:i<k
  · exact ⟨i,by omega,by omega,by omega,by show (c.list.eraseIdx k)[i]! =_;rw [MT,if_pos h],fun _=>rfl,by omega⟩
  · exact ⟨i+1,by omega,by omega,by omega,by show (c.list.eraseIdx k)[i]! =_;rw [MT,if_neg h],by omega,fun _=>rfl⟩
 refine ⟨by omega,ok.n0,ok.n1,?_,?_,?_,?_⟩
 · intro i hi
   obtain ⟨j,j1,j2,j3,j4,j5,j6⟩:=cell i;rw [j4];exact ok.cv j (j3 (by omega))
 · intro i hi
   obtain ⟨j,j1,j2,j3,j4,j5,j6⟩:=cell i;rw [j4];exact ok.nr j (j3 (by omega))
 · intro i i' hij hi
   obtain ⟨j,j1,j2,j3,j4,j5,j6⟩:=cell i;obtain ⟨m,m1,m2,m3,m4,m5,m6⟩:=cell i';rw [j4,m4];exact ok.up j m (by omega) (m3 (by omega))
 · intro i i' hij hi
   obtain ⟨j,j1,j2,j3,j4,j5,j6⟩:=cell i;obtain ⟨m,m1,m2,m3,m4,m5,m6⟩:=cell i';rw [j4,m4];exact ok.nd j m (by omega) (m3 (by omega))
theorem C4 {c:aY} (ok:eS c) {k:Nat} (hk:k<c.list.length) {n:Int} (hn:(c.list[k]!).1=n):wW c n=some (nR c k,(c.list[k]!).2,0):=by
 have h1:=ok.len;unfold wW IA;obtain ⟨L,d1,d2⟩:=C1 c.list k hk;rw [yC,if_pos ok,(J5 c.list n (by omega) ok.up).1 k hk hn]
 simp only [aB,show ((0:Int) !=0)=false from rfl,cond_false,Bool.not_true,bK (show c.list.length<=1048576 by omega),bG (show k<1000000000 by omega),d1,aC c.list k hk,d2]
 rfl
theorem QI {l:List tN} {k:Nat} (hk:k<l.length) (hs: ∀i j,i<j->j<l.length->(l[i]!).1<(l[j]!).1) {n:Int} (hn:(l[k]!).1=n):l.filter (fun x=>x.1 !=n)=l.eraseIdx k:=by
 rw [vY];have e:l.filter (fun x=>x.1 !=n)=(l.take k++l[k]!::l.drop (k+1)).filter (fun x=>x.1 !=n):=congrArg _ (aBA hk)
 rw [e,List.filter_append,List.filter_cons_of_neg (by rw [hn];simp)]
 congr 1
 · rw [List.filter_eq_self]
   intro x hx;obtain ⟨i,h1,h2,rfl⟩:=dD.1 hx
   have:=hs i k h1 hk
   exact eU (by omega)
 · rw [List.filter_eq_self]
   intro x hx;obtain ⟨i,h1,rfl⟩:=aU.1 hx;rw [List.length_drop] at h1;rw [vB]
   have:=hs k (k+1+i) (by omega) (by omega)
   exact eU (by omega)
theorem IM {c:aY} (ok:eS c) {k:Nat} (hk:k<c.list.length) {n:Int} (hn:(c.list[k]!).1=n):xV c n=some (nR c k):=by
 have h1:=ok.len;unfold xV;have key:=lH (body:=kT) (fun i=>(n,(i:Int),c.next_,c.list,0,c.next_,(c.list.take i).filter (fun x=>x.1 !=n))) c.list.length (fun i hi=>by
  have e1:decide ((i:Int)<(c.list.length:Int))=true:=aT (by omega)
  have nx:(c.list.take (i+1)).filter (fun x=>x.1 !=n)=(c.list.take i).filter (fun x=>x.1 !=n)++(if (c.list[i]!).1 !=n then [c.list[i]!] else []):=by
   rw [iX hi,List.filter_append,List.filter_cons,List.filter_nil]
  have fl:((c.list.take i).filter (fun x=>x.1 !=n)).length<=200:=Nat.le_trans (List.length_filter_le _ _) (by rw [List.length_take];omega)
  unfold kT;simp only [aF,e1,cond_true,aC c.list i hi,aB,bG (show i<1000000000 by omega),nx]
  by_cases h:(c.list[i]!).1=n
  · rw [cY h];simp
  · rw [eU h]
    simp only [cond_true,if_true,fF (show ((c.list.take i).filter (fun x=>x.1 !=n)).length+[c.list[i]!].length<=1048576 by simp only [List.length_cons,List.length_nil];omega),aB])
 have fin:kT (n,(c.list.length:Int),c.next_,c.list,0,c.next_,(c.list.take c.list.length).filter (fun x=>x.1 !=n))=some (.done (nR c k)):=by
  unfold kT
  have:decide ((c.list.length:Int)<(c.list.length:Int))=false:=aM (by omega)
  simp only [aF,this,cond_false,List.take_length];rw [QI hk ok.up hn];rfl
 refine Eq.trans ?_ (aK fin);exact key
end Go.Proofs.YtfejhjllooomlaaGreat
namespace Go.Proofs.YtfejhjllooomlaaGreat
open Go.Vm Classical
def nU (l:List Pt) (id:Int):Prop:= ∃k,k<l.length/\(l[k]!).1=id
noncomputable def dR (l:List Pt) (id:Int):Pt:=if h:nU l id then l[h.choose]! else (-1,0,0)
theorem A1 {l:List Pt} (hs:fT l) {k:Nat} (hk:k<l.length) {id:Int} (h:(l[k]!).1=id):dR l id=l[k]!:=by
 have hp:nU l id:=⟨k,hk,h⟩;unfold dR;rw [dif_pos hp]
 have:=hp.choose_spec
 rw [rL hs this.1 hk (by rw [this.2,h])]
theorem eA {l:List Pt} (ok:dH l) {id:Int} (h:nU l id):fX (dR l id)/\(dR l id).1=id:=by
 obtain ⟨k,hk,he⟩:=h;rw [A1 ok.2.2 hk he];exact ⟨ok.2.1 _ (bA hk),he⟩
theorem IN {l:List Pt} {id:Int} (h: ¬nU l id):dR l id=(-1,0,0):=by unfold dR;rw [dif_neg h]
theorem nD {l:List Pt} (ok:dH l) (id:Int):jM ⟨l⟩ id=some (dR l id):=by
 have h1:=ok.1;have bs:=J5 l id (by omega) (fun i j=>vC ok.2.2)
 unfold jM;dsimp only;rw [aBS]
 by_cases h:nU l id
 · obtain ⟨k,hk,he⟩:=h
   rw [bs.1 k hk he];simp only [aB,Bool.not_true,cond_false,aC l k hk,A1 ok.2.2 hk he]
 · obtain ⟨m,m1,m2,m3,e⟩:=bs.2 (fun k hk he=>h ⟨k,hk,he⟩)
   rw [e,IN h];rfl
theorem A2 {l:List Pt} (ok:dH l) {id:Int} (h:nU l id): ∃k,k<l.length/\gR ⟨l⟩ id=some (k:Int)/\l[k]! =dR l id:=by
 have h1:=ok.1;obtain ⟨k,hk,he⟩:=h;exact ⟨k,hk,ZH ok.2.2 (by omega) hk he,(A1 ok.2.2 hk he).symm⟩
theorem VV {l:List Pt} (ok:dH l) {id:Int} (h: ¬nU l id):gR ⟨l⟩ id=some (-1):=by
 have h1:=ok.1;exact aH6 (by omega) fun k hk he=>h ⟨k,hk,he⟩
def lX (l:List Pt) (x:Int×Int):Prop:=nU l x.1/\nU l x.2
noncomputable def bI (l:List Pt) (x t:Int×Int):(Int×Int)×Bool:=jY (dR l x.2) (dR l x.1) t
theorem yD {l:List Pt} (ok:dH l) {x t:Int×Int} (hx:jO x) (ht:bH t) (h64:mH t):
 qZ ⟨l⟩ x t=some (if lX l x then ((bI l x t).1,(bI l x t).2,0) else ((0,0),false,8)):=by
 unfold qZ;rw [nD ok,nD ok];simp only [aB,JR h64];have bad: ¬fX (-1,0,0):=by unfold fX;dsimp only;omega
 by_cases h1:nU l x.1
 · by_cases h2:nU l x.2
   · obtain ⟨p1,p2⟩:=eA ok h1
     obtain ⟨q1,q2⟩:=eA ok h2;rw [if_pos ⟨q1,p1,ht,by rw [p2,q2];exact fun h=>hx.2.2.2.2 h.symm⟩,if_pos ⟨h1,h2⟩]
     rfl
   · rw [IN h2,if_neg (fun h=>bad h.1),if_neg (fun h=>bad h.1),if_neg (fun h=>h2 h.2)]
 · rw [IN h1,if_neg (fun h=>bad h.2.1),if_neg (fun h=>bad h.2.1),if_neg (fun h=>h1 h.1)]
theorem yE {l:List Pt} (ok:dH l) {x t:Int×Int} (h64:mH t) (hb:lX l x):rD ⟨l⟩ x t=some (bI l x t):=by
 obtain ⟨h1,h2⟩:=hb;obtain ⟨j,j1,j2,j3⟩:=A2 ok h1;obtain ⟨k,k1,k2,k3⟩:=A2 ok h2;unfold rD;simp only [j2,k2,aB,aC l j j1,aC l k k1,j3,k3,VL (eA ok h2).1 (eA ok h1).1 h64];rfl
theorem aBT (c:aY) {l:List Pt} (ok:dH l) (hl:c.list.length<=200):wY c ⟨l⟩=some (decide (∀i,i<c.list.length->lX l (c.list[i]!).2)):=by
 unfold wY;have key:=dN (body:=qA) (fun i=>((i:Int),c.next_,c.list,l)) c.list.length (fun i=> ¬lX l (c.list[i]!).2) (r:=false) (e:=true) (fun i hi=>by
  have e1:decide ((i:Int)<(c.list.length:Int))=true:=aT (by omega)
  unfold qA lX;simp only [aF,e1,cond_true,aC c.list i hi,aB,bG (show i<1000000000 by omega)]
  by_cases h1:nU l (c.list[i]!).2.1
  · obtain ⟨k,k1,k2,_⟩:=A2 ok h1
    rw [k2];simp only [aB,aM (show¬(k:Int)<0 by omega),cond_false]
    by_cases h2:nU l (c.list[i]!).2.2
    · obtain ⟨j,j1,j2,_⟩:=A2 ok h2
      rw [j2];simp only [aB,aM (show¬(j:Int)<0 by omega),cond_false]
      exact ⟨fun h=>absurd ⟨h1,h2⟩ h,fun _=>trivial⟩
    · rw [VV ok h2]
      exact ⟨fun _=>rfl,fun h=>absurd (Classical.not_not.1 h).2 h2⟩
  · rw [VV ok h1]
    exact ⟨fun _=>rfl,fun h=>absurd (Classical.not_not.1 h).1 h1⟩) (by
  unfold qA
  have:decide ((c.list.length:Int)<(c.list.length:Int))=false:=aM (by omega)
  simp only [aF,this,cond_false])
 by_cases hx: ∀i,i<c.list.length->lX l (c.list[i]!).2
 · rw [aT hx];exact key.2 fun i hi=>Classical.not_not.2 (hx i hi)
 · rw [aM hx]
   obtain ⟨i,h⟩:=Classical.not_forall.1 hx;obtain ⟨hi,hx⟩:=Classical.not_imp.1 h;exact key.1 ⟨i,hi,hx⟩
def aX (l:List Pt) (t:Int×Int) (H:List Ev):List tN->List tN->Prop
 | [],ds=>ds=[]
 |x::cs,ds=>((bI l x.2 t).2=true-> ∃d ds',ds=d::ds'/\d.1=x.1/\((bI l x.2 t).1.1,(bI l x.2 t).1.2,x.1,d.2)∈H/\aX l t H cs ds')/\((bI l x.2 t).2=false->aX l t H cs ds)
structure bB (c:aH):Prop where
 nowv:bH c.now
 now64:mH c.now
 fld:dH c.field.points
 crt:eS c.certs
 agd:eQ c.agenda
 w200:c.agenda.where_.length=200
 hd:c.agenda.heap.length=c.due.length
 known: ∀i,i<c.certs.list.length->lX c.field.points (c.certs.list[i]!).2
 fol:aX c.field.points c.now c.agenda.heap c.certs.list c.due
structure wB (c:aH):Prop where
 now64:mH c.now
 ag:CY c.agenda
 du:c.due.length<=1000000
theorem aI0 {a:aG} (ok:eQ a) (w2:a.where_.length=200) (t:Int×Int) (n:Int) (h:Int×Int):
 (0<=h.1/\h.1<200/\0<=a.where_[h.1.toNat]!/\a.heap[(a.where_[h.1.toNat]!).toNat]! =(t.1,t.2,n,h))↔((t.1,t.2,n,h):Ev)∈a.heap:=by
 have wl:=ok.wl;have hu:=ok.so.ul;constructor
 · rintro ⟨h1,h2,h3,h4⟩
   cases hb:a.slots.used[h.1.toNat]! with
   |false=>
    have:=ok.un h.1.toNat (by omega) hb
    omega
   |true=>
    have:=ok.fwd h.1.toNat (by omega) hb
    rw [<- h4];exact bA (by omega)
 · intro hm
   obtain ⟨w,hw,he⟩:=aU.1 hm;obtain ⟨b1,b2,b3,b4,b5⟩:=ok.back hw;have e:Ev.ix a.heap[w]! =h.1:=by rw [he]
   have e2:Ev.n a.heap[w]! =h.1.toNat:=by rw [he]
   rw [e] at b1 b2;rw [e2] at b5;refine ⟨b1,by omega,by omega,?_⟩
   rw [b5,Int.toNat_natCast,he]
theorem aBU {a:aG} (ok:eQ a) {i:Nat} (hi:i<a.slots.uses.length) (h:0<=a.where_[i]!):a.where_[i]!<a.heap.length:=by
 cases hb:a.slots.used[i]! with
 |false=>have:=ok.un i hi hb;omega
 |true=>exact (ok.fwd i hi hb).2.1
theorem rQ {α:Type} [Inhabited α] {l:List α} {i:Nat} (h:i<l.length):l.drop i=l[i]!::l.drop (i+1):=by
 rw [getElem!_pos l i h];exact List.drop_eq_getElem_cons h
theorem TM {c:aH} (nowv:bH c.now) (now64:mH c.now) (fld:dH c.field.points) (crt:eS c.certs) (agd:eQ c.agenda) (w2:c.agenda.where_.length=200):
 ∀(d i:Nat) (ds:List tN),c.certs.list.length-i<=d->i<=c.certs.list.length->ds.length<=1000000->
  aI cO (ds,c.certs.list,(c.certs.list.length:Int),(i:Int),c.now.1,c.now.2,c.field.points,c.certs.next_,c.certs.list,c.agenda.slots.uses,c.agenda.slots.used,c.agenda.slots.free,c.agenda.heap,c.agenda.where_,c.due)=
   some (.done (if (∀j,i<=j->j<c.certs.list.length->lX c.field.points (c.certs.list[j]!).2)/\aX c.field.points c.now c.agenda.heap (c.certs.list.drop i) ds then 0 else 8)):=by
 have hl:=crt.len;have wl:=agd.wl;have fin: ∀(ds:List tN),aI cO (ds,c.certs.list,(c.certs.list.length:Int),(c.certs.list.length:Int),c.now.1,c.now.2,c.field.points,c.certs.next_,c.certs.list,c.agenda.slots.uses,c.agenda.slots.used,c.agenda.slots.free,c.agenda.heap,c.agenda.where_,c.due)=some (.done (if ds=[] then 0 else 8)):=by
  intro ds;refine aK ?_;unfold cO;have e1:decide ((c.certs.list.length:Int)<(c.certs.list.length:Int))=false:=aM (by omega)
  simp only [aF,e1,cond_false];cases ds with
  |nil=>rw [aM (by simp),if_pos rfl];rfl
  |cons d ds=>rw [aT (by simp),if_neg (by simp)];rfl
 intro d
 induction d with
 |zero=>
  intro i ds hd hi hds
  have:i=c.certs.list.length:=by omega
  subst this;rw [fin ds,List.drop_length]
  have:((∀j,c.certs.list.length<=j->j<c.certs.list.length->lX c.field.points (c.certs.list[j]!).2)/\aX c.field.points c.now c.agenda.heap [] ds)↔ds=[]:=⟨fun h=>h.2,fun h=>⟨fun j h1 h2=>by omega,h⟩⟩
  by_cases h:ds=[]
  · rw [if_pos h,if_pos (this.2 h)]
  · rw [if_neg h,if_neg (fun k=>h (this.1 k))]
 |succ d ih=>
  intro i ds hd hi hds
  by_cases he:i=c.certs.list.length
  · subst he
    rw [fin ds,List.drop_length]
    have:((∀j,c.certs.list.length<=j->j<c.certs.list.length->lX c.field.points (c.certs.list[j]!).2)/\aX c.field.points c.now c.agenda.heap [] ds)↔ds=[]:=⟨fun h=>h.2,fun h=>⟨fun j h1 h2=>by omega,h⟩⟩
    by_cases h:ds=[]
    · rw [if_pos h,if_pos (this.2 h)]
    · rw [if_neg h,if_neg (fun k=>h (this.1 k))]
  have hi':i<c.certs.list.length:=by omega
  have e1:decide ((i:Int)<(c.certs.list.length:Int))=true:=aT (by omega)
  have hw:=yD fld (x:=(c.certs.list[i]!).2) (t:=(c.now.1,c.now.2)) (crt.cv i hi') nowv now64;have dr:=rQ hi';have all:(∀j,i<=j->j<c.certs.list.length->lX c.field.points (c.certs.list[j]!).2)↔(lX c.field.points (c.certs.list[i]!).2/\ ∀j,i+1<=j->j<c.certs.list.length->lX c.field.points (c.certs.list[j]!).2):=by
   constructor
   · intro h;exact ⟨h i (Nat.le_refl _) hi',fun j h1 h2=>h j (by omega) h2⟩
   · rintro ⟨h1,h2⟩ j h3 h4
     by_cases e:j=i
     · rw [e];exact h1
     · exact h2 j (by omega) h4
  have sc:=bG (show i<1000000000 by omega)
  by_cases hb:lX c.field.points (c.certs.list[i]!).2
  case neg=>
   rw [if_neg (fun h=>hb (all.1 h.1).1)]
   refine aK ?_;unfold cO;simp only [e1,cond_true,aC c.certs.list i hi',aB,hw,if_neg hb];rfl
  rw [if_pos hb] at hw
  by_cases is:(bI c.field.points (c.certs.list[i]!).2 c.now).2=true
  case neg=>
   have is':(bI c.field.points (c.certs.list[i]!).2 c.now).2=false:=by simpa using is
   rw [aZ (y:=(ds,c.certs.list,(c.certs.list.length:Int),((i+1:Nat):Int),c.now.1,c.now.2,c.field.points,c.certs.next_,c.certs.list,c.agenda.slots.uses,c.agenda.slots.used,c.agenda.slots.free,c.agenda.heap,c.agenda.where_,c.due)) (by
    unfold cO;simp only [e1,cond_true,aC c.certs.list i hi',aB,hw,sc,is',show ((0:Int) !=0)=false from rfl,cond_false,Bool.not_false]),ih (i+1) ds (by omega) (by omega) hds]
   have same:((∀j,i<=j->j<c.certs.list.length->lX c.field.points (c.certs.list[j]!).2)/\aX c.field.points c.now c.agenda.heap (c.certs.list.drop i) ds)↔((∀j,i+1<=j->j<c.certs.list.length->lX c.field.points (c.certs.list[j]!).2)/\aX c.field.points c.now c.agenda.heap (c.certs.list.drop (i+1)) ds):=by
    rw [dr,all];constructor
    · rintro ⟨⟨_,h1⟩,h2⟩;exact ⟨h1,h2.2 is'⟩
    · rintro ⟨h1,h2⟩;exact ⟨⟨hb,h1⟩,fun h=>absurd h is,fun _=>h2⟩
   simp only [same]
  have stop:(¬((∀j,i<=j->j<c.certs.list.length->lX c.field.points (c.certs.list[j]!).2)/\aX c.field.points c.now c.agenda.heap (c.certs.list.drop i) ds))->cO (ds,c.certs.list,(c.certs.list.length:Int),(i:Int),c.now.1,c.now.2,c.field.points,c.certs.next_,c.certs.list,c.agenda.slots.uses,c.agenda.slots.used,c.agenda.slots.free,c.agenda.heap,c.agenda.where_,c.due)=some (.done (.done 8))->aI cO (ds,c.certs.list,(c.certs.list.length:Int),(i:Int),c.now.1,c.now.2,c.field.points,c.certs.next_,c.certs.list,c.agenda.slots.uses,c.agenda.slots.used,c.agenda.slots.free,c.agenda.heap,c.agenda.where_,c.due)=
   some (.done (if (∀j,i<=j->j<c.certs.list.length->lX c.field.points (c.certs.list[j]!).2)/\aX c.field.points c.now c.agenda.heap (c.certs.list.drop i) ds then 0 else 8)):=by
   intro h1 h2;rw [if_neg h1];exact aK h2
  cases ds with
  |nil=>
   refine stop (fun h=>?_) ?_
   · rw [dr] at h
     obtain ⟨d,ds',h1,_⟩:=h.2.1 is;cases h1
   · unfold cO
     simp only [e1,cond_true,aC c.certs.list i hi',aB,hw,is,show ((0:Int) !=0)=false from rfl,cond_false,Bool.not_true];rfl
  |cons d0 ds=>
   have l0:((((d0::ds).length:Nat):Int)==0)=false:=gA (by simp;omega)
   have g0:aL (d0::ds) 0=some d0:=rfl
   have fol: ∀P:Prop,(P↔d0.1=(c.certs.list[i]!).1/\(((bI c.field.points (c.certs.list[i]!).2 c.now).1.1,(bI c.field.points (c.certs.list[i]!).2 c.now).1.2,(c.certs.list[i]!).1,d0.2):Ev)∈c.agenda.heap)-> ¬P-> ¬((∀j,i<=j->j<c.certs.list.length->lX c.field.points (c.certs.list[j]!).2)/\aX c.field.points c.now c.agenda.heap (c.certs.list.drop i) (d0::ds)):=by
    intro P hP hn h;rw [dr] at h;obtain ⟨d,ds',h1,h2,h3,_⟩:=h.2.1 is;injection h1 with h1 _;subst h1;exact hn (hP.2 ⟨h2,h3⟩)
   by_cases b1:d0.1=(c.certs.list[i]!).1
   case neg=>
    refine stop (fol (d0.1=(c.certs.list[i]!).1/\_) Iff.rfl (fun h=>b1 h.1)) ?_
    unfold cO;simp only [aF,e1,cond_true,aC c.certs.list i hi',aB,hw,is,show ((0:Int) !=0)=false from rfl,cond_false,Bool.not_true,l0,g0,eU b1]
   have ea:=aI0 agd w2 (bI c.field.points (c.certs.list[i]!).2 c.now).1 (c.certs.list[i]!).1 d0.2
   by_cases b2:d0.2.1<0
   · refine stop (fol (d0.1=(c.certs.list[i]!).1/\_) Iff.rfl (fun h=>by have:=(ea.2 h.2).1;omega)) ?_
     unfold cO;simp only [aF,e1,cond_true,aC c.certs.list i hi',aB,hw,is,show ((0:Int) !=0)=false from rfl,cond_false,Bool.not_true,l0,g0,cY b1,aT b2]
   by_cases b3:200<=d0.2.1
   · refine stop (fol (d0.1=(c.certs.list[i]!).1/\_) Iff.rfl (fun h=>by have:=(ea.2 h.2).2.1;omega)) ?_
     unfold cO;simp only [aF,e1,cond_true,aC c.certs.list i hi',aB,hw,is,show ((0:Int) !=0)=false from rfl,cond_false,Bool.not_true,l0,g0,cY b1,aM b2,aT b3]
   have gw:=dT (l:=c.agenda.where_) (i:=d0.2.1) (by omega) (by omega)
   by_cases b4:c.agenda.where_[d0.2.1.toNat]!<0
   · refine stop (fol (d0.1=(c.certs.list[i]!).1/\_) Iff.rfl (fun h=>by have:=(ea.2 h.2).2.2.1;omega)) ?_
     unfold cO;simp only [aF,e1,cond_true,aC c.certs.list i hi',aB,hw,is,show ((0:Int) !=0)=false from rfl,cond_false,Bool.not_true,l0,g0,cY b1,aM b2,aM b3,gw,aT b4]
   have gh:=dT (l:=c.agenda.heap) (i:=c.agenda.where_[d0.2.1.toNat]!) (by omega) (aBU agd (by omega) (by omega))
   have sl:jT (d0::ds) 1 ((((d0::ds).length:Nat):Int))=some ds:=by
    unfold jT;rw [if_pos ⟨by omega,by simp;omega,by omega⟩]
    simp
   have evq: ∀(e:Ev) (p:Int×Int) (n:Int) (h:Int×Int),((e.1==p.1)&&((e.2.1==p.2)&&((e.2.2.1==n)&&((e.2.2.2.1==h.1)&&(e.2.2.2.2==h.2)))))=decide (e=(p.1,p.2,n,h)):=by
    intro e p n h;rw [Bool.eq_iff_iff,decide_eq_true_iff];simp only [Bool.and_eq_true,beq_iff_eq];constructor
    · rintro ⟨h1,h2,h3,h4,h5⟩
      exact Prod.ext h1 (Prod.ext h2 (Prod.ext h3 (Prod.ext h4 h5)))
    · intro h;rw [h];exact ⟨rfl,rfl,rfl,rfl,rfl⟩
   have evq':=evq c.agenda.heap[(c.agenda.where_[d0.2.1.toNat]!).toNat]! (bI c.field.points (c.certs.list[i]!).2 c.now).1 (c.certs.list[i]!).1 d0.2
   by_cases b5:c.agenda.heap[(c.agenda.where_[d0.2.1.toNat]!).toNat]! =((bI c.field.points (c.certs.list[i]!).2 c.now).1.1,(bI c.field.points (c.certs.list[i]!).2 c.now).1.2,(c.certs.list[i]!).1,d0.2)
   case neg=>
    refine stop (fol (d0.1=(c.certs.list[i]!).1/\_) Iff.rfl (fun h=>b5 (ea.2 h.2).2.2.2)) ?_
    unfold cO;simp only [aF,e1,cond_true,aC c.certs.list i hi',aB,hw,is,show ((0:Int) !=0)=false from rfl,cond_false,Bool.not_true,l0,g0,cY b1,aM b2,aM b3,gw,aM b4,gh];rw [evq',aM b5];rfl
   have hmem:=ea.1 ⟨by omega,by omega,by omega,b5⟩
   rw [aZ (y:=(ds,c.certs.list,(c.certs.list.length:Int),((i+1:Nat):Int),c.now.1,c.now.2,c.field.points,c.certs.next_,c.certs.list,c.agenda.slots.uses,c.agenda.slots.used,c.agenda.slots.free,c.agenda.heap,c.agenda.where_,c.due)) (by
    unfold cO;simp only [aF,e1,cond_true,aC c.certs.list i hi',aB,hw,is,show ((0:Int) !=0)=false from rfl,cond_false,Bool.not_true,l0,g0,cY b1,aM b2,aM b3,gw,aM b4,gh,sl,sc];rw [evq',aT b5]
    rfl),ih (i+1) ds (by omega) (by omega) (by simp at hds;omega)]
   have same:((∀j,i<=j->j<c.certs.list.length->lX c.field.points (c.certs.list[j]!).2)/\aX c.field.points c.now c.agenda.heap (c.certs.list.drop i) (d0::ds))↔((∀j,i+1<=j->j<c.certs.list.length->lX c.field.points (c.certs.list[j]!).2)/\aX c.field.points c.now c.agenda.heap (c.certs.list.drop (i+1)) ds):=by
    rw [dr,all];constructor
    · rintro ⟨⟨_,h1⟩,h2⟩
      obtain ⟨d,ds',k1,k2,k3,k4⟩:=h2.1 is;injection k1 with k1 k5;subst k5;exact ⟨h1,k4⟩
    · rintro ⟨h1,h2⟩
      exact ⟨⟨hb,h1⟩,fun _=>⟨d0,ds,rfl,b1,hmem,h2⟩,fun h=>by rw [is] at h;cases h⟩
   simp only [same]
end Go.Proofs.YtfejhjllooomlaaGreat
namespace Go.Proofs.YtfejhjllooomlaaGreat
open Go.Vm Classical
theorem bB.iff {c:aH} (fit:wB c):bB c↔bH c.now/\dH c.field.points/\eS c.certs/\eQ c.agenda/\c.agenda.where_.length=200/\c.agenda.heap.length=c.due.length/\(∀i,i<c.certs.list.length->lX c.field.points (c.certs.list[i]!).2)/\aX c.field.points c.now c.agenda.heap c.certs.list c.due:=
 ⟨fun h=>⟨h.nowv,h.fld,h.crt,h.agd,h.w200,h.hd,h.known,h.fol⟩,fun ⟨h1,h2,h3,h4,h5,h6,h7,h8⟩=>⟨h1,fit.now64,h2,h3,h4,h5,h6,h7,h8⟩⟩
theorem bB.fit {c:aH} (ok:bB c):wB c:=⟨ok.now64,ok.agd.fit,by have:=ok.hd;have:=ok.agd.bd;omega⟩
theorem TN {c:aH} {n0 n1 n2 n3:Int}:
 aI fA (4,0,c.now.1,c.now.2,c.field.points,c.certs.next_,c.certs.list,c.agenda.slots.uses,c.agenda.slots.used,c.agenda.slots.free,c.agenda.heap,c.agenda.where_,c.due,[n0,n1,n2,n3])=
  if n0=0/\n1=0/\n2=0/\n3=0 then aI fA (4,4,c.now.1,c.now.2,c.field.points,c.certs.next_,c.certs.list,c.agenda.slots.uses,c.agenda.slots.used,c.agenda.slots.free,c.agenda.heap,c.agenda.where_,c.due,[n0,n1,n2,n3]) else some 8:=by
 have st: ∀(i:Nat) (n:Int),i<4->aL [n0,n1,n2,n3] (i:Int)=some n->aI fA (4,(i:Int),c.now.1,c.now.2,c.field.points,c.certs.next_,c.certs.list,c.agenda.slots.uses,c.agenda.slots.used,c.agenda.slots.free,c.agenda.heap,c.agenda.where_,c.due,[n0,n1,n2,n3])=
  if n=0 then aI fA (4,((i+1:Nat):Int),c.now.1,c.now.2,c.field.points,c.certs.next_,c.certs.list,c.agenda.slots.uses,c.agenda.slots.used,c.agenda.slots.free,c.agenda.heap,c.agenda.where_,c.due,[n0,n1,n2,n3]) else some 8:=by
  intro i n hi hg;have e1:decide ((i:Int)<4)=true:=aT (by omega)
  by_cases h:n=0
  · rw [if_pos h]
    refine aZ ?_;unfold fA;simp only [e1,cond_true,hg,aB,cY h,cond_false,bG (show i<1000000000 by omega)]
  · rw [if_neg h]
    refine aK ?_;unfold fA;simp only [e1,cond_true,hg,aB,eU h]
 have s0:=st 0 n0 (by omega) rfl
 have s1:=st 1 n1 (by omega) rfl
 have s2:=st 2 n2 (by omega) rfl
 have s3:=st 3 n3 (by omega) rfl
 have c0:((0:Nat):Int)=0:=rfl;have c4:((3+1:Nat):Int)=4:=rfl;rw [c0] at s0;rw [c4] at s3;rw [s0]
 by_cases h0:n0=0
 · rw [if_pos h0,show ((0+1:Nat):Int)=((1:Nat):Int) from rfl,s1]
   by_cases h1:n1=0
   · rw [if_pos h1,show ((1+1:Nat):Int)=((2:Nat):Int) from rfl,s2]
     by_cases h2:n2=0
     · rw [if_pos h2,show ((2+1:Nat):Int)=((3:Nat):Int) from rfl,s3]
       by_cases h3:n3=0
       · rw [if_pos h3,if_pos ⟨h0,h1,h2,h3⟩]
       · rw [if_neg h3,if_neg (fun h=>h3 h.2.2.2)]
     · rw [if_neg h2,if_neg (fun h=>h2 h.2.2.1)]
   · rw [if_neg h1,if_neg (fun h=>h1 h.2.1)]
 · rw [if_neg h0,if_neg (fun h=>h0 h.1)]
theorem nE {c:aH} (fit:wB c):iJ c=some (if bB c then 0 else 8):=by
 unfold iJ;rw [dV fit.now64,nB,yC,jE _ fit.ag];simp only [aB];have h4:Int.ofNat [if bH c.now then (0:Int) else 8,kX c.field.points,if eS c.certs then (0:Int) else 8,if eQ c.agenda then (0:Int) else 8].length=4:=rfl
 rw [h4,TN];have z: ∀(p:Prop) [Decidable p],(if p then (0:Int) else 8)=0↔p:=fun p _=>by by_cases h:p<;>simp [h]
 simp only [z,jN];have f1:=bB.iff fit
 by_cases ok:bH c.now/\dH c.field.points/\eS c.certs/\eQ c.agenda
 case neg=>rw [if_neg ok,if_neg (c:=bB c) (fun h=>ok ⟨h.nowv,h.fld,h.crt,h.agd⟩)]
 obtain ⟨nowv,fld,crt,agd⟩:=ok;rw [if_pos ⟨nowv,fld,crt,agd⟩]
 by_cases w2:c.agenda.where_.length=200
 case neg=>
  rw [if_neg (c:=bB c) (fun h=>w2 h.w200)]
  refine aK ?_;unfold fA;simp only [aF,aM (show¬(4:Int)<4 by omega),cond_false,eU (show¬(c.agenda.where_.length:Int)=200 by omega),cond_true]
 by_cases hd:c.agenda.heap.length=c.due.length
 case neg=>
  rw [if_neg (c:=bB c) (fun h=>hd h.hd)]
  refine aK ?_;unfold fA;simp only [aF,aM (show¬(4:Int)<4 by omega),cond_false,cY (show (c.agenda.where_.length:Int)=200 by omega),eU (show¬(c.agenda.heap.length:Int)=(c.due.length:Int) by omega),cond_true]
 have run:=TM nowv fit.now64 fld crt agd w2 c.certs.list.length 0 c.due (by omega) (by omega) fit.du
 rw [List.drop_zero] at run;have same:((∀j,0<=j->j<c.certs.list.length->lX c.field.points (c.certs.list[j]!).2)/\aX c.field.points c.now c.agenda.heap c.certs.list c.due)↔bB c:=by
  rw [f1];constructor
  · rintro ⟨h1,h2⟩;exact ⟨nowv,fld,crt,agd,w2,hd,fun i hi=>h1 i (by omega) hi,h2⟩
  · rintro ⟨_,_,_,_,_,_,h1,h2⟩;exact ⟨fun j _ hj=>h1 j hj,h2⟩
 simp only [same] at run;refine aK ?_;unfold fA;simp only [aF,aM (show¬(4:Int)<4 by omega),cond_false,cY (show (c.agenda.where_.length:Int)=200 by omega),cY (show (c.agenda.heap.length:Int)=(c.due.length:Int) by omega)]
 exact run
theorem aH9 {a:aG} (ok:eQ a) (h:Int×Int):vR a h=some (if xF a.slots h then (a.heap[(a.where_[h.1.toNat]!).toNat]!,0) else ((0,0,0,0,0),6)):=by
 unfold vR;rw [CZ a ok.fit,if_pos ok,XY ok.so];simp only [aB,show ((0:Int) !=0)=false from rfl,cond_false]
 by_cases lv:xF a.slots h
 · obtain ⟨i,hi,hw,hh⟩:=ok.live lv
   have:=lv.1;have:=lv.2.1;have:=ok.wl
   rw [aT lv,if_pos lv,dT (l:=a.where_) lv.1 (by omega),hw]
   simp only [Bool.not_true,cond_false,aB,aC a.heap i hi,Int.toNat_natCast]
 · rw [aM lv,if_neg lv];rfl
theorem TO {c:aH} (now64:mH c.now) (fld:dH c.field.points) (crt:eS c.certs) (agd:eQ c.agenda) (w2:c.agenda.where_.length=200) (hdu:c.due.length<=1000000)
 (kn: ∀i,i<c.certs.list.length->lX c.field.points (c.certs.list[i]!).2):
 ∀(d i k:Nat),c.certs.list.length-i<=d->i<=c.certs.list.length->k<=c.due.length->
  aI dM ((k:Int),(i:Int),c.now.1,c.now.2,c.field.points,c.certs.next_,c.certs.list,c.agenda.slots.uses,c.agenda.slots.used,c.agenda.slots.free,c.agenda.heap,c.agenda.where_,c.due)=
   some (if aX c.field.points c.now c.agenda.heap (c.certs.list.drop i) (c.due.drop k) then 0 else 8):=by
 have hl:=crt.len;have wl:=agd.wl
 have fin: ∀k:Nat,k<=c.due.length->aI dM ((k:Int),(c.certs.list.length:Int),c.now.1,c.now.2,c.field.points,c.certs.next_,c.certs.list,c.agenda.slots.uses,c.agenda.slots.used,c.agenda.slots.free,c.agenda.heap,c.agenda.where_,c.due)=some (if aX c.field.points c.now c.agenda.heap (c.certs.list.drop c.certs.list.length) (c.due.drop k) then 0 else 8):=by
  intro k hk;rw [List.drop_length];refine aK ?_;unfold dM;have e1:decide ((c.certs.list.length:Int)<(c.certs.list.length:Int))=false:=aM (by omega)
  simp only [aF,e1,cond_false]
  have:aX c.field.points c.now c.agenda.heap [] (c.due.drop k)↔k=c.due.length:=by
   show c.due.drop k=[]↔_;rw [List.drop_eq_nil_iff];omega
  by_cases h:k=c.due.length
  · rw [if_pos (this.2 h),cY (by omega)];rfl
  · rw [if_neg (fun x=>h (this.1 x)),eU (by omega)];rfl
 intro d
 induction d with
 |zero=>
  intro i k hd hi hk
  have:i=c.certs.list.length:=by omega
  subst this;exact fin k hk
 |succ d ih=>
  intro i k hd hi hk
  by_cases he:i=c.certs.list.length
  · subst he;exact fin k hk
  have hi':i<c.certs.list.length:=by omega
  have e1:decide ((i:Int)<(c.certs.list.length:Int))=true:=aT (by omega)
  have hw:=yE fld (x:=(c.certs.list[i]!).2) (t:=(c.now.1,c.now.2)) now64 (kn i hi');have dr:=rQ hi';have sc:=bG (show i<1000000000 by omega)
  have sk:=bG (show k<1000000000 by omega)
  by_cases is:(bI c.field.points (c.certs.list[i]!).2 c.now).2=true
  case neg=>
   have is':(bI c.field.points (c.certs.list[i]!).2 c.now).2=false:=by simpa using is
   rw [aZ (y:=((k:Int),((i+1:Nat):Int),c.now.1,c.now.2,c.field.points,c.certs.next_,c.certs.list,c.agenda.slots.uses,c.agenda.slots.used,c.agenda.slots.free,c.agenda.heap,c.agenda.where_,c.due)) (by
    unfold dM;simp only [aF,e1,cond_true,aC c.certs.list i hi',aB,hw,sc,is',Bool.not_false]),ih (i+1) k (by omega) (by omega) hk]
   have same:aX c.field.points c.now c.agenda.heap (c.certs.list.drop i) (c.due.drop k)↔aX c.field.points c.now c.agenda.heap (c.certs.list.drop (i+1)) (c.due.drop k):=by
    rw [dr];exact ⟨fun h=>h.2 is',fun h=>⟨fun h'=>absurd h' is,fun _=>h⟩⟩
   simp only [same]
  have stop:(¬aX c.field.points c.now c.agenda.heap (c.certs.list.drop i) (c.due.drop k))->dM ((k:Int),(i:Int),c.now.1,c.now.2,c.field.points,c.certs.next_,c.certs.list,c.agenda.slots.uses,c.agenda.slots.used,c.agenda.slots.free,c.agenda.heap,c.agenda.where_,c.due)=some (.done 8)->
   aI dM ((k:Int),(i:Int),c.now.1,c.now.2,c.field.points,c.certs.next_,c.certs.list,c.agenda.slots.uses,c.agenda.slots.used,c.agenda.slots.free,c.agenda.heap,c.agenda.where_,c.due)=some (if aX c.field.points c.now c.agenda.heap (c.certs.list.drop i) (c.due.drop k) then 0 else 8):=by
   intro h1 h2;rw [if_neg h1];exact aK h2
  by_cases hkl:k=c.due.length
  · refine stop (fun h=>?_) ?_
    · rw [dr] at h
      obtain ⟨d,ds',h1,_⟩:=h.1 is;rw [hkl,List.drop_length] at h1;cases h1
    · unfold dM
      simp only [aF,e1,cond_true,aC c.certs.list i hi',aB,hw,is,Bool.not_true,cond_false,aT (show (c.due.length:Int)<=(k:Int) by omega)]
  have hk':k<c.due.length:=by omega
  have dk:=rQ hk';have e2:decide ((c.due.length:Int)<=(k:Int))=false:=aM (by omega)
  have fol: ¬((c.due[k]!).1=(c.certs.list[i]!).1/\(((bI c.field.points (c.certs.list[i]!).2 c.now).1.1,(bI c.field.points (c.certs.list[i]!).2 c.now).1.2,(c.certs.list[i]!).1,(c.due[k]!).2):Ev)∈c.agenda.heap)-> ¬aX c.field.points c.now c.agenda.heap (c.certs.list.drop i) (c.due.drop k):=by
   intro hn h;rw [dr,dk] at h;obtain ⟨d,ds',h1,h2,h3,_⟩:=h.1 is;injection h1 with h1 _;subst h1;exact hn ⟨h2,h3⟩
  by_cases b1:(c.due[k]!).1=(c.certs.list[i]!).1
  case neg=>
   refine stop (fol (fun h=>b1 h.1)) ?_
   unfold dM;simp only [aF,e1,cond_true,aC c.certs.list i hi',aB,hw,is,Bool.not_true,cond_false,e2,aC c.due k hk',eU b1]
  have fi:=aH9 agd (c.due[k]!).2;have ea:=aI0 agd w2 (bI c.field.points (c.certs.list[i]!).2 c.now).1 (c.certs.list[i]!).1 (c.due[k]!).2;have fi':vR (aG.mk (aR.mk c.agenda.slots.uses c.agenda.slots.used c.agenda.slots.free) c.agenda.heap c.agenda.where_) (c.due[k]!).2=_:=fi
  by_cases lv:xF c.agenda.slots (c.due[k]!).2
  case neg=>
   rw [if_neg lv] at fi';refine stop (fol (fun h=>lv ?_)) ?_
   · obtain ⟨w,hw',hev⟩:=aU.1 h.2
     have:=(agd.handle hw').1
     rwa [hev] at this
   · unfold dM
     simp only [aF,e1,cond_true,aC c.certs.list i hi',aB,hw,is,Bool.not_true,cond_false,e2,aC c.due k hk',cY b1,fi',show ((6:Int) !=0)=true from rfl]
  rw [if_pos lv] at fi';obtain ⟨w,hw1,hw2,hw3⟩:=agd.live lv;rw [hw2,Int.toNat_natCast] at fi';have q1:(0<=(c.due[k]!).2.1/\(c.due[k]!).2.1<200/\0<=c.agenda.where_[(c.due[k]!).2.1.toNat]!):=⟨lv.1,by have:=lv.2.1;omega,by rw [hw2];omega⟩
  by_cases b2:(c.agenda.heap[w]!).2.2.1=(c.certs.list[i]!).1
  case neg=>
   refine stop (fol (fun h=>b2 ?_)) ?_
   · have:=(ea.2 h.2).2.2.2
     rw [hw2,Int.toNat_natCast] at this;rw [this]
   · unfold dM
     simp only [aF,e1,cond_true,aC c.certs.list i hi',aB,hw,is,Bool.not_true,cond_false,e2,aC c.due k hk',cY b1,fi',show ((0:Int) !=0)=false from rfl,eU b2]
  have teq:((c.agenda.heap[w]!).1==(bI c.field.points (c.certs.list[i]!).2 c.now).1.1&&(c.agenda.heap[w]!).2.1==(bI c.field.points (c.certs.list[i]!).2 c.now).1.2)=decide (((c.agenda.heap[w]!).1,(c.agenda.heap[w]!).2.1)=(bI c.field.points (c.certs.list[i]!).2 c.now).1):=by
   rw [Bool.eq_iff_iff,decide_eq_true_iff];simp only [Bool.and_eq_true,beq_iff_eq];constructor
   · rintro ⟨h1,h2⟩;exact Prod.ext h1 h2
   · intro h;rw [<- h];exact ⟨rfl,rfl⟩
  by_cases b3:((c.agenda.heap[w]!).1,(c.agenda.heap[w]!).2.1)=(bI c.field.points (c.certs.list[i]!).2 c.now).1
  case neg=>
   refine stop (fol (fun h=>b3 ?_)) ?_
   · have:=(ea.2 h.2).2.2.2
     rw [hw2,Int.toNat_natCast] at this;rw [this]
   · unfold dM
     simp only [aF,e1,cond_true,aC c.certs.list i hi',aB,hw,is,Bool.not_true,cond_false,e2,aC c.due k hk',cY b1,fi',show ((0:Int) !=0)=false from rfl,cY b2];rw [teq,aM b3];rfl
  have hmem:=ea.1 ⟨q1.1,q1.2.1,q1.2.2,by
   rw [hw2,Int.toNat_natCast];have t1:=congrArg Prod.fst b3;have t2:=congrArg Prod.snd b3;exact Prod.ext t1 (Prod.ext t2 (Prod.ext b2 hw3))⟩
  rw [aZ (y:=(((k+1:Nat):Int),((i+1:Nat):Int),c.now.1,c.now.2,c.field.points,c.certs.next_,c.certs.list,c.agenda.slots.uses,c.agenda.slots.used,c.agenda.slots.free,c.agenda.heap,c.agenda.where_,c.due)) (by
   unfold dM;simp only [aF,e1,cond_true,aC c.certs.list i hi',aB,hw,is,Bool.not_true,cond_false,e2,aC c.due k hk',cY b1,fi',show ((0:Int) !=0)=false from rfl,cY b2,sc,sk];rw [teq,aT b3]
   rfl),ih (i+1) (k+1) (by omega) (by omega) (by omega)]
  have same:aX c.field.points c.now c.agenda.heap (c.certs.list.drop i) (c.due.drop k)↔aX c.field.points c.now c.agenda.heap (c.certs.list.drop (i+1)) (c.due.drop (k+1)):=by
   rw [dr,dk];constructor
   · intro h2
     obtain ⟨d,ds',k1,k2,k3,k4⟩:=h2.1 is;injection k1 with k1 k5;subst k5;exact k4
   · intro h2
     exact ⟨fun _=>⟨_,_,rfl,b1,hmem,h2⟩,fun h=>by rw [is] at h;cases h⟩
  simp only [same]
theorem MY {c:aH} (fit:wB c):xA c=some (if bB c then 0 else 8):=by
 unfold xA;rw [nA fit.now64,CV,C3,CZ _ fit.ag];simp only [aB]
 by_cases nowv:bH c.now
 case neg=>rw [if_neg nowv,if_neg (c:=bB c) (fun h=>nowv h.nowv)];rfl
 rw [if_pos nowv]
 by_cases fld:dH c.field.points
 case neg=>rw [eU (fun h=>fld (jN.1 h)),if_neg (c:=bB c) (fun h=>fld h.fld)];rfl
 rw [cY (jN.2 fld)]
 by_cases crt:eS c.certs
 case neg=>rw [if_neg crt,if_neg (c:=bB c) (fun h=>crt h.crt)];rfl
 rw [if_pos crt];have kn:=aBT c.certs fld crt.len;simp only [show ((0:Int) !=0)=false from rfl,cond_false,kn,aB]
 by_cases known: ∀i,i<c.certs.list.length->lX c.field.points (c.certs.list[i]!).2
 case neg=>rw [aM known,if_neg (c:=bB c) (fun h=>known h.known)];rfl
 rw [aT known]
 by_cases agd:eQ c.agenda
 case neg=>rw [if_neg agd,if_neg (c:=bB c) (fun h=>agd h.agd)];rfl
 rw [if_pos agd];simp only [aF,show ((0:Int) !=0)=false from rfl,cond_false,Bool.not_true]
 by_cases w2:c.agenda.where_.length=200
 case neg=>rw [eU (by omega),if_neg (c:=bB c) (fun h=>w2 h.w200)];rfl
 rw [cY (by omega)]
 by_cases hd:c.agenda.heap.length=c.due.length
 case neg=>rw [eU (by omega),if_neg (c:=bB c) (fun h=>hd h.hd)];rfl
 rw [cY (by omega)]
 have run:=TO fit.now64 fld crt agd w2 fit.du known c.certs.list.length 0 0 (by omega) (by omega) (by omega)
 rw [List.drop_zero,List.drop_zero] at run;have same:aX c.field.points c.now c.agenda.heap c.certs.list c.due↔bB c:=by
  rw [bB.iff fit];exact ⟨fun h=>⟨nowv,fld,crt,agd,w2,hd,known,h⟩,fun h=>h.2.2.2.2.2.2.2⟩
 simp only [same] at run;simp only [cond_false];exact run
end Go.Proofs.YtfejhjllooomlaaGreat
namespace Go.Proofs.YtfejhjllooomlaaGreat
open Go.Vm Classical
section
variable {l : List Pt} {t : Int × Int}
theorem aX.cons_true {H:List Ev} {x:tN} {cs ds:List tN} (h:(bI l x.2 t).2=true):aX l t H (x::cs) ds↔ ∃d ds',ds=d::ds'/\d.1=x.1/\(((bI l x.2 t).1.1,(bI l x.2 t).1.2,x.1,d.2):Ev)∈H/\aX l t H cs ds':=
 ⟨fun k=>k.1 h,fun k=>⟨fun _=>k,fun k'=>(by rw [h] at k';cases k')⟩⟩
theorem aX.cons_false {H:List Ev} {x:tN} {cs ds:List tN} (h:(bI l x.2 t).2=false):aX l t H (x::cs) ds↔aX l t H cs ds:=
 ⟨fun k=>k.2 h,fun k=>⟨fun k'=>(by rw [h] at k';cases k'),fun _=>k⟩⟩
theorem aX.mono {H H':List Ev}: ∀{cs ds:List tN},(∀x∈cs,∀e:Ev,e.num=x.1->e∈H->e∈H')->aX l t H cs ds->aX l t H' cs ds
 | [],_,_,h=>h
 |x::cs,ds,hm,h=>by
  have hm': ∀y∈cs,∀e:Ev,e.num=y.1->e∈H->e∈H':=fun y hy=>hm y (by simp [hy])
  cases hx:(bI l x.2 t).2 with
  |true=>
   rw [aX.cons_true hx] at h ⊢;obtain ⟨d,ds',h1,h2,h3,h4⟩:=h;exact ⟨d,ds',h1,h2,hm x (by simp) _ rfl h3,aX.mono hm' h4⟩
  |false=>
   rw [aX.cons_false hx] at h ⊢;exact aX.mono hm' h
theorem aX.due {H:List Ev}: ∀{cs ds:List tN},aX l t H cs ds-> ∀d∈ds,∃x∈cs,d.1=x.1/\(bI l x.2 t).2=true/\(((bI l x.2 t).1.1,(bI l x.2 t).1.2,x.1,d.2):Ev)∈H
 | [],ds,h,d,hd=>by
  have:ds=[]:=h
  subst this;cases hd
 |x::cs,ds,h,d,hd=>by
  cases hx:(bI l x.2 t).2 with
  |true=>
   rw [aX.cons_true hx] at h;obtain ⟨e,ds',h1,h2,h3,h4⟩:=h;subst h1;rcases List.mem_cons.1 hd with rfl|hd
   · exact ⟨x,by simp,h2,hx,h3⟩
   · obtain ⟨y,hy,k⟩:=aX.due h4 d hd
     exact ⟨y,by simp [hy],k⟩
  |false=>
   rw [aX.cons_false hx] at h;obtain ⟨y,hy,k⟩:=aX.due h d hd;exact ⟨y,by simp [hy],k⟩
theorem aX.has {H:List Ev}: ∀{cs ds:List tN},aX l t H cs ds-> ∀x∈cs,(bI l x.2 t).2=true-> ∃d∈ds,d.1=x.1/\(((bI l x.2 t).1.1,(bI l x.2 t).1.2,x.1,d.2):Ev)∈H
 | [],_,_,x,hx,_=>by cases hx
 |y::cs,ds,h,x,hx,hf=>by
  cases hy:(bI l y.2 t).2 with
  |true=>
   rw [aX.cons_true hy] at h;obtain ⟨e,ds',h1,h2,h3,h4⟩:=h;subst h1;rcases List.mem_cons.1 hx with rfl|hx
   · exact ⟨e,by simp,h2,h3⟩
   · obtain ⟨d,hd,k⟩:=aX.has h4 x hx hf
     exact ⟨d,by simp [hd],k⟩
  |false=>
   rw [aX.cons_false hy] at h;rcases List.mem_cons.1 hx with rfl|hx
   · rw [hf] at hy;cases hy
   · exact aX.has h x hx hf
def Up (cs:List tN):Prop:=cs.Pairwise fun x y=>x.1<y.1
theorem sK {cs:List tN}:Up cs↔ ∀i j,i<j->j<cs.length->(cs[i]!).1<(cs[j]!).1:=by
 unfold Up;rw [List.pairwise_iff_getElem];constructor
 · intro h i j hij hj
   rw [getElem!_pos cs i (by omega),getElem!_pos cs j hj]
   exact h i j (by omega) hj hij
 · intro h i j hi hj hij
   have:=h i j hij hj
   rwa [getElem!_pos cs i hi,getElem!_pos cs j hj] at this
theorem aX.up {H:List Ev}: ∀{cs ds:List tN},aX l t H cs ds->Up cs->Up ds
 | [],ds,h,_=>by
  have:ds=[]:=h
  subst this;exact List.Pairwise.nil
 |x::cs,ds,h,hu=>by
  have hu':=List.pairwise_cons.1 hu;cases hx:(bI l x.2 t).2 with
  |true=>
   rw [aX.cons_true hx] at h;obtain ⟨e,ds',h1,h2,h3,h4⟩:=h;subst h1;refine List.pairwise_cons.2 ⟨fun d hd=>?_,aX.up h4 hu'.2⟩
   obtain ⟨y,hy,k,_⟩:=aX.due h4 d hd
   have:=hu'.1 y hy
   omega
  |false=>
   rw [aX.cons_false hx] at h;exact aX.up h hu'.2
theorem aX.snoc {H:List Ev}: ∀{cs ds:List tN} {x:tN},aX l t H cs ds->((bI l x.2 t).2=false->aX l t H (cs++[x]) ds)/\
 (∀d:tN,(bI l x.2 t).2=true->d.1=x.1->(((bI l x.2 t).1.1,(bI l x.2 t).1.2,x.1,d.2):Ev)∈H->aX l t H (cs++[x]) (ds++[d]))
 | [],ds,x,h=>by
  have:ds=[]:=h
  subst this;refine ⟨fun hx=>(aX.cons_false hx).2 rfl,fun d hx h1 h2=>(aX.cons_true hx).2 ⟨d,[],rfl,h1,h2,rfl⟩⟩
 |y::cs,ds,x,h=>by
  cases hy:(bI l y.2 t).2 with
  |true=>
   rw [aX.cons_true hy] at h;obtain ⟨e,ds',h1,h2,h3,h4⟩:=h;subst h1;have ih:=aX.snoc (x:=x) h4;refine ⟨fun hx=>(aX.cons_true hy).2 ⟨e,ds',rfl,h2,h3,ih.1 hx⟩,fun d hx k1 k2=>(aX.cons_true hy).2 ⟨e,ds'++[d],rfl,h2,h3,ih.2 d hx k1 k2⟩⟩
  |false=>
   rw [aX.cons_false hy] at h;have ih:=aX.snoc (x:=x) h;exact ⟨fun hx=>(aX.cons_false hy).2 (ih.1 hx),fun d hx k1 k2=>(aX.cons_false hy).2 (ih.2 d hx k1 k2)⟩
theorem aX.erase {H:List Ev}: ∀{cs ds:List tN} {i:Nat},aX l t H cs ds->i<cs.length->((bI l (cs[i]!).2 t).2=false->aX l t H (cs.eraseIdx i) ds)/\
 ((bI l (cs[i]!).2 t).2=true-> ∃k,k<ds.length/\(ds[k]!).1=(cs[i]!).1/\(((bI l (cs[i]!).2 t).1.1,(bI l (cs[i]!).2 t).1.2,(cs[i]!).1,(ds[k]!).2):Ev)∈H/\aX l t H (cs.eraseIdx i) (ds.eraseIdx k))
 | [],_,i,_,hi=>by cases hi
 |y::cs,ds,0,h,_=>by
  show ((bI l y.2 t).2=false->aX l t H cs ds)/\((bI l y.2 t).2=true-> ∃k,k<ds.length/\(ds[k]!).1=y.1/\(((bI l y.2 t).1.1,(bI l y.2 t).1.2,y.1,(ds[k]!).2):Ev)∈H/\aX l t H cs (ds.eraseIdx k));refine ⟨fun hy=>(aX.cons_false hy).1 h,fun hy=>?_⟩
  obtain ⟨e,ds',h1,h2,h3,h4⟩:=(aX.cons_true hy).1 h;subst h1;exact ⟨0,by simp,h2,h3,h4⟩
 |y::cs,ds,i+1,h,hi=>by
  have hi':i<cs.length:=by simpa using hi
  show ((bI l (cs[i]!).2 t).2=false->aX l t H (y::cs.eraseIdx i) ds)/\((bI l (cs[i]!).2 t).2=true-> ∃k,k<ds.length/\(ds[k]!).1=(cs[i]!).1/\(((bI l (cs[i]!).2 t).1.1,(bI l (cs[i]!).2 t).1.2,(cs[i]!).1,(ds[k]!).2):Ev)∈H/\aX l t H (y::cs.eraseIdx i) (ds.eraseIdx k));cases hy:(bI l y.2 t).2 with
  |true=>
   obtain ⟨e,ds',h1,h2,h3,h4⟩:=(aX.cons_true hy).1 h;subst h1;have ih:=aX.erase (i:=i) h4 hi';refine ⟨fun hx=>(aX.cons_true hy).2 ⟨e,ds',rfl,h2,h3,ih.1 hx⟩,fun hx=>?_⟩
   obtain ⟨k,k1,k2,k3,k4⟩:=ih.2 hx;exact ⟨k+1,by simp;omega,k2,k3,(aX.cons_true hy).2 ⟨e,ds'.eraseIdx k,rfl,h2,h3,k4⟩⟩
  |false=>
   have h:=(aX.cons_false hy).1 h;have ih:=aX.erase (i:=i) h hi';refine ⟨fun hx=>(aX.cons_false hy).2 (ih.1 hx),fun hx=>?_⟩
   obtain ⟨k,k1,k2,k3,k4⟩:=ih.2 hx;exact ⟨k,k1,k2,k3,(aX.cons_false hy).2 k4⟩
end
theorem JC {H:List Ev} {ns:List Int} (hd:ns.Nodup) (hl:H.length<=ns.length) (he: ∀n∈ns,∃e∈H,Ev.num e=n): ∀e∈H,Ev.num e∈ns:=by
 have pos: ∀n,n∈ns-> ∃w,w<H.length/\Ev.num H[w]! =n:=fun n hn=>by
  obtain ⟨e,he,h2⟩:=he n hn;obtain ⟨w,hw,rfl⟩:=aU.1 he;exact ⟨w,hw,h2⟩
 let f:Int->Nat:=fun n=>if h: ∃w,w<H.length/\Ev.num H[w]! =n then h.choose else 0
 have hf: ∀n∈ns,f n<H.length/\Ev.num H[f n]! =n:=fun n hn=>by
  have h:=pos n hn;show (if h: ∃w,w<H.length/\Ev.num H[w]! =n then h.choose else 0)<_/\Ev.num H[(if h: ∃w,w<H.length/\Ev.num H[w]! =n then h.choose else 0)]! =n
  rw [dif_pos h];exact h.choose_spec
 have full:=I8 (n:=H.length) (l:=ns.map f) (DY hd fun x hx y hy h=>by
  have h1:=(hf x hx).2;have h2:=(hf y hy).2;rw [h] at h1
  omega) (fun x hx=>by
  obtain ⟨n,hn,rfl⟩:=List.mem_map.1 hx;exact (hf n hn).1) (by rw [List.length_map];exact hl)
 intro e hm;obtain ⟨w,hw,rfl⟩:=aU.1 hm;obtain ⟨n,hn,h⟩:=List.mem_map.1 (full w hw);rw [<- h,(hf n hn).2];exact hn
theorem TP {cs:List tN} (h:Up cs):(cs.map fun x=>x.1).Nodup:=by
 refine DY ?_ ?_
 · unfold Up at h
   exact h.imp fun hab he=>by rw [he] at hab;omega
 · intro x hx y hy he
   obtain ⟨i,hi,rfl⟩:=aU.1 hx;obtain ⟨j,hj,rfl⟩:=aU.1 hy;rcases Nat.lt_trichotomy i j with h1|h1|h1
   · have:=sK.1 h i j h1 hj;omega
   · rw [h1]
   · have:=sK.1 h j i h1 hi;omega
theorem bB.crt_up {c:aH} (ok:bB c):Up c.certs.list:=sK.2 ok.crt.up
theorem bB.due_up {c:aH} (ok:bB c):Up c.due:=ok.fol.up ok.crt_up
theorem bB.nums {c:aH} (ok:bB c): ∀e∈c.agenda.heap,∃d∈c.due,d.1=Ev.num e:=by
 have:=JC (H:=c.agenda.heap) (TP ok.due_up) (by rw [List.length_map,ok.hd];exact Nat.le_refl _) (fun n hn=>by
  obtain ⟨d,hd,rfl⟩:=List.mem_map.1 hn;obtain ⟨x,hx,h1,h2,h3⟩:=ok.fol.due d hd;exact ⟨_,h3,h1.symm⟩)
 intro e he;obtain ⟨d,hd,h⟩:=List.mem_map.1 (this e he);exact ⟨d,hd,h⟩
end Go.Proofs.YtfejhjllooomlaaGreat
