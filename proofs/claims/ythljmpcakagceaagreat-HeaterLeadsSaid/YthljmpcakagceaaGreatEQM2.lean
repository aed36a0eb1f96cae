/- Plain laws (2). -/
import Derived.Test.YthljmpcakagceaaGreatEQM1
namespace Go.Proofs.YthljmpcakagceaaGreat
open Go.Vm Classical
theorem Q5 (a:aG) (fit:DM a) (so:fF a.slots) (wl:a.where_.length=a.slots.uses.length):
 aH mG (a.where_,(a.where_.length:Int),0,a.slots.uses,a.slots.used,a.slots.free,a.heap,a.where_)=some (if (∀i,i<a.slots.uses.length->NA a i)/\(∀k,k<a.heap.length->N7 a.heap k) then 0 else 8):=by
 have hu:=so.ul;have hn:=so.n2;have hh:=fit.hp;have inner:=Q4 a.heap a.slots.uses a.slots.free a.where_ a.slots.used fit.hp fit.at64
 have key:=dC (body:=mG) (fun i=>(a.where_,(a.where_.length:Int),(i:Int),a.slots.uses,a.slots.used,a.slots.free,a.heap,a.where_)) a.where_.length (fun i=> ¬NA a i) (r:=8) (e:=if (∀k,k<a.heap.length->N7 a.heap k) then 0 else 8) (fun i hi=>by
  have e1:decide ((i:Int)<(a.where_.length:Int))=true:=aM (by omega)
  unfold mG;simp only [aF,e1,cond_true,aC a.where_ i hi,aC a.slots.used i (by omega),aC a.slots.uses i (by omega),aB,bC (show i<1000000000 by omega)]
  unfold NA;generalize a.where_[i]! =w at*;cases hb:a.slots.used[i]! with
  |false=>
   simp only [Bool.not_false,cond_true]
   by_cases hw:w= -1
   · rw [dR hw]
     exact ⟨fun h=>absurd ⟨fun h=>(by cases h),fun _=>hw⟩ h,fun _=>rfl⟩
   · rw [fE hw]
     exact ⟨fun _=>rfl,fun h=>absurd ((Classical.not_not.1 h).2 trivial) hw⟩
  |true=>
   simp only [Bool.not_true,cond_false]
   by_cases b1:w<0
   · rw [aM b1]
     exact ⟨fun _=>rfl,fun h=>absurd ((Classical.not_not.1 h).1 trivial).1 (by omega)⟩
   by_cases b2:(a.heap.length:Int)<=w
   · rw [aI b1,aM b2]
     exact ⟨fun _=>rfl,fun h=>absurd ((Classical.not_not.1 h).1 trivial).2.1 (by omega)⟩
   rw [aI b1,aI b2];simp only [cond_false,dM (l:=a.heap) (i:=w) (by omega) (by omega),aB]
   by_cases b3:(a.heap[w.toNat]!).2.2.2.1=i
   · by_cases b4:(a.heap[w.toNat]!).2.2.2.2=a.slots.uses[i]!
     · rw [gL b3,gL b4]
       exact ⟨fun h=>absurd ⟨fun _=>⟨by omega,by omega,b3,b4⟩,fun h=>(by cases h)⟩ h,fun _=>rfl⟩
     · rw [gL b3,fW b4]
       exact ⟨fun _=>rfl,fun h=>absurd ((Classical.not_not.1 h).1 trivial).2.2.2 b4⟩
   · rw [fW b3]
     exact ⟨fun _=>rfl,fun h=>absurd ((Classical.not_not.1 h).1 trivial).2.2.1 b3⟩) (by
  unfold mG
  have:decide ((a.where_.length:Int)<(a.where_.length:Int))=false:=aI (by omega)
  simp only [aF,this,cond_false]
  by_cases hx: ∀k,k<a.heap.length->N7 a.heap k
  · rw [if_pos hx];exact inner.1 hx
  · rw [if_neg hx];exact inner.2 hx)
 by_cases hw: ∀i,i<a.slots.uses.length->NA a i
 · refine (key.2 fun i hi=>Classical.not_not.2 (hw i (by omega))).trans ?_
   by_cases hx: ∀k,k<a.heap.length->N7 a.heap k
   · rw [if_pos hx,if_pos ⟨hw,hx⟩]
   · rw [if_neg hx,if_neg (fun h=>hx h.2)]
 · rw [if_neg (fun h=>hw h.1)]
   obtain ⟨i,h⟩:=Classical.not_forall.1 hw;obtain ⟨hi,hx⟩:=Classical.not_imp.1 h;exact key.1 ⟨i,by omega,hx⟩
theorem jR (a:aG) (fit:DM a):jY a=some (if eZ a then 0 else 8):=by
 have hh:=fit.hp;unfold jY;rw [yU _ fit.fr];simp only [aF]
 by_cases so:fF a.slots
 case neg=>rw [if_neg so,if_neg (fun h=>so h.so)];rfl
 have hu:=so.ul;have hn:=so.n2;have hf:=so.fl;rw [if_pos so];simp only [aB,show ((0:Int) !=0)=false from rfl,cond_false]
 by_cases wl:a.where_.length=a.slots.uses.length
 case neg=>
  rw [fE (by omega),if_neg (fun h=>wl h.wl)];rfl
 rw [dR (by omega)]
 have e:aA .i64 ((a.slots.used.length:Int) - (a.slots.free.length:Int))=((a.slots.uses.length-a.slots.free.length:Nat):Int):=by rw [wi];omega
 rw [e]
 by_cases hl:a.heap.length+a.slots.free.length=a.slots.uses.length
 case neg=>
  rw [fE (by omega),if_neg (fun h=>hl h.hl)];rfl
 rw [dR (by omega)]
 simp only [cond_false];rw [Q5 a fit so wl]
 by_cases ok:eZ a
 · rw [if_pos ok,if_pos ok.to]
 · rw [if_neg ok,if_neg]
   intro h;exact ok (eZ.of fit so wl hl h.1 h.2)
theorem aCo {x y:Ev} (hx:mU (x.1,x.2.1)) (hy:mU (y.1,y.2.1)):eQ x y=some (decide (dO x y)):=by
 unfold eQ dO;rw [BJ hx hy];simp only [aB];generalize mR (x.1,x.2.1) (y.1,y.2.1)=c
 by_cases h1:c<0
 · simp [h1]
 · by_cases h2:c=0
   · subst h2;simp
   · simp only [h1,fW h2,h2,decide_false,cond_false,false_or,false_and]
theorem YU {s:aR} (ok:fF s) (h:Int×Int):wJ s h=some (decide (xX s h)):=by
 have hu:=ok.ul;unfold wJ xX;simp only [aF]
 by_cases a1:0<=h.1
 · by_cases a2:h.1<s.uses.length
   · simp only [a1,a2,decide_true,cond_true,dM (l:=s.used) a1 (by omega),dM (l:=s.uses) a1 a2,aB,true_and]
     generalize s.uses[h.1.toNat]! =u;cases s.used[h.1.toNat]!<;>simp [YS]
   · simp [a1,a2]
 · simp [a1]
theorem aAq (a:aG) (so:fF a.slots):vF a=some (decide (a.where_.length=a.slots.uses.length/\a.heap.length+a.slots.free.length=a.slots.uses.length/\ ∀i,i<a.slots.uses.length->NA a i)):=by
 have hu:=so.ul;have hn:=so.n2;have hf:=so.fl;unfold vF;simp only [aF]
 by_cases wl:a.where_.length=a.slots.uses.length
 case neg=>
  rw [fE (by omega),aI (fun h=>wl h.1)];rfl
 rw [dR (by omega)]
 have e:aA .i64 ((a.slots.uses.length:Int) - (a.slots.free.length:Int))=((a.slots.uses.length-a.slots.free.length:Nat):Int):=by rw [wi];omega
 rw [e]
 by_cases hl:a.heap.length+a.slots.free.length=a.slots.uses.length
 case neg=>
  rw [fE (by omega),aI (fun h=>hl h.2.1)];rfl
 rw [dR (by omega)]
 simp only [cond_false];have key:=dC (body:=oQ) (fun i=>((a.slots.uses.length:Int),(i:Int),a.slots.uses,a.slots.used,a.slots.free,a.heap,a.where_)) a.slots.uses.length (fun i=> ¬NA a i) (r:=false) (e:=true) (fun i hi=>by
  have e1:decide ((i:Int)<(a.slots.uses.length:Int))=true:=aM (by omega)
  unfold oQ;simp only [aF,e1,cond_true,aC a.where_ i (by omega),aC a.slots.used i (by omega),aB,bC (show i<1000000000 by omega)]
  unfold NA;generalize a.where_[i]! =w at*;cases hb:a.slots.used[i]! with
  |false=>
   simp only [Bool.not_false,cond_true]
   by_cases hw:w= -1
   · rw [dR hw]
     exact ⟨fun h=>absurd ⟨fun h=>(by cases h),fun _=>hw⟩ h,fun _=>rfl⟩
   · rw [fE hw]
     exact ⟨fun _=>rfl,fun h=>absurd ((Classical.not_not.1 h).2 trivial) hw⟩
  |true=>
   simp only [Bool.not_true,cond_false]
   by_cases b1:w<0
   · rw [aM b1]
     exact ⟨fun _=>rfl,fun h=>absurd ((Classical.not_not.1 h).1 trivial).1 (by omega)⟩
   by_cases b2:(a.heap.length:Int)<=w
   · rw [aI b1,aM b2]
     exact ⟨fun _=>rfl,fun h=>absurd ((Classical.not_not.1 h).1 trivial).2.1 (by omega)⟩
   rw [aI b1,aI b2];simp only [cond_false,dM (l:=a.heap) (i:=w) (by omega) (by omega),aB]
   by_cases b3:(a.heap[w.toNat]!).2.2.2.1=i
   · rw [dR b3]
     simp only [cond_false];rw [YU (s:=⟨a.slots.uses,a.slots.used,a.slots.free⟩) so];have lv:xX ⟨a.slots.uses,a.slots.used,a.slots.free⟩ (a.heap[w.toNat]!).2.2.2↔(a.heap[w.toNat]!).2.2.2.2=a.slots.uses[i]!:=by
      unfold xX;dsimp only;rw [b3];constructor
      · intro h;exact h.2.2.2.symm
      · intro h;exact ⟨by omega,by omega,by rw [Int.toNat_natCast];exact hb,by rw [Int.toNat_natCast];exact h.symm⟩
     simp only [aB,lv]
     by_cases b4:(a.heap[w.toNat]!).2.2.2.2=a.slots.uses[i]!
     · rw [aM b4]
       exact ⟨fun h=>absurd ⟨fun _=>⟨by omega,by omega,b3,b4⟩,fun h=>(by cases h)⟩ h,fun _=>rfl⟩
     · rw [aI b4]
       exact ⟨fun _=>rfl,fun h=>absurd ((Classical.not_not.1 h).1 trivial).2.2.2 b4⟩
   · rw [fE b3]
     exact ⟨fun _=>rfl,fun h=>absurd ((Classical.not_not.1 h).1 trivial).2.2.1 b3⟩) (by
  unfold oQ
  have:decide ((a.slots.uses.length:Int)<(a.slots.uses.length:Int))=false:=aI (by omega)
  simp only [this,cond_false])
 by_cases hw: ∀i,i<a.slots.uses.length->NA a i
 · rw [aM ⟨wl,hl,hw⟩]
   exact key.2 fun i hi=>Classical.not_not.2 (hw i hi)
 · rw [aI (fun h=>hw h.2.2)]
   obtain ⟨i,h⟩:=Classical.not_forall.1 hw;obtain ⟨hi,hx⟩:=Classical.not_imp.1 h;exact key.1 ⟨i,hi,hx⟩
theorem T9 (H:List Ev) (u fr W:List Int) (us:List Bool) (k:Nat) (hk:k<H.length) (hl:H.length<=1000000) (x:Ev):
 ((∃j,j<k/\(H[j]!).2.2.1=x.2.2.1)->aH lD ((k:Int),0,u,us,fr,H,W,x)=some (.done 8))/\
 ((∀j,j<k-> ¬(H[j]!).2.2.1=x.2.2.1)->aH lD ((k:Int),0,u,us,fr,H,W,x)=some (.next (((k+1:Nat):Int),u,us,fr,H,W))):=by
 refine dC (body:=lD) (fun j=>((k:Int),(j:Int),u,us,fr,H,W,x)) k (fun j=>(H[j]!).2.2.1=x.2.2.1) (r:= .done 8) (e:= .next (((k+1:Nat):Int),u,us,fr,H,W)) (fun j hj=>?_) ?_
 · have e1:decide ((j:Int)<(k:Int))=true:=aM (by omega)
   unfold lD;simp only [e1,cond_true,aC H j (by omega),aB,bC (show j<1000000000 by omega)]
   constructor
   · intro h;rw [gL h];rfl
   · intro h;rw [fW h];rfl
 · unfold lD
   have:decide ((k:Int)<(k:Int))=false:=aI (by omega)
   simp only [this,cond_false,bC (show k<1000000000 by omega)]
theorem UA (H:List Ev) (u fr W:List Int) (us:List Bool) (hl:H.length<=1000000) (r64: ∀w,w<H.length->mU ((H[w]!).1,(H[w]!).2.1)):
 aH lF (1,u,us,fr,H,W)=some (.done (if∀k,0<k->k<H.length-> ¬dO H[k]! H[(k-1) / 2]! then 0 else 8)):=by
 by_cases h0:H.length=0
 · rw [if_pos (fun k _ hk=>by omega)]
   refine aL ?_;unfold lF
   have:decide ((1:Int)<(H.length:Int))=false:=aI (by omega)
   simp only [aF,this,cond_false]
 have key:=dC (body:=lF) (fun i=>(((i+1:Nat):Int),u,us,fr,H,W)) (H.length-1) (fun i=>dO H[i+1]! H[i / 2]!) (r:= .done 8) (e:= .done 0) (fun i hi=>by
  have e1:decide (((i+1:Nat):Int)<(H.length:Int))=true:=aM (by omega)
  unfold lF;simp only [aF,e1,cond_true,uN (show i<1000000000 by omega),aC H (i+1) (by omega),aC H (i / 2) (by omega),aB,aCo (r64 (i+1) (by omega)) (r64 (i / 2) (by omega)),bC (show i+1<1000000000 by omega)]
  constructor
  · intro h;rw [aM h];rfl
  · intro h;rw [aI h];rfl) (by
  unfold lF
  have:decide (((H.length-1+1:Nat):Int)<(H.length:Int))=false:=aI (by omega)
  simp only [aF,this,cond_false])
 by_cases ho: ∀k,0<k->k<H.length-> ¬dO H[k]! H[(k-1) / 2]!
 · rw [if_pos ho]
   refine key.2 fun i hi hc=>ho (i+1) (by omega) (by omega) ?_
   rwa [show (i+1-1) / 2=i / 2 by omega]
 · rw [if_neg ho]
   obtain ⟨k,h⟩:=Classical.not_forall.1 ho;obtain ⟨k0,h⟩:=Classical.not_imp.1 h;obtain ⟨hk,hx⟩:=Classical.not_imp.1 h;refine key.1 ⟨k-1,by omega,?_⟩
   rw [show k-1+1=k by omega]
   exact Classical.not_not.1 hx
def Q6 (H:List Ev) (k:Nat):Prop:=bM ((H[k]!).1,(H[k]!).2.1)/\0<=(H[k]!).2.2.1/\(H[k]!).2.2.1<=1000000/\(∀j,j<k-> ¬(H[j]!).2.2.1=(H[k]!).2.2.1)
theorem DN (a:aG) (fit:DM a):tT a=some (if eZ a then 0 else 8):=by
 have hh:=fit.hp;unfold tT;rw [M9 _ fit.fr]
 by_cases so:fF a.slots
 case neg=>rw [if_neg so,if_neg (fun h=>so h.so)];rfl
 rw [if_pos so];simp only [aB,show ((0:Int) !=0)=false from rfl,cond_false,aAq a so]
 by_cases pl:a.where_.length=a.slots.uses.length/\a.heap.length+a.slots.free.length=a.slots.uses.length/\ ∀i,i<a.slots.uses.length->NA a i
 case neg=>
  rw [aI pl,if_neg (fun h=>pl ⟨h.wl,h.hl,h.to.1⟩)];rfl
 rw [aM pl];obtain ⟨wl,hl,hw⟩:=pl;simp only [Bool.not_true,cond_false];have key:=dC (body:=qL) (fun k=>((k:Int),a.slots.uses,a.slots.used,a.slots.free,a.heap,a.where_)) a.heap.length (fun k=> ¬Q6 a.heap k) (r:=8) (e:=if∀k,0<k->k<a.heap.length-> ¬dO a.heap[k]! a.heap[(k-1) / 2]! then 0 else 8) (fun k hk=>by
  have e1:decide ((k:Int)<(a.heap.length:Int))=true:=aM (by omega)
  have l1:=T9 a.heap a.slots.uses a.slots.free a.where_ a.slots.used k hk hh a.heap[k]!;unfold qL;simp only [aF,e1,cond_true,aC a.heap k hk,aB,wP (fit.at64 k hk)];unfold Q6
  by_cases b1:bM ((a.heap[k]!).1,(a.heap[k]!).2.1)
  case neg=>
   rw [if_neg b1];exact ⟨fun _=>rfl,fun h=>absurd (Classical.not_not.1 h).1 b1⟩
  rw [if_pos b1]
  by_cases b2:(a.heap[k]!).2.2.1<0
  · rw [aM b2]
    exact ⟨fun _=>rfl,fun h=>absurd (Classical.not_not.1 h).2.1 (by omega)⟩
  by_cases b3:1000000<(a.heap[k]!).2.2.1
  · rw [aI b2,aM b3]
    exact ⟨fun _=>rfl,fun h=>absurd (Classical.not_not.1 h).2.2.1 (by omega)⟩
  rw [aI b2,aI b3];simp only [show ((0:Int) !=0)=false from rfl,cond_false]
  by_cases b4: ∃j,j<k/\(a.heap[j]!).2.2.1=(a.heap[k]!).2.2.1
  · refine ⟨fun _=>l1.1 b4,fun h=>?_⟩
    obtain ⟨j,j1,j2⟩:=b4;exact absurd j2 ((Classical.not_not.1 h).2.2.2 j j1)
  · have b4': ∀j,j<k-> ¬(a.heap[j]!).2.2.1=(a.heap[k]!).2.2.1:=fun j h1 h2=>b4 ⟨j,h1,h2⟩
    exact ⟨fun h=>absurd ⟨b1,by omega,by omega,b4'⟩ h,fun _=>l1.2 b4'⟩) (by
  unfold qL
  have:decide ((a.heap.length:Int)<(a.heap.length:Int))=false:=aI (by omega)
  simp only [aF,this,cond_false];exact UA a.heap _ _ _ _ hh fit.at64)
 have same:eZ a↔(∀k,k<a.heap.length->Q6 a.heap k)/\ ∀k,0<k->k<a.heap.length-> ¬dO a.heap[k]! a.heap[(k-1) / 2]!:=by
  constructor
  · intro ok
    refine ⟨fun k hk=>?_,ok.ord⟩
    have:=ok.to.2 k hk
    exact ⟨this.1,this.2.1,this.2.2.1,this.2.2.2.1⟩
  · rintro ⟨h1,h2⟩
    refine eZ.of fit so wl hl hw fun k hk=>?_
    obtain ⟨c1,c2,c3,c4⟩:=h1 k hk;refine ⟨c1,c2,c3,c4,fun k0=>?_⟩
    unfold WT;rw [if_pos ⟨c1,(h1 ((k-1) / 2) (by omega)).1⟩,HJ]
    exact h2 k k0 hk
 by_cases he: ∀k,k<a.heap.length->Q6 a.heap k
 · refine (key.2 fun i hi=>Classical.not_not.2 (he i hi)).trans ?_
   by_cases ho: ∀k,0<k->k<a.heap.length-> ¬dO a.heap[k]! a.heap[(k-1) / 2]!
   · rw [if_pos ho,if_pos (same.2 ⟨he,ho⟩)]
   · rw [if_neg ho,if_neg (fun h=>ho (same.1 h).2)]
 · rw [if_neg (fun h=>he (same.1 h).1)]
   obtain ⟨i,h⟩:=Classical.not_forall.1 he;obtain ⟨hi,hx⟩:=Classical.not_imp.1 h;exact key.1 ⟨i,hi,hx⟩
end Go.Proofs.YthljmpcakagceaaGreat
namespace Go.Proofs.YthljmpcakagceaaGreat
open Go.Vm Classical
theorem E8 {l:List Ev} {n:Nat} {e:Ev} (hn:n<=l.length):e∈l.take n↔ ∃w,w<n/\l[w]! =e:=by
 rw [cL];constructor
 · rintro ⟨i,h1,_,h3⟩;exact ⟨i,h1,h3⟩
 · rintro ⟨i,h1,h3⟩;exact ⟨i,h1,by omega,h3⟩
theorem aJ5 {s:aR} (so:fF s) {n:Nat} {H:List Ev} {W:List Int} (E:Ev->Prop) (hn:n<=H.length) (wl:W.length=s.uses.length) (hl:n+s.free.length=s.uses.length)
 (ix: ∀w,w<n->0<=(H[w]!).ix/\(H[w]!).ix<W.length/\W[(H[w]!).n]! =(w:Int)) (mem: ∀e,(∃w,w<n/\H[w]! =e)↔E e) (ord: ∀k,0<k->k<n-> ¬dO H[k]! H[(k-1) / 2]!)
 (ue: ∀i,i<s.uses.length->s.used[i]! =true-> ∃e:Ev,E e/\e.ix=i/\e.2.2.2.2=s.uses[i]!) (un: ∀i,i<s.uses.length->s.used[i]! =false->W[i]! = -1)
 (ev: ∀e,E e->sC e) (nums: ∀e f:Ev,E e->E f->e.num=f.num->e.ix=f.ix):eZ ⟨s,H.take n,W⟩:=by
 have len:(H.take n).length=n:=by rw [List.length_take];omega
 have cell: ∀w,w<n->(H.take n)[w]! =H[w]!:=fun w hw=>lH hw
 refine ⟨so,wl,by show (H.take n).length+_=_;rw [len];exact hl,?_,un,?_,?_,?_⟩
 · intro i hi hu
   dsimp only at hi hu ⊢;rw [len];obtain ⟨e,he,e1,e2⟩:=ue i hi hu;obtain ⟨w,hw,rfl⟩:=(mem e).2 he;obtain ⟨a1,a2,a3⟩:=ix w hw;have hn':(H[w]!).n=i:=by show ((H[w]!).ix).toNat=i;omega
   rw [hn'] at a3;rw [a3,Int.toNat_natCast,cell w hw];exact ⟨by omega,by omega,e1,e2⟩
 · intro w hw
   dsimp only at hw ⊢;rw [len] at hw;rw [cell w hw];exact ev _ ((mem _).1 ⟨w,hw,rfl⟩)
 · intro v w hv hw
   dsimp only at hw ⊢;rw [len] at hw;rw [cell v (by omega),cell w hw]
   intro hc
   have:=nums _ _ ((mem _).1 ⟨v,by omega,rfl⟩) ((mem _).1 ⟨w,hw,rfl⟩) hc
   obtain ⟨a1,a2,a3⟩:=ix v (by omega)
   obtain ⟨b1,b2,b3⟩:=ix w hw;have hn':(H[v]!).n=(H[w]!).n:=by show ((H[v]!).ix).toNat=((H[w]!).ix).toNat;rw [this]
   rw [hn'] at a3;omega
 · intro k k0 hk
   dsimp only at hk ⊢;rw [len] at hk;rw [cell k hk,cell _ (by omega)]
   exact ord k k0 hk
theorem yY {s:aR} (so:fF s) {n:Nat} {x:Ev} {M:Ev->Prop} {K:Nat->Prop} {H H1:List Ev} {W W1:List Int} (st:EJ n x M K H W H1 W1) (hn:n<=H.length) (wl:W.length=s.uses.length) (hl:n+s.free.length=s.uses.length)
 (ue: ∀i,i<s.uses.length->s.used[i]! =true-> ∃e:Ev,(e=x\/M e)/\e.ix=i/\e.2.2.2.2=s.uses[i]!) (un: ∀i,i<s.uses.length->s.used[i]! =false->K i/\W[i]! = -1)
 (ev: ∀e,(e=x\/M e)->sC e) (nums: ∀e f:Ev,(e=x\/M e)->(f=x\/M f)->e.num=f.num->e.ix=f.ix):eZ ⟨s,H1.take n,W1⟩:=by
 refine aJ5 so (fun e=>e=x\/M e) (by rw [st.hl];exact hn) (by rw [st.wl];exact wl) hl (by rw [st.wl];exact st.ix) st.mem st.ord ue ?_ ev nums
 intro i hi hu;rw [st.out i (un i hi hu).1];exact (un i hi hu).2
theorem eZ.bd {a:aG} (ok:eZ a):a.heap.length<=200/\a.where_.length<=200:=by
 have:=ok.hl;have:=ok.wl;have:=ok.so.n2
 omega
theorem eZ.cells {a:aG} (ok:eZ a):nJ a.heap.length a.heap a.where_:=by
 have:=ok.bd
 refine ⟨Nat.le_refl _,by omega,fun w hw=>?_⟩
 obtain ⟨b1,b2,b3,b4,b5⟩:=ok.back hw;exact ⟨ok.ev w hw,b1,by rw [ok.wl];exact b2⟩
theorem eZ.inj {a:aG} (ok:eZ a) {v w:Nat} (hv:v<a.heap.length) (hw:w<a.heap.length) (h:Ev.ix a.heap[v]! =Ev.ix a.heap[w]!):v=w:=by
 have h1:=(ok.back hv).2.2.2.2;have h2:=(ok.back hw).2.2.2.2
 have:Ev.n a.heap[v]! =Ev.n a.heap[w]!:=by show (Ev.ix a.heap[v]!).toNat=(Ev.ix a.heap[w]!).toNat;rw [h]
 rw [this] at h1;omega
theorem eZ.grand {a:aG} (ok:eZ a) {i k:Nat} (i0:0<i) (k0:0<k) (hk:k<a.heap.length) (hp:(k-1) / 2=i): ¬dO a.heap[k]! a.heap[(i-1) / 2]!:=by
 have h1:=ok.ord k k0 hk;rw [hp] at h1;exact AA (ok.ev _ (by omega)).den (ok.ev _ (by omega)).den (ok.ev _ hk).den (ok.ord i i0 (by omega)) h1
theorem eZ.live {a:aG} (ok:eZ a) {h:Int×Int} (lv:xX a.slots h): ∃i,i<a.heap.length/\a.where_[h.1.toNat]! =(i:Int)/\(a.heap[i]!).2.2.2=h:=by
 obtain ⟨l1,l2,l3,l4⟩:=lv;obtain ⟨f1,f2,f3,f4⟩:=ok.fwd h.1.toNat (by omega) l3
 refine ⟨(a.where_[h.1.toNat]!).toNat,by omega,by omega,?_⟩
 have e1:(a.heap[(a.where_[h.1.toNat]!).toNat]!).2.2.2.1=h.1:=by
  have:Ev.ix a.heap[(a.where_[h.1.toNat]!).toNat]! =(h.1.toNat:Int):=f3
  have h2:Ev.ix a.heap[(a.where_[h.1.toNat]!).toNat]! =(a.heap[(a.where_[h.1.toNat]!).toNat]!).2.2.2.1:=rfl;omega
 exact Prod.ext e1 (by rw [f4,l4])
theorem eZ.handle {a:aG} (ok:eZ a) {i:Nat} (hi:i<a.heap.length):xX a.slots (a.heap[i]!).2.2.2/\a.where_[((a.heap[i]!).2.2.2.1).toNat]! =(i:Int):=by
 obtain ⟨b1,b2,b3,b4,b5⟩:=ok.back hi;exact ⟨⟨b1,b2,b3,b4⟩,b5⟩
theorem eZ.used_ev {a:aG} (ok:eZ a) {i:Nat} (hi:i<a.slots.uses.length) (hu:a.slots.used[i]! =true): ∃w,w<a.heap.length/\Ev.ix a.heap[w]! =i/\(a.heap[w]!).2.2.2.2=a.slots.uses[i]!:=by
 obtain ⟨f1,f2,f3,f4⟩:=ok.fwd i hi hu;exact ⟨(a.where_[i]!).toNat,by omega,f3,f4⟩
theorem eZ.no_ev {a:aG} (ok:eZ a) {i:Nat} (hu:a.slots.used[i]! =false) {w:Nat} (hw:w<a.heap.length):Ev.n a.heap[w]!≠i:=by
 intro h
 have:=(ok.back hw).2.2.1
 rw [h,hu] at this;cases this
theorem eZ.nums {a:aG} (ok:eZ a) {v w:Nat} (hv:v<a.heap.length) (hw:w<a.heap.length) (h:Ev.num a.heap[v]! =Ev.num a.heap[w]!):v=w:=by
 rcases Nat.lt_trichotomy v w with h1|h1|h1
 · exact absurd h (ok.nd v w h1 hw)
 · exact h1
 · exact absurd h.symm (ok.nd w v h1 hv)
theorem set_same {α:Type} [Inhabited α] {l:List α} {k:Nat} {v:α} (h:l[k]! =v):l.set k v=l:=by
 by_cases hk:k<l.length
 · apply DI (by rw [List.length_set])
   intro i hi;rw [bG];split
   · rename_i e;rw [e.1];exact h.symm
   · rfl
 · exact List.set_eq_of_length_le (by omega)
def sD (x:Ev) (t:Int×Int):Ev:=(t.1,t.2,x.2.2)
noncomputable def kQ (a:aG) (i:Nat) (t:Int×Int):aG:=⟨a.slots,(cK a.heap.length (sD a.heap[i]! t) i a.heap a.where_).1,(cK a.heap.length (sD a.heap[i]! t) i a.heap a.where_).2⟩
theorem NB {a:aG} (ok:eZ a) {i:Nat} (hi:i<a.heap.length) {t:Int×Int} (ht:bM t) (h64:mU t):sC (sD a.heap[i]! t):=by
 have:=ok.ev i hi
 exact ⟨ht,h64,this.2.2.1,this.2.2.2⟩
theorem NC {a:aG} (ok:eZ a) {i:Nat} (hi:i<a.heap.length) (t:Int×Int):F7 a.heap.length (sD a.heap[i]! t) (fun e=> ∃w,w<a.heap.length/\w≠i/\a.heap[w]! =e) a.heap a.where_ i:=by
 obtain ⟨b1,b2,b3,b4,b5⟩:=ok.back hi;refine ⟨hi,Nat.le_refl _,fun w hw hwi=>?_,b1,by rw [ok.wl];exact b2,fun e=>Iff.rfl⟩
 obtain ⟨c1,c2,c3,c4,c5⟩:=ok.back hw;exact ⟨c1,by rw [ok.wl];exact c2,c5,fun h=>hwi (ok.inj hw hi h)⟩
theorem PA {a:aG} (ok:eZ a) (i:Nat):GD a.heap.length a.heap i:=
 ⟨fun w hw=>(ok.ev w hw).den,fun k k0 hk _ _=>ok.ord k k0 hk,fun i0 _k k0 hk hp=>ok.grand i0 k0 hk hp⟩
theorem oJ {a:aG} (ok:eZ a) {i:Nat} (hi:i<a.heap.length) {t:Int×Int} (ht:bM t):
 EJ a.heap.length (sD a.heap[i]! t) (fun e=> ∃w,w<a.heap.length/\w≠i/\a.heap[w]! =e) (fun k=>k≠Ev.n (sD a.heap[i]! t)/\ ∀w,w<a.heap.length->w≠i->Ev.n a.heap[w]!≠k) a.heap a.where_ (kQ a i t).heap (kQ a i t).where_:=
 DK (x:=sD a.heap[i]! t) ht.1 (NC ok hi t) (PA ok i)
theorem I7 {a:aG} (ok:eZ a) {i:Nat} (hi:i<a.heap.length) {t:Int×Int} (ht:bM t):(kQ a i t).heap.length=a.heap.length/\(kQ a i t).where_.length=a.where_.length:=
 ⟨(oJ ok hi ht).hl,(oJ ok hi ht).wl⟩
theorem aAr {a:aG} (ok:eZ a) {i:Nat} (hi:i<a.heap.length) {t:Int×Int} (ht:bM t) (e:Ev):e∈(kQ a i t).heap↔(e=sD a.heap[i]! t\/(e∈a.heap/\e≠a.heap[i]!)):=by
 have st:=oJ ok hi ht;have h1:e∈(kQ a i t).heap↔ ∃w,w<a.heap.length/\((kQ a i t).heap)[w]! =e:=by
  rw [aY,(I7 ok hi ht).1]
 rw [h1];refine (st.mem e).trans ?_;constructor
 · rintro (h|⟨w,hw,hwi,rfl⟩)
   · exact .inl h
   · exact .inr ⟨bB hw,fun h=>hwi (ok.inj hw hi (by rw [h]))⟩
 · rintro (h|⟨h,hne⟩)
   · exact .inl h
   · obtain ⟨w,hw,rfl⟩:=aY.1 h
     exact .inr ⟨w,hw,fun h=>hne (by rw [h]),rfl⟩
theorem aCp {a:aG} (ok:eZ a) {i:Nat} (hi:i<a.heap.length) {t:Int×Int} (ht:bM t) (h64:mU t):eZ (kQ a i t):=by
 have st:=oJ ok hi ht;have len:=(I7 ok hi ht).1;have hx:Ev.ix (sD a.heap[i]! t)=Ev.ix a.heap[i]!:=rfl;have key:=yY ok.so st (Nat.le_refl _) ok.wl ok.hl (fun j hj hu=>by
  obtain ⟨w,hw,e1,e2⟩:=ok.used_ev hj hu
  by_cases e:w=i
  · subst e;exact ⟨sD a.heap[w]! t,.inl rfl,e1,e2⟩
  · exact ⟨a.heap[w]!,.inr ⟨w,hw,e,rfl⟩,e1,e2⟩) (fun j hj hu=>⟨⟨(ok.no_ev hu hi).symm,fun w hw _=>ok.no_ev hu hw⟩,ok.un j hj hu⟩) (by
  rintro e (rfl|⟨w,hw,_,rfl⟩)
  · exact NB ok hi ht h64
  · exact ok.ev w hw) (by
  rintro e f (rfl|⟨v,hv,hvi,rfl⟩) (rfl|⟨w,hw,hwi,rfl⟩) he
  · rfl
  · exact absurd (ok.nums hi hw he).symm hwi
  · exact absurd (ok.nums hv hi he) hvi
  · rw [ok.nums hv hw he])
 have:(kQ a i t).heap.take a.heap.length=(kQ a i t).heap:=List.take_of_length_le (by rw [len];exact Nat.le_refl _)
 show eZ ⟨a.slots,(kQ a i t).heap,(kQ a i t).where_⟩;rw [<- this];exact key
theorem UB {a:aG} (ok:eZ a) (fit:DM a) {h:Int×Int} {i:Nat} (hi:i<a.heap.length) (hh:(a.heap[i]!).2.2.2=h):qE a h=some ((i:Int),0):=by
 obtain ⟨lv,wv⟩:=ok.handle hi;rw [hh] at lv;unfold qE;rw [jR a fit,if_pos ok];simp only [aB,show ((0:Int) !=0)=false from rfl,cond_false,JY ok.so,aM lv,Bool.not_true]
 have:=lv.2.1;have:=lv.1;have:=ok.wl
 have e:(a.heap[i]!).2.2.2.1=h.1:=by rw [hh]
 rw [dM (l:=a.where_) lv.1 (by omega),<- e,wv]
 rfl
theorem KE {a:aG} (ok:eZ a) (fit:DM a) {h t:Int×Int} {i:Nat} (hi:i<a.heap.length) (hh:(a.heap[i]!).2.2.2=h) (ht:bM t) (h64:mU t):vE a h t=some (kQ a i t,0):=by
 have bd:=ok.bd;obtain ⟨b1,b2,b3,b4,b5⟩:=ok.back hi;unfold vE;rw [jR a fit,if_pos ok,dU h64,if_pos ht];have pl:=UB ok fit hi hh;have se:=M6 (u:=a.slots.uses) (us:=a.slots.used) (fr:=a.slots.free) (NB ok hi ht h64) (show 0<=Ev.ix (sD a.heap[i]! t) from b1) ok.cells rfl hi (show Ev.ix (sD a.heap[i]! t)<a.where_.length by rw [ok.wl];exact b2)
 have se':fC (a.slots.uses,a.slots.used,a.slots.free,(i:Int),t.1,t.2,(a.heap[i]!).2.2.1,(a.heap[i]!).2.2.2.1,(a.heap[i]!).2.2.2.2,a.heap,a.where_)=some (cK a.heap.length (sD a.heap[i]! t) i a.heap a.where_):=se
 simp only [aB,gt_iff_lt,Int.lt_irrefl,if_false,show ((0:Int) !=0)=false from rfl,cond_false,pl,bH (show a.heap.length<=1048576 by omega),bH (show a.where_.length<=1048576 by omega),aC a.heap i hi,se']
 rfl
theorem sT {a:aG} (ok:eZ a):rW a=some a:=by
 have bd:=ok.bd;unfold rW;simp only [yV ok.so,aB,bH (show a.heap.length<=1048576 by omega),bH (show a.where_.length<=1048576 by omega)]
theorem I8 {a:aG} (ok:eZ a) {h t:Int×Int} {i:Nat} (hi:i<a.heap.length) (hh:(a.heap[i]!).2.2.2=h) (ht:bM t) (h64:mU t):yR a h t=some (kQ a i t):=by
 have bd:=ok.bd;obtain ⟨b1,b2,b3,b4,b5⟩:=ok.back hi;obtain ⟨lv,wv⟩:=ok.handle hi;have hx:=NB ok hi ht h64;have x1:Ev.ix (sD a.heap[i]! t)<a.where_.length:=by rw [ok.wl];exact b2
 have st:=oJ ok hi ht;obtain ⟨j,H1,W1,e1,e3,e4,e5,e6,e7,e8,e9,e10⟩:=KQ (x:=sD a.heap[i]! t) ht.1 i a.heap a.where_ (NC ok hi t) (PA ok i);have w1:a.where_.set (Ev.n (sD a.heap[i]! t)) (i:Int)=a.where_:=set_same b5;unfold yR;rw [sT ok];have g1:aO a.where_ h.1=some (i:Int):=by
  have e:(a.heap[i]!).2.2.2.1=h.1:=by rw [hh]
  rw [dM (l:=a.where_) (i:=h.1) (by rw [<- e];exact b1) (by rw [<- e,ok.wl];exact b2),<- e,wv]
 have u1:wM ((i:Int),a.slots.uses,a.slots.used,a.slots.free,a.heap.set i (sD a.heap[i]! t),a.where_)=some ((j:Int),a.slots.uses,a.slots.used,a.slots.free,H1.set j (sD a.heap[i]! t),W1.set (Ev.n (sD a.heap[i]! t)) (j:Int)):=by
  unfold wM
  have:=aCk (c0:=((i:Int),a.slots.uses,a.slots.used,a.slots.free,a.heap.set i (sD a.heap[i]! t),a.where_)) (u:=a.slots.uses) (us:=a.slots.used) (fr:=a.slots.free) hx b1 rfl rfl rfl i a.heap a.where_ ok.cells hi rfl x1 List.length_set rfl
  rw [w1,e1] at this;exact this
 have cells1:nJ a.heap.length H1 W1:=by
  refine ⟨by rw [e5];exact Nat.le_refl _,by omega,fun w hw=>?_⟩
  exact ⟨(DL ok.cells hi e1 w hw).1,(DL ok.cells hi e1 w hw).2.1,by rw [e6];exact (DL ok.cells hi e1 w hw).2.2⟩
 have d1:rZ ((j:Int),a.slots.uses,a.slots.used,a.slots.free,H1.set j (sD a.heap[i]! t),W1.set (Ev.n (sD a.heap[i]! t)) (j:Int))=some (a.slots.uses,a.slots.used,a.slots.free,(cK a.heap.length (sD a.heap[i]! t) i a.heap a.where_).1,(cK a.heap.length (sD a.heap[i]! t) i a.heap a.where_).2):=by
  unfold rZ
  have:=T7 (c0:=((j:Int),a.slots.uses,a.slots.used,a.slots.free,H1.set j (sD a.heap[i]! t),W1.set (Ev.n (sD a.heap[i]! t)) (j:Int))) (n:=a.heap.length) (u:=a.slots.uses) (us:=a.slots.used) (fr:=a.slots.free) hx b1 rfl rfl rfl a.heap.length j H1 W1 (by omega) cells1 e3.lt e5 (by rw [e6];exact x1) List.length_set List.length_set
  rw [this];unfold cK;rw [e1]
 have s1:bZ a.heap (i:Int) (t.1,t.2,(a.heap[i]!).2.2)=a.heap.set i (sD a.heap[i]! t):=rfl;simp only [aB,g1,aC a.heap i hi,s1,u1,d1];rfl
end Go.Proofs.YthljmpcakagceaaGreat
namespace Go.Proofs.YthljmpcakagceaaGreat
open Go.Vm Classical
theorem PB (H:List Ev) (n:Int) (hl:H.length<=1000000):cS H n=some (decide (∃w,w<H.length/\(H[w]!).2.2.1=n)):=by
 unfold cS eW;have key:=lS (body:=cR) (fun i=>(H,n,(H.length:Int),(i:Int))) H.length (fun i=>(H[i]!).2.2.1=n) (fun i=>(i:Int)) (e:= -1) (fun i hi=>by
  have e1:decide ((i:Int)<(H.length:Int))=true:=aM (by omega)
  unfold cR yO;simp only [e1,cond_true,aC H i hi,aB,bC (show i<1000000000 by omega)]
  constructor
  · intro h;rw [gL h];rfl
  · intro h;rw [fW h];rfl) (by
  unfold cR
  have:decide ((H.length:Int)<(H.length:Int))=false:=aI (by omega)
  simp only [this,cond_false])
 rw [aF]
 by_cases hx: ∃w,w<H.length/\(H[w]!).2.2.1=n
 · obtain ⟨k,h1,h2,h3⟩:=HD hx
   have:=key.1 k h1 h2 h3
   rw [show ((0:Nat):Int)=0 from rfl] at this;rw [this,aM hx];simp only [aB,aM (show (0:Int)<=(k:Int) by omega)]
 · have:=key.2 fun i hi he=>hx ⟨i,hi,he⟩
   rw [show ((0:Nat):Int)=0 from rfl] at this;rw [this,aI hx];rfl
noncomputable def dE (a:aG) (t:Int×Int) (n:Int):Ev:=(t.1,t.2,n,mB a.slots)
noncomputable def mC (a:aG) (t:Int×Int) (n:Int):aG:=
 ⟨hH a.slots,(cK (a.heap.length+1) (dE a t n) a.heap.length (a.heap++[dE a t n]) a.where_).1,(cK (a.heap.length+1) (dE a t n) a.heap.length (a.heap++[dE a t n]) a.where_).2⟩
section
variable {a : aG} (ok : eZ a) (op : CB a.slots) {t : Int × Int} (ht : bM t) (h64 : mU t) {n : Int} (n0 : 0 <= n) (n1 : n <= 1000000)
include ok op
theorem HL:Ev.ix (dE a t n)=(cZ a.slots:Int)/\cZ a.slots<a.slots.uses.length/\a.slots.used[cZ a.slots]! =false/\a.slots.free.length=(hH a.slots).free.length+1:=by
 obtain ⟨h1,h2,h3⟩:=EI ok.so op.1;refine ⟨rfl,h1,?_,?_⟩
 · have:=ok.so.uf (cZ a.slots) h1
   cases h:a.slots.used[cZ a.slots]! with
   |false=>rfl
   |true=>exact absurd h3 (this.1 h)
 · show _=(a.slots.free.take (a.slots.free.length-1)).length+1
   have:=op.1
   rw [List.length_take];omega
theorem PC:F7 (a.heap.length+1) (dE a t n) (fun e=>e∈a.heap) (a.heap++[dE a t n]) a.where_ a.heap.length:=by
 obtain ⟨h1,h2,h3,h4⟩:=HL (t:=t) (n:=n) ok op;have cell: ∀w,w<a.heap.length->(a.heap++[dE a t n])[w]! =a.heap[w]!:=fun w hw=>gV hw
 refine ⟨by omega,by simp,fun w hw hwi=>?_,by rw [h1];omega,by rw [h1,ok.wl];omega,fun e=>?_⟩
 · have hw':w<a.heap.length:=by omega
   rw [cell w hw'];obtain ⟨c1,c2,c3,c4,c5⟩:=ok.back hw';refine ⟨c1,by rw [ok.wl];exact c2,c5,fun h=>?_⟩
   rw [h1] at h
   have:Ev.n a.heap[w]! =cZ a.slots:=by show (Ev.ix a.heap[w]!).toNat=_;omega
   exact ok.no_ev h3 hw' this
 · constructor
   · rintro ⟨w,hw,hwi,rfl⟩
     rw [cell w (by omega)]
     exact bB (by omega)
   · intro h
     obtain ⟨w,hw,rfl⟩:=aY.1 h;exact ⟨w,by omega,by omega,cell w hw⟩
theorem UC (ht:bM t):GD (a.heap.length+1) (a.heap++[dE a t n]) a.heap.length:=by
 have _:=op;have cell: ∀w,w<a.heap.length->(a.heap++[dE a t n])[w]! =a.heap[w]!:=fun w hw=>gV hw
 refine ⟨fun w hw=>?_,fun k k0 hk k1 k2=>?_,fun i0 k k0 hk hp=>by omega⟩
 · by_cases h:w<a.heap.length
   · rw [cell w h];exact (ok.ev w h).den
   · have:w=a.heap.length:=by omega
     subst this;rw [gZ (Nat.le_refl _),Nat.sub_self];exact ht.1
 · rw [cell k (by omega),cell _ (by omega)]
   exact ok.ord k k0 (by omega)
theorem BN (ht:bM t):EJ (a.heap.length+1) (dE a t n) (fun e=>e∈a.heap) (fun k=>k≠Ev.n (dE a t n)/\ ∀w,w<a.heap.length+1->w≠a.heap.length->Ev.n (a.heap++[dE a t n])[w]!≠k) (a.heap++[dE a t n]) a.where_ (mC a t n).heap (mC a t n).where_:=
 DK (x:=dE a t n) ht.1 (PC ok op) (UC ok op ht)
theorem HM (ht:bM t):(mC a t n).heap.length=a.heap.length+1:=by
 have:=(BN (n:=n) ok op ht).hl
 rw [this];simp
theorem UD (ht:bM t) (e:Ev):e∈(mC a t n).heap↔(e=dE a t n\/e∈a.heap):=by
 have st:=BN (n:=n) ok op ht;rw [aY,HM ok op ht];exact st.mem e
theorem Q7 (ht:bM t) (h64:mU t) (n0:0<=n) (n1:n<=1000000):sC (dE a t n):=by
 have _:=ok;have _:=op;exact ⟨ht,h64,n0,n1⟩
theorem YV (ht:bM t) (h64:mU t) (n0:0<=n) (n1:n<=1000000) (nn: ∀e∈a.heap,Ev.num e≠n):eZ (mC a t n):=by
 have st:=BN (n:=n) ok op ht;have len:=HM (n:=n) ok op ht;obtain ⟨h1,h2,h3,h4⟩:=HL (t:=t) (n:=n) ok op;have hu:=ok.so.ul;have ul:(hH a.slots).uses.length=a.slots.uses.length:=List.length_set;have key:=yY (aCi ok.so op) st (by simp) (by rw [ul];exact ok.wl) (by rw [ul];have:=ok.hl;omega) (fun j hj hu'=>by
  rw [ul] at hj;change (a.slots.used.set (cZ a.slots) true)[j]! =true at hu';rw [bG] at hu'
  show∃e:Ev,_/\_/\_=(a.slots.uses.set (cZ a.slots) (a.slots.uses[cZ a.slots]!+1))[j]!
  rw [bG]
  by_cases e:j=cZ a.slots
  · rw [if_pos ⟨e,h2⟩]
    exact ⟨dE a t n,.inl rfl,by rw [h1,e],rfl⟩
  · rw [if_neg (fun k=>e k.1)]
    rw [if_neg (fun k=>e k.1)] at hu'
    obtain ⟨w,hw,e1,e2⟩:=ok.used_ev hj hu';exact ⟨a.heap[w]!,.inr (bB hw),e1,e2⟩) (fun j hj hu'=>by
  rw [ul] at hj;change (a.slots.used.set (cZ a.slots) true)[j]! =false at hu';rw [bG] at hu'
  by_cases e:j=cZ a.slots
  · rw [if_pos ⟨e,by omega⟩] at hu';cases hu'
  · rw [if_neg (fun k=>e k.1)] at hu'
    refine ⟨⟨?_,fun w hw hwi=>?_⟩,ok.un j hj hu'⟩
    · show j≠(Ev.ix (dE a t n)).toNat
      omega
    · rw [gV (by omega)]
      exact ok.no_ev hu' (by omega)) (by
  rintro e (rfl|h)
  · exact Q7 ok op ht h64 n0 n1
  · obtain ⟨w,hw,rfl⟩:=aY.1 h
    exact ok.ev w hw) (by
  rintro e f (rfl|he) (rfl|hf) hn
  · rfl
  · exact absurd hn.symm (nn f hf)
  · exact absurd hn (nn e he)
  · obtain ⟨v,hv,rfl⟩:=aY.1 he
    obtain ⟨w,hw,rfl⟩:=aY.1 hf;rw [ok.nums hv hw hn])
 have:(mC a t n).heap.take (a.heap.length+1)=(mC a t n).heap:=List.take_of_length_le (by rw [len];exact Nat.le_refl _)
 show eZ ⟨hH a.slots,(mC a t n).heap,(mC a t n).where_⟩;rw [<- this];exact key
theorem ND (ht:bM t) (h64:mU t) (n0:0<=n) (n1:n<=1000000):nJ (a.heap.length+1) (a.heap++[dE a t n]) a.where_:=by
 have bd:=ok.bd;obtain ⟨h1,h2,h3,h4⟩:=HL (t:=t) (n:=n) ok op;refine ⟨by simp,by simp;omega,fun w hw=>?_⟩
 by_cases h:w<a.heap.length
 · rw [gV h];exact ok.cells.ev w h
 · have:w=a.heap.length:=by omega
   subst this;rw [gZ (Nat.le_refl _),Nat.sub_self];exact ⟨Q7 ok op ht h64 n0 n1,by show 0<=Ev.ix (dE a t n);omega,by show Ev.ix (dE a t n)<_;rw [ok.wl];omega⟩
theorem AB (fit:DM a) (ht:bM t) (h64:mU t) (n0:0<=n) (n1:n<=1000000) (nn: ∀e∈a.heap,Ev.num e≠n):lQ a t n=some (mC a t n,mB a.slots,0):=by
 have bd:=ok.bd;obtain ⟨h1,h2,h3,h4⟩:=HL (t:=t) (n:=n) ok op;have hn: ¬ ∃w,w<a.heap.length/\(a.heap[w]!).2.2.1=n:=by
  rintro ⟨w,hw,e⟩;exact nn _ (bB hw) e
 unfold lQ;rw [jR a fit,if_pos ok,dU h64,if_pos ht,PB _ _ (by omega),aI hn,HI ok.so,if_pos op]
 have se:=M6 (u:=(hH a.slots).uses) (us:=(hH a.slots).used) (fr:=(hH a.slots).free) (Q7 ok op ht h64 n0 n1) (show 0<=Ev.ix (dE a t n) by omega) (ND ok op ht h64 n0 n1) (by simp) (show a.heap.length<a.heap.length+1 by omega) (show Ev.ix (dE a t n)<a.where_.length by rw [ok.wl];omega)
 have e1:aA .i64 (((a.heap++[dE a t n]).length:Int) -1)=(a.heap.length:Int):=by rw [wi,List.length_append];simp;omega
 have ap:bK a.heap [(t.1,t.2,n,mB a.slots)]=some (a.heap++[dE a t n]):=dN (by simp;omega)
 have se':fC ((hH a.slots).uses,(hH a.slots).used,(hH a.slots).free,(a.heap.length:Int),t.1,t.2,n,(mB a.slots).1,(mB a.slots).2,a.heap++[dE a t n],a.where_)=some (cK (a.heap.length+1) (dE a t n) a.heap.length (a.heap++[dE a t n]) a.where_):=se
 simp only [aB,gt_iff_lt,Int.lt_irrefl,if_false,show ((0:Int) !=0)=false from rfl,cond_false,aI (show¬n<0 by omega),aI (show¬1000000<n by omega),bH (show a.heap.length<=1048576 by omega),bH (show a.where_.length<=1048576 by omega),ap,aF,e1,se']
 rfl
theorem CC (ht:bM t) (h64:mU t) (n0:0<=n) (n1:n<=1000000):fN a t n=some (mC a t n,mB a.slots):=by
 have bd:=ok.bd;obtain ⟨h1,h2,h3,h4⟩:=HL (t:=t) (n:=n) ok op;unfold fN;rw [sT ok];have e1:aA .i64 (((a.heap++[dE a t n]).length:Int) -1)=(a.heap.length:Int):=by rw [wi,List.length_append];simp;omega
 have ap:bK a.heap [(t.1,t.2,n,mB a.slots)]=some (a.heap++[dE a t n]):=dN (by simp;omega)
 have hx:=Q7 (n:=n) ok op ht h64 n0 n1;have last:cK (a.heap.length+1) (dE a t n) a.heap.length (a.heap++[dE a t n]) a.where_=_:=T5 (x:=dE a t n) ht.1 (PC ok op) (UC ok op ht) (fun k k0 hk hp=>by omega)
 have hs:(a.heap++[dE a t n]).set a.heap.length (dE a t n)=a.heap++[dE a t n]:=set_same (by rw [gZ (Nat.le_refl _),Nat.sub_self];rfl)
 have ws:bZ a.where_ (mB a.slots).1 (a.heap.length:Int)=a.where_.set (Ev.n (dE a t n)) (a.heap.length:Int):=rfl
 have u1:wN ((hH a.slots).uses,(hH a.slots).used,(hH a.slots).free,(a.heap.length:Int),a.heap++[dE a t n],a.where_.set (Ev.n (dE a t n)) (a.heap.length:Int))=some (((jM (dE a t n) a.heap.length (a.heap++[dE a t n]) a.where_).1:Int),(jM (dE a t n) a.heap.length (a.heap++[dE a t n]) a.where_).2.1.set (jM (dE a t n) a.heap.length (a.heap++[dE a t n]) a.where_).1 (dE a t n),(jM (dE a t n) a.heap.length (a.heap++[dE a t n]) a.where_).2.2.set (Ev.n (dE a t n)) ((jM (dE a t n) a.heap.length (a.heap++[dE a t n]) a.where_).1:Int)):=by
  unfold wN
  have:=aCm (c0:=((hH a.slots).uses,(hH a.slots).used,(hH a.slots).free,(a.heap.length:Int),a.heap++[dE a t n],a.where_.set (Ev.n (dE a t n)) (a.heap.length:Int))) (u:=(hH a.slots).uses) (us:=(hH a.slots).used) (fr:=(hH a.slots).free) hx (show 0<=Ev.ix (dE a t n) by omega) a.heap.length (a.heap++[dE a t n]) a.where_ (ND ok op ht h64 n0 n1) (by omega) (by simp) (by rw [ok.wl];omega) rfl List.length_set
  rw [hs] at this;exact this
 have g1:aO a.where_ (mB a.slots).1=some a.where_[cZ a.slots]!:=aC a.where_ (cZ a.slots) (by rw [ok.wl];exact h2)
 simp only [aB,M2 ok.so op,ap,g1,aF,e1,ws,u1];unfold mC;rw [last]
end
theorem AC {a:aG} (ok:eZ a) (op: ¬CB a.slots) (fit:DM a) {t:Int×Int} (ht:bM t) (h64:mU t) {n:Int} (n0:0<=n) (n1:n<=1000000) (nn: ∀e∈a.heap,Ev.num e≠n):lQ a t n=some (⟨⟨[],[],[]⟩,[],[]⟩,(0,0),18):=by
 have bd:=ok.bd;have hn: ¬ ∃w,w<a.heap.length/\(a.heap[w]!).2.2.1=n:=by
  rintro ⟨w,hw,e⟩;exact nn _ (bB hw) e
 unfold lQ;rw [jR a fit,if_pos ok,dU h64,if_pos ht,PB _ _ (by omega),aI hn,HI ok.so,if_neg op]
 simp only [aB,gt_iff_lt,Int.lt_irrefl,if_false,show ((0:Int) !=0)=false from rfl,cond_false,aI (show¬n<0 by omega),aI (show¬1000000<n by omega),show ((18:Int) !=0)=true from rfl,cond_true]
end Go.Proofs.YthljmpcakagceaaGreat
namespace Go.Proofs.YthljmpcakagceaaGreat
open Go.Vm Classical
theorem xY {l:List Ev} {n i:Nat} {v:Ev}:(l.set i v).take n=(l.take n).set i v:=by
 apply List.ext_getElem?;intro j;rw [List.getElem?_take,List.getElem?_set,List.getElem?_set,List.getElem?_take,List.length_take]
 by_cases h1:j<n
 · rw [if_pos h1]
   by_cases h2:i=j
   · subst h2
     by_cases h3:i<l.length
     · rw [if_pos rfl,if_pos h3,if_pos rfl,if_pos (by omega)]
     · rw [if_pos rfl,if_neg h3,if_pos rfl,if_neg (by omega)]
   · rw [if_neg h2,if_neg h2,if_pos h1]
 · rw [if_neg h1]
   by_cases h2:i=j
   · rw [if_pos h2,if_neg (by omega)]
   · rw [if_neg h2,if_neg h1]
theorem UE {n:Nat} {x:Ev}: ∀(i:Nat) (H:List Ev) (W:List Int),i<n->jM x i (H.take n) W=((jM x i H W).1,(jM x i H W).2.1.take n,(jM x i H W).2.2)
 |0,H,W,hi=>by rw [jM,jM]
 |i+1,H,W,hi=>by
  have e:(H.take n)[i / 2]! =H[i / 2]!:=lH (by omega)
  rw [jM,jM,e]
  by_cases h:dO x H[i / 2]!
  · rw [if_pos h,if_pos h,<- xY]
    exact UE (i / 2) _ _ (by omega)
  · rw [if_neg h,if_neg h]
termination_by i=>i
decreasing_by omega
theorem aCq {x:Ev}: ∀(i:Nat) (H:List Ev) (W:List Int),(jM x i H W).1<=i
 |0,H,W=>by rw [jM];exact Nat.le_refl _
 |i+1,H,W=>by
  rw [jM];split
  · exact Nat.le_trans (aCq (i / 2) _ _) (by omega)
  · exact Nat.le_refl _
termination_by i=>i
decreasing_by omega
theorem NE {n:Nat} {H:List Ev} {i:Nat} (hk:2*i+1<n):iL n (H.take n) i=iL n H i:=by
 unfold iL
 by_cases h:2*i+2<n
 · rw [lH h,lH (show 2*i+1<n by omega)]
 · rw [if_neg (fun k=>h k.1),if_neg (fun k=>h k.1)]
theorem UF {n:Nat} {x:Ev} {i:Nat} {H:List Ev} {W:List Int} (h:2*i+1<n) (hl:dO H[iL n H i]! x):dW n x i H W=dW n x (iL n H i) (H.set i H[iL n H i]!) (W.set (H[iL n H i]!).n (i:Int)):=by
 rw [dW,dif_pos h,if_pos hl]
theorem BO {n:Nat} {x:Ev} {i:Nat} {H:List Ev} {W:List Int} (h: ¬(2*i+1<n/\dO H[iL n H i]! x)):dW n x i H W=(i,H,W):=by
 rw [dW];split
 · rename_i h1;rw [if_neg (fun k=>h ⟨h1,k⟩)]
 · rfl
theorem NF {n : Nat} {x : Ev} : ∀ (d i : Nat) (H : List Ev) (W : List Int), n - i <= d -> dW n x i (H.take n) W = ((dW n x i H W).1, (dW n x i H W).2.1.take n, (dW n x i H W).2.2)
  | 0, i, H, W, hd => by
    rw [BO (fun h => by omega), BO (fun h => by omega)]
  | d + 1, i, H, W, hd => by
    have kc := pM n H i
    by_cases h : 2 * i + 1 < n /\ dO H[iL n H i]! x
    · have e : (H.take n)[iL n (H.take n) i]! = H[iL n H i]! := by rw [NE h.1, lH (by omega)]
      rw [UF h.1 h.2, UF (H := H.take n) h.1 (by rw [e]; exact h.2), e, NE h.1, <- xY]
      exact NF d _ _ _ (by omega)
    · have h' : ¬ (2 * i + 1 < n /\ dO (H.take n)[iL n (H.take n) i]! x) := by
        rintro ⟨k1, k2⟩
        rw [NE k1, lH (by omega)] at k2
        exact h ⟨k1, k2⟩
      rw [BO h, BO h']
theorem YW {x:Ev}: ∀(i:Nat) (H:List Ev) (W:List Int),(jM x i H W).2.1.length=H.length/\(jM x i H W).2.2.length=W.length
 |0,H,W=>by rw [jM];exact ⟨rfl,rfl⟩
 |i+1,H,W=>by
  rw [jM];split
  · have:=YW (x:=x) (i / 2) (H.set (i+1) H[i / 2]!) (W.set (H[i / 2]!).n ((i+1:Nat):Int))
    rwa [List.length_set,List.length_set] at this
  · exact ⟨rfl,rfl⟩
termination_by i=>i
decreasing_by omega
theorem HN {n:Nat} {x:Ev} {i:Nat} {H:List Ev} {W:List Int} (hi:i<n):cK n x i (H.take n) W=((cK n x i H W).1.take n,(cK n x i H W).2):=by
 unfold cK;rw [UE i H W hi];dsimp only;rw [NF n _ _ _ (by omega)]
 dsimp only;rw [xY]
noncomputable def eS (a:aG) (i:Nat):aG:=
 if i<a.heap.length-1 then ⟨fV a.slots (a.heap[i]!).2.2.2,(cK (a.heap.length-1) a.heap[a.heap.length-1]! i a.heap (a.where_.set (Ev.n a.heap[i]!) (-1))).1.take (a.heap.length-1),(cK (a.heap.length-1) a.heap[a.heap.length-1]! i a.heap (a.where_.set (Ev.n a.heap[i]!) (-1))).2⟩
 else ⟨fV a.slots (a.heap[i]!).2.2.2,a.heap.take (a.heap.length-1),a.where_.set (Ev.n a.heap[i]!) (-1)⟩
section
variable {a : aG} (ok : eZ a) {i : Nat} (hi : i < a.heap.length)
include ok hi
theorem AD {w:Nat} (hw:w<a.heap.length) (hne:w≠i):Ev.n a.heap[w]!≠Ev.n a.heap[i]!:=by
 have h1:=(ok.back hw).1;have h2:=(ok.back hi).1;exact aRy h1 h2 fun h=>hne (ok.inj hw hi h)
theorem PD:nJ (a.heap.length-1) a.heap (a.where_.set (Ev.n a.heap[i]!) (-1)):=by
 have c:=ok.cells;refine ⟨by omega,c.hb,fun w hw=>?_⟩
 rw [List.length_set];exact c.ev w (by omega)
theorem aCr (hlt:i<a.heap.length-1):F7 (a.heap.length-1) a.heap[a.heap.length-1]! (fun e=> ∃w,w<a.heap.length-1/\w≠i/\a.heap[w]! =e) a.heap (a.where_.set (Ev.n a.heap[i]!) (-1)) i:=by
 obtain ⟨b1,b2,b3,b4,b5⟩:=ok.back (show a.heap.length-1<a.heap.length by omega)
 refine ⟨hlt,by omega,fun w hw hwi=>?_,b1,by rw [List.length_set,ok.wl];exact b2,fun e=>Iff.rfl⟩
 obtain ⟨c1,c2,c3,c4,c5⟩:=ok.back (show w<a.heap.length by omega)
 refine ⟨c1,by rw [List.length_set,ok.wl];exact c2,?_,fun h=>?_⟩
 · rw [bG,if_neg (fun h=>AD ok hi (show w<a.heap.length by omega) hwi h.1)]
   exact c5
 · have:=ok.inj (show w<a.heap.length by omega) (show a.heap.length-1<a.heap.length by omega) h
   omega
theorem aJi:GD (a.heap.length-1) a.heap i:=
 ⟨fun w hw=>(ok.ev w (by omega)).den,fun k k0 hk _ _=>ok.ord k k0 (by omega),fun i0 k k0 hk hp=>ok.grand i0 k0 (by omega) hp⟩
theorem JZ (hlt:i<a.heap.length-1):
 EJ (a.heap.length-1) a.heap[a.heap.length-1]! (fun e=> ∃w,w<a.heap.length-1/\w≠i/\a.heap[w]! =e) (fun k=>k≠Ev.n a.heap[a.heap.length-1]!/\ ∀w,w<a.heap.length-1->w≠i->Ev.n a.heap[w]!≠k) a.heap (a.where_.set (Ev.n a.heap[i]!) (-1))
  (cK (a.heap.length-1) a.heap[a.heap.length-1]! i a.heap (a.where_.set (Ev.n a.heap[i]!) (-1))).1 (cK (a.heap.length-1) a.heap[a.heap.length-1]! i a.heap (a.where_.set (Ev.n a.heap[i]!) (-1))).2:=
 DK (ok.ev (a.heap.length-1) (by omega)).den (aCr ok hi hlt) (aJi ok hi)
theorem PE:fF (fV a.slots (a.heap[i]!).2.2.2):=aCh ok.so (ok.handle hi).1
theorem DO {j:Nat} (hj:j<a.slots.uses.length):(fV a.slots (a.heap[i]!).2.2.2).used[j]! =if j=Ev.n a.heap[i]! then false else a.slots.used[j]!:=by
 have _:=hi;show (a.slots.used.set (Ev.n a.heap[i]!) false)[j]! =_;rw [bG]
 have:=ok.so.ul
 by_cases e:j=Ev.n a.heap[i]!
 · rw [if_pos ⟨e,by omega⟩,if_pos e]
 · rw [if_neg (fun k=>e k.1),if_neg e]
theorem I9:eZ (eS a i):=by
 have hb:=ok.back hi;have hl:a.heap.length-1+(fV a.slots (a.heap[i]!).2.2.2).free.length=a.slots.uses.length:=by
  show a.heap.length-1+(a.slots.free++[_]).length=_;rw [List.length_append]
  have:=ok.hl
  simp only [List.length_cons,List.length_nil];omega
 have un: ∀j,j<a.slots.uses.length->(fV a.slots (a.heap[i]!).2.2.2).used[j]! =false->(a.where_.set (Ev.n a.heap[i]!) (-1))[j]! = -1:=by
  intro j hj hu;rw [DO ok hi hj] at hu;rw [bG]
  by_cases e:j=Ev.n a.heap[i]!
  · rw [if_pos ⟨e.symm▸rfl,by rw [ok.wl];omega⟩]
  · rw [if_neg e] at hu
    rw [if_neg (fun k=>e k.1)]
    exact ok.un j hj hu
 unfold eS
 by_cases hlt:i<a.heap.length-1
 · rw [if_pos hlt]
   have st:=JZ ok hi hlt;refine yY (PE ok hi) st (by omega) (by rw [List.length_set];exact ok.wl) hl (fun j hj hu=>?_) (fun j hj hu=>⟨⟨?_,fun w hw hwi=>?_⟩,un j hj hu⟩) ?_ ?_
   · change j<a.slots.uses.length at hj
     rw [DO ok hi hj] at hu
     by_cases e:j=Ev.n a.heap[i]!
     · rw [if_pos e] at hu;cases hu
     · rw [if_neg e] at hu
       obtain ⟨w,hw,e1,e2⟩:=ok.used_ev hj hu;refine ⟨a.heap[w]!,?_,e1,e2⟩
       by_cases hl':w=a.heap.length-1
       · left;rw [hl']
       · refine .inr ⟨w,by omega,fun h=>e ?_,rfl⟩
         rw [<- h];show j=(Ev.ix a.heap[w]!).toNat;omega
   · change j<a.slots.uses.length at hj
     rw [DO ok hi hj] at hu
     by_cases e:j=Ev.n a.heap[i]!
     · rw [e];exact (AD ok hi (by omega) (by omega)).symm
     · rw [if_neg e] at hu
       exact (ok.no_ev hu (by omega)).symm
   · change j<a.slots.uses.length at hj
     rw [DO ok hi hj] at hu
     by_cases e:j=Ev.n a.heap[i]!
     · rw [e];exact AD ok hi (by omega) hwi
     · rw [if_neg e] at hu
       exact ok.no_ev hu (by omega)
   · rintro e (rfl|⟨w,hw,_,rfl⟩)
     · exact ok.ev _ (by omega)
     · exact ok.ev w (by omega)
   · rintro e f (rfl|⟨v,hv,hvi,rfl⟩) (rfl|⟨w,hw,hwi,rfl⟩) he
     · rfl
     · rw [ok.nums (by omega) (by omega) he]
     · rw [ok.nums (by omega) (by omega) he]
     · rw [ok.nums (by omega) (by omega) he]
 · rw [if_neg hlt]
   have hie:i=a.heap.length-1:=by omega
   refine aJ5 (PE ok hi) (fun e=> ∃w,w<a.heap.length-1/\a.heap[w]! =e) (by omega) (by rw [List.length_set];exact ok.wl) hl (fun w hw=>?_) (fun e=>Iff.rfl) (fun k k0 hk=>ok.ord k k0 (by omega)) (fun j hj hu=>?_) un ?_ ?_
   · obtain ⟨c1,c2,c3,c4,c5⟩:=ok.back (show w<a.heap.length by omega)
     refine ⟨c1,by rw [List.length_set,ok.wl];exact c2,?_⟩
     rw [bG,if_neg (fun h=>AD ok hi (show w<a.heap.length by omega) (by omega) h.1)]
     exact c5
   · change j<a.slots.uses.length at hj
     rw [DO ok hi hj] at hu
     by_cases e:j=Ev.n a.heap[i]!
     · rw [if_pos e] at hu;cases hu
     · rw [if_neg e] at hu
       obtain ⟨w,hw,e1,e2⟩:=ok.used_ev hj hu;refine ⟨a.heap[w]!,⟨w,?_,rfl⟩,e1,e2⟩
       have:w≠i:=fun h=>e (by rw [<- h];show j=(Ev.ix a.heap[w]!).toNat;omega)
       omega
   · rintro e ⟨w,hw,rfl⟩
     exact ok.ev w (by omega)
   · rintro e f ⟨v,hv,rfl⟩ ⟨w,hw,rfl⟩ he
     rw [ok.nums (by omega) (by omega) he]
theorem NG (e:Ev):e∈(eS a i).heap↔(e∈a.heap/\e≠a.heap[i]!):=by
 have other: ∀w,w<a.heap.length->(a.heap[w]!≠a.heap[i]!↔w≠i):=fun w hw=>⟨fun h k=>h (by rw [k]),fun h k=>h (ok.inj hw hi (by rw [k]))⟩
 unfold eS
 by_cases hlt:i<a.heap.length-1
 · rw [if_pos hlt]
   have st:=JZ ok hi hlt;show e∈(_:List Ev).take _↔_;rw [E8 (by rw [st.hl];omega)]
   refine (st.mem e).trans ?_;constructor
   · rintro (h|⟨w,hw,hwi,rfl⟩)
     · rw [h];exact ⟨bB (by omega),(other _ (by omega)).2 (by omega)⟩
     · exact ⟨bB (by omega),(other _ (by omega)).2 hwi⟩
   · rintro ⟨h,hne⟩
     obtain ⟨w,hw,rfl⟩:=aY.1 h
     by_cases c:w=a.heap.length-1
     · left;rw [c]
     · exact .inr ⟨w,by omega,(other w hw).1 hne,rfl⟩
 · rw [if_neg hlt]
   show e∈a.heap.take _↔_;rw [E8 (by omega)]
   constructor
   · rintro ⟨w,hw,rfl⟩
     exact ⟨bB (by omega),(other _ (by omega)).2 (by omega)⟩
   · rintro ⟨h,hne⟩
     obtain ⟨w,hw,rfl⟩:=aY.1 h
     have:=(other w hw).1 hne
     exact ⟨w,by omega,rfl⟩
theorem JA:sM a (i:Int)=some (eS a i,a.heap[i]!,0):=by
 have bd:=ok.bd;obtain ⟨b1,b2,b3,b4,b5⟩:=ok.back hi;obtain ⟨c1,c2,c3,c4,c5⟩:=ok.back (show a.heap.length-1<a.heap.length by omega)
 unfold sM;have e1:aA .i64 ((a.heap.length:Int) -1)=((a.heap.length-1:Nat):Int):=BK (by omega) (by omega)
 have g1:aO a.where_ (a.heap[i]!).2.2.2.1=some a.where_[(a.heap[i]!).2.2.2.1.toNat]!:=dM b1 (by rw [ok.wl];exact b2)
 have ws:bZ a.where_ (a.heap[i]!).2.2.2.1 (-1)=a.where_.set (Ev.n a.heap[i]!) (-1):=rfl
 simp only [aC a.heap i hi,aB,Q1 ok.so (ok.handle hi).1,show ((0:Int) !=0)=false from rfl,cond_false,bH (show a.heap.length<=1048576 by omega),bH (show a.where_.length<=1048576 by omega),aF,e1,aC a.heap (a.heap.length-1) (by omega),mQ a.heap (a.heap.length-1) (by omega),g1,ws,Int.toNat_natCast]
 unfold eS
 by_cases hlt:i<a.heap.length-1
 · rw [aM (by omega),if_pos hlt]
   have se:=WR (cap:=a.heap.length) (u:=(fV a.slots (a.heap[i]!).2.2.2).uses) (us:=(fV a.slots (a.heap[i]!).2.2.2).used) (fr:=(fV a.slots (a.heap[i]!).2.2.2).free) (ok.ev (a.heap.length-1) (by omega)) (show 0<=Ev.ix a.heap[a.heap.length-1]! from c1) (PD ok hi) hlt (show Ev.ix a.heap[a.heap.length-1]!<_ by rw [List.length_set,ok.wl];exact c2)
   rw [se];rfl
 · rw [aI (by omega),if_neg hlt]
   rfl
theorem AE (fit:DM a) {h:Int×Int} (hh:(a.heap[i]!).2.2.2=h):mN a h=some (eS a i,a.heap[i]!,0):=by
 unfold mN;rw [UB ok fit hi hh];simp only [aB,show ((0:Int) !=0)=false from rfl,cond_false,JA ok hi]
theorem AF {h:Int×Int} (hh:(a.heap[i]!).2.2.2=h):mP a h=some (eS a i):=by
 have bd:=ok.bd;subst hh;obtain ⟨b1,b2,b3,b4,b5⟩:=ok.back hi;obtain ⟨c1,c2,c3,c4,c5⟩:=ok.back (show a.heap.length-1<a.heap.length by omega)
 unfold mP;rw [sT ok];have e1:aA .i64 ((a.heap.length:Int) -1)=((a.heap.length-1:Nat):Int):=BK (by omega) (by omega)
 have g1:aO a.where_ (a.heap[i]!).2.2.2.1=some (i:Int):=by
  rw [dM (l:=a.where_) b1 (by rw [ok.wl];exact b2)]
  exact congrArg some b5
 have gv:=M1 ok.so (ok.handle hi).1;simp only [aB,g1,aF,e1,Int.toNat_natCast];unfold eS
 by_cases hlt:i<a.heap.length-1
 · rw [fE (show (i:Int)≠((a.heap.length-1:Nat):Int) by omega),if_pos hlt]
   have hne:a.heap.length-1≠i:=by omega
   have nn:Ev.n a.heap[a.heap.length-1]!≠Ev.n a.heap[i]!:=AD ok hi (by omega) hne
   have sw:=HK (n:=a.heap.length) (x:=a.heap[i]!) (u:=a.slots.uses) (us:=a.slots.used) (fr:=a.slots.free) (H:=a.heap) (W:=a.where_) hi (show a.heap.length-1<a.heap.length by omega) hne rfl b1 (by rw [ok.wl];exact b2) c1 (by rw [ok.wl];exact c2)
   rw [set_same (l:=a.heap) rfl,set_same (l:=a.where_) b5] at sw;have hs:(a.heap.set i a.heap[a.heap.length-1]!).set (a.heap.length-1) a.heap[i]! =(a.heap.set (a.heap.length-1) a.heap[i]!).set i a.heap[a.heap.length-1]!:=List.set_comm _ _ (by omega)
   have ws:bZ ((a.where_.set (Ev.n a.heap[a.heap.length-1]!) (i:Int)).set (Ev.n a.heap[i]!) ((a.heap.length-1:Nat):Int)) (a.heap[i]!).2.2.2.1 (-1)=(a.where_.set (Ev.n a.heap[i]!) (-1)).set (Ev.n a.heap[a.heap.length-1]!) (i:Int):=by
    show ((a.where_.set (Ev.n a.heap[a.heap.length-1]!) (i:Int)).set (Ev.n a.heap[i]!) ((a.heap.length-1:Nat):Int)).set (Ev.n a.heap[i]!) (-1)=_;rw [List.set_set,List.set_comm _ _ nn]
   have g2:aO ((a.where_.set (Ev.n a.heap[a.heap.length-1]!) (i:Int)).set (Ev.n a.heap[i]!) ((a.heap.length-1:Nat):Int)) (a.heap[i]!).2.2.2.1=some _:=dM b1 (by rw [List.length_set,List.length_set,ok.wl];exact b2)
   have cells:nJ (a.heap.length-1) (a.heap.set (a.heap.length-1) a.heap[i]!) (a.where_.set (Ev.n a.heap[i]!) (-1)):=by
    refine ⟨by rw [List.length_set];omega,by rw [List.length_set];omega,fun w hw=>?_⟩
    rw [bG,if_neg (by omega)]
    exact (PD ok hi).ev w hw
   have x1:Ev.ix a.heap[a.heap.length-1]!<(a.where_.set (Ev.n a.heap[i]!) (-1)).length:=by rw [List.length_set,ok.wl];exact c2
   have hx:=ok.ev (a.heap.length-1) (by omega)
   have gv':uB (aR.mk a.slots.uses a.slots.used a.slots.free) (a.heap[i]!).2.2.2=some (fV a.slots (a.heap[i]!).2.2.2):=gv;have tk:(a.heap.set (a.heap.length-1) a.heap[i]!).take (a.heap.length-1)=a.heap.take (a.heap.length-1):=by rw [xY];exact List.set_eq_of_length_le (by rw [List.length_take];omega)
   have U:qS ((fV a.slots (a.heap[i]!).2.2.2).uses,(fV a.slots (a.heap[i]!).2.2.2).used,(fV a.slots (a.heap[i]!).2.2.2).free,a.heap.length-1,((a.heap.set (a.heap.length-1) a.heap[i]!).set i a.heap[a.heap.length-1]!).length,(i:Int),(a.heap.set (a.heap.length-1) a.heap[i]!).set i a.heap[a.heap.length-1]!,(a.where_.set (Ev.n a.heap[i]!) (-1)).set (Ev.n a.heap[a.heap.length-1]!) (i:Int))=
    some (((jM a.heap[a.heap.length-1]! i (a.heap.set (a.heap.length-1) a.heap[i]!) (a.where_.set (Ev.n a.heap[i]!) (-1))).1:Int),(jM a.heap[a.heap.length-1]! i (a.heap.set (a.heap.length-1) a.heap[i]!) (a.where_.set (Ev.n a.heap[i]!) (-1))).2.1.set (jM a.heap[a.heap.length-1]! i (a.heap.set (a.heap.length-1) a.heap[i]!) (a.where_.set (Ev.n a.heap[i]!) (-1))).1 a.heap[a.heap.length-1]!,(jM a.heap[a.heap.length-1]! i (a.heap.set (a.heap.length-1) a.heap[i]!) (a.where_.set (Ev.n a.heap[i]!) (-1))).2.2.set (Ev.n a.heap[a.heap.length-1]!) ((jM a.heap[a.heap.length-1]! i (a.heap.set (a.heap.length-1) a.heap[i]!) (a.where_.set (Ev.n a.heap[i]!) (-1))).1:Int)):=by
    unfold qS
    exact aCj (n:=a.heap.length-1) (c0:=((fV a.slots (a.heap[i]!).2.2.2).uses,(fV a.slots (a.heap[i]!).2.2.2).used,(fV a.slots (a.heap[i]!).2.2.2).free,a.heap.length-1,((a.heap.set (a.heap.length-1) a.heap[i]!).set i a.heap[a.heap.length-1]!).length,(i:Int),(a.heap.set (a.heap.length-1) a.heap[i]!).set i a.heap[a.heap.length-1]!,(a.where_.set (Ev.n a.heap[i]!) (-1)).set (Ev.n a.heap[a.heap.length-1]!) (i:Int))) hx c1 i _ _ cells hlt x1 List.length_set List.length_set
   have ul:=aCq (x:=a.heap[a.heap.length-1]!) i (a.heap.set (a.heap.length-1) a.heap[i]!) (a.where_.set (Ev.n a.heap[i]!) (-1));have un:=YW (x:=a.heap[a.heap.length-1]!) i (a.heap.set (a.heap.length-1) a.heap[i]!) (a.where_.set (Ev.n a.heap[i]!) (-1));have uc:=fun w hw=>DL (x:=a.heap[a.heap.length-1]!) cells hlt (i:=i) rfl w hw
   have cells1:nJ (a.heap.length-1) (jM a.heap[a.heap.length-1]! i (a.heap.set (a.heap.length-1) a.heap[i]!) (a.where_.set (Ev.n a.heap[i]!) (-1))).2.1 (jM a.heap[a.heap.length-1]! i (a.heap.set (a.heap.length-1) a.heap[i]!) (a.where_.set (Ev.n a.heap[i]!) (-1))).2.2:=by
    refine ⟨by rw [un.1,List.length_set];omega,by rw [un.1,List.length_set];omega,fun w hw=>?_⟩
    rw [un.2];exact uc w hw
   have D:nT ((fV a.slots (a.heap[i]!).2.2.2).uses,(fV a.slots (a.heap[i]!).2.2.2).used,(fV a.slots (a.heap[i]!).2.2.2).free,a.heap.length-1,((a.heap.set (a.heap.length-1) a.heap[i]!).set i a.heap[a.heap.length-1]!).length,((jM a.heap[a.heap.length-1]! i (a.heap.set (a.heap.length-1) a.heap[i]!) (a.where_.set (Ev.n a.heap[i]!) (-1))).1:Int),(jM a.heap[a.heap.length-1]! i (a.heap.set (a.heap.length-1) a.heap[i]!) (a.where_.set (Ev.n a.heap[i]!) (-1))).2.1.set (jM a.heap[a.heap.length-1]! i (a.heap.set (a.heap.length-1) a.heap[i]!) (a.where_.set (Ev.n a.heap[i]!) (-1))).1 a.heap[a.heap.length-1]!,(jM a.heap[a.heap.length-1]! i (a.heap.set (a.heap.length-1) a.heap[i]!) (a.where_.set (Ev.n a.heap[i]!) (-1))).2.2.set (Ev.n a.heap[a.heap.length-1]!) ((jM a.heap[a.heap.length-1]! i (a.heap.set (a.heap.length-1) a.heap[i]!) (a.where_.set (Ev.n a.heap[i]!) (-1))).1:Int))=
    some (cK (a.heap.length-1) a.heap[a.heap.length-1]! i (a.heap.set (a.heap.length-1) a.heap[i]!) (a.where_.set (Ev.n a.heap[i]!) (-1))):=by
    unfold nT
    exact T6 (n:=a.heap.length-1) (c0:=((fV a.slots (a.heap[i]!).2.2.2).uses,(fV a.slots (a.heap[i]!).2.2.2).used,(fV a.slots (a.heap[i]!).2.2.2).free,a.heap.length-1,((a.heap.set (a.heap.length-1) a.heap[i]!).set i a.heap[a.heap.length-1]!).length,((jM a.heap[a.heap.length-1]! i (a.heap.set (a.heap.length-1) a.heap[i]!) (a.where_.set (Ev.n a.heap[i]!) (-1))).1:Int),(jM a.heap[a.heap.length-1]! i (a.heap.set (a.heap.length-1) a.heap[i]!) (a.where_.set (Ev.n a.heap[i]!) (-1))).2.1.set (jM a.heap[a.heap.length-1]! i (a.heap.set (a.heap.length-1) a.heap[i]!) (a.where_.set (Ev.n a.heap[i]!) (-1))).1 a.heap[a.heap.length-1]!,(jM a.heap[a.heap.length-1]! i (a.heap.set (a.heap.length-1) a.heap[i]!) (a.where_.set (Ev.n a.heap[i]!) (-1))).2.2.set (Ev.n a.heap[a.heap.length-1]!) ((jM a.heap[a.heap.length-1]! i (a.heap.set (a.heap.length-1) a.heap[i]!) (a.where_.set (Ev.n a.heap[i]!) (-1))).1:Int))) hx c1 a.heap.length (jM a.heap[a.heap.length-1]! i (a.heap.set (a.heap.length-1) a.heap[i]!) (a.where_.set (Ev.n a.heap[i]!) (-1))).1 (jM a.heap[a.heap.length-1]! i (a.heap.set (a.heap.length-1) a.heap[i]!) (a.where_.set (Ev.n a.heap[i]!) (-1))).2.1 (jM a.heap[a.heap.length-1]! i (a.heap.set (a.heap.length-1) a.heap[i]!) (a.where_.set (Ev.n a.heap[i]!) (-1))).2.2 (by omega) cells1 (by omega) (by rw [un.2];exact x1) List.length_set List.length_set
   have st:=HN (n:=(a.heap.length-1)) (x:=a.heap[a.heap.length-1]!) (i:=i) (H:=(a.heap.set (a.heap.length-1) a.heap[i]!)) (W:=(a.where_.set (Ev.n a.heap[i]!) (-1))) hlt;have st2:=HN (n:=(a.heap.length-1)) (x:=a.heap[a.heap.length-1]!) (i:=i) (H:=a.heap) (W:=(a.where_.set (Ev.n a.heap[i]!) (-1))) hlt;rw [tk,st2] at st;injection st with st1 st3
   simp only [cond_true,sw,aB,mQ _ (a.heap.length-1) (show a.heap.length-1<=((a.heap.set (a.heap.length-1) a.heap[i]!).set i a.heap[a.heap.length-1]!).length by rw [List.length_set,List.length_set];omega),g2,gv',ws,hs,U,D,<- st1,<- st3]
 · rw [dR (show (i:Int)=((a.heap.length-1:Nat):Int) by omega),if_neg hlt]
   have ws:bZ a.where_ (a.heap[i]!).2.2.2.1 (-1)=a.where_.set (Ev.n a.heap[i]!) (-1):=rfl;simp only [cond_false,mQ a.heap (a.heap.length-1) (by omega),aB,gv,ws]
end
end Go.Proofs.YthljmpcakagceaaGreat
namespace Go.Proofs.YthljmpcakagceaaGreat
open Go.Vm Classical
abbrev uC:=Int×Int×Int
theorem eZ.fit {a:aG} (ok:eZ a):DM a:=by
 have bd:=ok.bd
 have:=ok.so.fl
 have:=ok.so.n2
 exact ⟨by omega,by omega,by omega,fun w hw=>(ok.ev w hw).2.1⟩
theorem KT (l:List uC) (id:Int) (hl:l.length<=1000000) (hs: ∀i j,i<j->j<l.length->(l[i]!).1<(l[j]!).1):
 (∀k,k<l.length->(l[k]!).1=id->aV l id ()=some ((k:Int),true))/\
 ((∀k,k<l.length->(l[k]!).1≠id)-> ∃m,m<=l.length/\(∀i,i<m->(l[i]!).1<id)/\(∀i,m<=i->i<l.length->id<(l[i]!).1)/\aV l id ()=some ((m:Int),false)):=by
 obtain ⟨m,m1,m2,m3⟩:=T4 (fun i=>(l[i]!).1) id l.length hs
 have run:aV l id ()=aH aT (l,id,(l.length:Int),(m:Int),(m:Int)):=by
  unfold aV;refine I3 (body:=aT) (fun lo hi=>(l,id,(l.length:Int),(lo:Int),(hi:Int))) l.length m (fun i=>(l[i]!).1<id) (fun lo hi h1 h2=>?_) m2 (fun i h1 h2 h3=>by have:=m3 i h1 h2;omega) l.length 0 l.length (by omega) (by omega) m1 (Nat.le_refl _)
  have e1:decide ((lo:Int)<(hi:Int))=true:=aM (by omega)
  have hh:=aJd (a:=lo) (b:=hi) (by omega) (by omega)
  unfold aT tJ;simp only [e1,cond_true,hh,aC l ((lo+hi) / 2) (by omega),lI,aB,bC (show (lo+hi) / 2<1000000000 by omega)]
  constructor
  · intro h
    have:decide (kL (l[(lo+hi) / 2]!).1 id<0)=true:=by
     rcases eB (l[(lo+hi) / 2]!).1 id with ⟨a,e⟩|⟨a,e⟩|⟨a,e⟩<;>rw [e]<;>first|rfl|omega
    rw [this];rfl
  · intro h
    have:decide (kL (l[(lo+hi) / 2]!).1 id<0)=false:=by
     rcases eB (l[(lo+hi) / 2]!).1 id with ⟨a,e⟩|⟨a,e⟩|⟨a,e⟩<;>rw [e]<;>first|rfl|omega
    rw [this];rfl
 have fin:aH aT (l,id,(l.length:Int),(m:Int),(m:Int))=if m<l.length/\(l[m]!).1=id then some ((m:Int),true) else some ((m:Int),false):=by
  have e1:decide ((m:Int)<(m:Int))=false:=aI (by omega)
  by_cases hm:m<l.length
  · have e2:decide ((m:Int)<(l.length:Int))=true:=aM (by omega)
    have body:aT (l,id,(l.length:Int),(m:Int),(m:Int))=some (.done ((m:Int),kL (l[m]!).1 id==0)):=by
     unfold aT tJ;simp only [e1,e2,cond_true,cond_false,aC l m hm,lI,aB]
    rw [aL body];rcases eB (l[m]!).1 id with ⟨a,e⟩|⟨a,e⟩|⟨a,e⟩
    · rw [e,if_neg (fun h=>by omega)];rfl
    · rw [e,if_pos ⟨hm,a⟩];rfl
    · rw [e,if_neg (fun h=>by omega)];rfl
  · have e2:decide ((m:Int)<(l.length:Int))=false:=aI (by omega)
    have body:aT (l,id,(l.length:Int),(m:Int),(m:Int))=some (.done ((m:Int),false)):=by
     unfold aT;simp only [e1,e2,cond_false]
    rw [aL body,if_neg (fun h=>hm h.1)]
 rw [run,fin];constructor
 · intro k hk he
   have hkm:k=m:=by
    rcases Nat.lt_trichotomy k m with h|h|h
    · have:=m2 k h;omega
    · exact h
    · have h1:=m3 m (Nat.le_refl _) (by omega)
      have h2:=hs m k h hk;omega
   subst hkm;rw [if_pos ⟨hk,he⟩]
 · intro h
   refine ⟨m,m1,m2,fun i h1 h2=>?_,?_⟩
   · have:=m3 i h1 h2
     have:=h i h2
     omega
   · rw [if_neg (fun k=>h m k.1 k.2)]
theorem aOZ:dB=aV:=rfl
theorem aCs:cY=aV:=rfl
theorem aJj:dA=aV:=rfl
theorem wS {α:Type} (l:List α) (k:Nat):l.eraseIdx k=l.take k++l.drop (k+1):=List.eraseIdx_eq_take_drop_succ l k
theorem J0 (l:List uC) (k:Nat) (hk:k<l.length): ∃L:List uC,eH ((k:Int),((k+1:Nat):Int),l)=some (l.length-1,l.length,L)/\L.take (l.length-1)=l.eraseIdx k:=by
 unfold eH;have e1:decide ((0:Int)<=(k:Int))=true:=aM (by omega)
 have e2:decide ((k:Int)<=((k+1:Nat):Int))=true:=aM (by omega)
 have e3:decide (((k+1:Nat):Int)<=(l.length:Int))=true:=aM (by omega)
 have e4:decide ((l.length:Int)<=(l.length:Int))=true:=aM (by omega)
 have e5:((k:Int)==((k+1:Nat):Int))=false:=fW (by omega)
 have e6:decide ((0:Int)<=((k+1:Nat):Int))=true:=aM (by omega)
 have e7:decide ((k:Int)<=(l.length:Int))=true:=aM (by omega)
 have dr:(l.drop (k+1)).take (l.length- (k+1))=l.drop (k+1):=List.take_of_length_le (by rw [List.length_drop];exact Nat.le_refl _)
 have dl:(l.drop (k+1)).length=l.length- (k+1):=List.length_drop;simp only [aF,e1,e2,e3,e4,e5,e6,e7,Bool.and_self,cond_true,cond_false,mQ l k (by omega),aB,Int.toNat_natCast,Nat.zero_add,dr,dl,Bool.not_false,Bool.and_true]
 by_cases h:k+1=l.length
 · have em:(l.drop (k+1)).isEmpty=true:=by rw [List.isEmpty_iff,List.drop_eq_nil_iff];omega
   have n1:Nat.beq (l.length-k) 0=false:=by
    cases hb:Nat.beq (l.length-k) 0 with
    |false=>rfl
    |true=>have:=Nat.eq_of_beq_eq_true hb;omega
   have n2:Nat.ble (k+(l.length-k)) l.length=true:=Nat.ble_eq_true_of_le (by omega)
   have ll:(hM l k (List.replicate (l.length-k) ((0:Int),(0:Int),(0:Int)))).length=l.length:=by
    unfold hM;simp;omega
   simp only [em,cond_true,n1,cond_false,n2,ll,beq_self_eq_true];refine ⟨_,by rw [show k=l.length-1 by omega],?_⟩
   rw [wS,show l.length-1=k by omega]
   unfold hM;rw [List.append_assoc,List.take_append_of_le_length (by rw [List.length_take];omega),List.take_take,Nat.min_self]
   rw [List.drop_eq_nil_of_le (by omega),List.append_nil]
 · have em:(l.drop (k+1)).isEmpty=false:=by
    cases hb:(l.drop (k+1)).isEmpty with
    |false=>rfl
    |true=>rw [List.isEmpty_iff,List.drop_eq_nil_iff] at hb;omega
   have n1:Nat.ble (k+(l.length- (k+1))) l.length=true:=Nat.ble_eq_true_of_le (by omega)
   have n2:decide ((0:Int)<=((k+(l.length- (k+1)):Nat):Int))=true:=aM (by omega)
   have n3:decide (((k+(l.length- (k+1)):Nat):Int)<=(l.length:Int))=true:=aM (by omega)
   have n4:Nat.beq (l.length- (k+(l.length- (k+1)))) 0=false:=by
    cases hb:Nat.beq (l.length- (k+(l.length- (k+1)))) 0 with
    |false=>rfl
    |true=>have:=Nat.eq_of_beq_eq_true hb;omega
   have l1:(hM l k (l.drop (k+1))).length=l.length:=by
    unfold hM;simp;omega
   have n5:Nat.ble (k+(l.length- (k+1))+(l.length- (k+(l.length- (k+1))))) l.length=true:=Nat.ble_eq_true_of_le (by omega)
   have l2:(hM (hM l k (l.drop (k+1))) (k+(l.length- (k+1))) (List.replicate (l.length- (k+(l.length- (k+1)))) ((0:Int),(0:Int),(0:Int)))).length=l.length:=by
    unfold hM;simp;omega
   simp only [em,cond_false,n1,cond_true,n2,n3,Bool.and_self,n4,l1,n5,l2,beq_self_eq_true];refine ⟨_,by rw [show k+(l.length- (k+1))=l.length-1 by omega],?_⟩
   rw [wS]
   have:k+(l.length- (k+1))=l.length-1:=by omega
   unfold hM;rw [List.append_assoc,List.take_append_of_le_length (by simp;omega),List.take_take,Nat.min_self,List.append_assoc]
   rw [show (l.take k++(l.drop (k+1)++l.drop (k+(l.drop (k+1)).length)))=(l.take k++l.drop (k+1))++l.drop (k+(l.drop (k+1)).length) by rw [List.append_assoc]]
   rw [List.take_append_of_le_length (by simp;omega),List.take_of_length_le (by simp;omega)]
theorem WU:lX=eH:=rfl
theorem NH {α:Type} [Inhabited α] {l:List α} {k i:Nat}:(l.eraseIdx k)[i]! =if i<k then l[i]! else l[i+1]!:=by
 rw [wS]
 by_cases hk:k<l.length
 · by_cases h:i<k
   · rw [if_pos h,gV (by rw [List.length_take];omega),lH h]
   · rw [if_neg h,gZ (by rw [List.length_take];omega),vP,List.length_take]
     congr 1;omega
 · have e1:l.take k=l:=List.take_of_length_le (by omega)
   have e2:l.drop (k+1)=[]:=List.drop_eq_nil_of_le (by omega)
   rw [e1,e2,List.append_nil];split
   · rfl
   · rw [getElem!_neg l i (by omega),getElem!_neg l (i+1) (by omega)]
end Go.Proofs.YthljmpcakagceaaGreat
namespace Go.Proofs.YthljmpcakagceaaGreat
open Go.Vm Classical
def fA (x:Int×Int):Prop:=0<=x.1/\x.1<=65535/\0<=x.2/\x.2<=65535/\x.1≠x.2
theorem E9 (x:Int×Int):wF x=some (decide (fA x)):=by
 obtain ⟨a,b⟩:=x;unfold wF;dsimp only
 by_cases h1:0<=a
 · by_cases h3:0<=b
   · have e1:decide (0<=if b<a then b else a)=true:=aM (by split<;>omega)
     rw [e1]
     by_cases h2:a<=65535
     · by_cases h4:b<=65535
       · have e2:decide ((if b>a then b else a)<=65535)=true:=aM (by split<;>omega)
         rw [e2]
         by_cases h5:a=b
         · rw [dR h5,aI (p:=fA (a,b)) (fun h=>h.2.2.2.2 h5)];rfl
         · rw [fE h5,aM (p:=fA (a,b)) ⟨h1,h2,h3,h4,h5⟩];rfl
       · have e2:decide ((if b>a then b else a)<=65535)=false:=aI (by split<;>omega)
         rw [e2,aI (p:=fA (a,b)) (fun h=>h4 h.2.2.2.1)];rfl
     · have e2:decide ((if b>a then b else a)<=65535)=false:=aI (by split<;>omega)
       rw [e2,aI (p:=fA (a,b)) (fun h=>h2 h.2.1)];rfl
   · have e1:decide (0<=if b<a then b else a)=false:=aI (by split<;>omega)
     rw [e1,aI (p:=fA (a,b)) (fun h=>h3 h.2.2.1)];rfl
 · have e1:decide (0<=if b<a then b else a)=false:=aI (by split<;>omega)
   rw [e1,aI (p:=fA (a,b)) (fun h=>h1 h.1)];rfl
theorem yZ (x:Int×Int):rQ x=some (decide (fA x)):=by
 obtain ⟨a,b⟩:=x;unfold rQ;dsimp only
 by_cases h1:0<=a
 · by_cases h2:a<=65535
   · by_cases h3:0<=b
     · by_cases h4:b<=65535
       · by_cases h5:a=b
         · rw [dR h5,aM h1,aM h2,aM h3,aM h4,aI (p:=fA (a,b)) (fun h=>h.2.2.2.2 h5)];rfl
         · rw [fE h5,aM h1,aM h2,aM h3,aM h4,aM (p:=fA (a,b)) ⟨h1,h2,h3,h4,h5⟩];rfl
       · rw [aM h1,aM h2,aM h3,aI h4,aI (p:=fA (a,b)) (fun h=>h4 h.2.2.2.1)];rfl
     · rw [aM h1,aM h2,aI h3,aI (p:=fA (a,b)) (fun h=>h3 h.2.2.1)];rfl
   · rw [aM h1,aI h2,aI (p:=fA (a,b)) (fun h=>h2 h.2.1)];rfl
 · rw [aI h1,aI (p:=fA (a,b)) (fun h=>h1 h.1)];rfl
structure eX (c:aU):Prop where
 len:c.list.length<=200
 n0:0<=c.next_
 n1:c.next_<=1000000
 cv: ∀i,i<c.list.length->fA (c.list[i]!).2
 nr: ∀i,i<c.list.length->0<=(c.list[i]!).1/\(c.list[i]!).1<c.next_
 up: ∀i j,i<j->j<c.list.length->(c.list[i]!).1<(c.list[j]!).1
 nd: ∀i j,i<j->j<c.list.length->(c.list[i]!).2≠(c.list[j]!).2
def DP (l:List uC) (i:Nat):Int:=if i=0 then -1 else (l[i-1]!).1
def WV (c:aU) (i:Nat):Prop:=fA (c.list[i]!).2/\(∀j,j<i->(c.list[j]!).2≠(c.list[i]!).2)/\DP c.list i<(c.list[i]!).1/\(c.list[i]!).1<c.next_
theorem eX.iff {c:aU} (h1:c.list.length<=200) (h2:0<=c.next_) (h3:c.next_<=1000000):eX c↔ ∀i,i<c.list.length->WV c i:=by
 constructor
 · intro ok i hi
   refine ⟨ok.cv i hi,fun j hj=>ok.nd j i hj hi,?_,(ok.nr i hi).2⟩
   unfold DP;split
   · have:=(ok.nr i hi).1;omega
   · exact ok.up (i-1) i (by omega) hi
 · intro h
   have low: ∀i,i<c.list.length->0<=(c.list[i]!).1:=by
    intro i
    induction i with
    |zero=>
     intro hi
     have:=(h 0 hi).2.2.1
     unfold DP at this;rw [if_pos rfl] at this;omega
    |succ i ih=>
     intro hi;have h1:=(h (i+1) hi).2.2.1;unfold DP at h1;rw [if_neg (by omega),show i+1-1=i by omega] at h1
     have:=ih (by omega)
     omega
   have up: ∀i j,i<j->j<c.list.length->(c.list[i]!).1<(c.list[j]!).1:=by
    intro i j
    induction j with
    |zero=>intro h;omega
    |succ j ih=>
     intro hij hj;have h1:=(h (j+1) hj).2.2.1;unfold DP at h1;rw [if_neg (by omega),show j+1-1=j by omega] at h1
     by_cases e:i=j
     · subst e;exact h1
     · have:=ih (by omega) (by omega)
       omega
   exact ⟨h1,h2,h3,fun i hi=>(h i hi).1,fun i hi=>⟨low i hi,(h i hi).2.2.2⟩,up,fun i j hij hj=>(h j hj).2.1 i hij⟩
theorem NI (l:List uC) (k:Nat) (a b:Int):pW [a,b] ((l.take k).map fun x=>[x.2.1,x.2.2])=true:=by
 unfold pW;rw [List.all_eq_true];intro x hx;obtain ⟨y,hy,rfl⟩:=List.mem_map.1 hx;rfl
theorem NJ (l:List uC) (k:Nat) (x:Int×Int):J9 ((l.take k).map fun y=>[y.2.1,y.2.2]) [x.1,x.2]=decide (∃j,j<k/\j<l.length/\(l[j]!).2=x):=by
 unfold J9;rw [Bool.eq_iff_iff,List.any_eq_true,decide_eq_true_iff];constructor
 · rintro ⟨y,hy,he⟩
   obtain ⟨z,hz,rfl⟩:=List.mem_map.1 hy;obtain ⟨j,h1,h2,rfl⟩:=cL.1 hz
   have:[x.1,x.2]=[(l[j]!).2.1,(l[j]!).2.2]:=by simpa using he
   injection this with e1 e2;injection e2 with e2 _;exact ⟨j,h1,h2,Prod.ext e1.symm e2.symm⟩
 · rintro ⟨j,h1,h2,h3⟩
   refine ⟨[(l[j]!).2.1,(l[j]!).2.2],List.mem_map.2 ⟨l[j]!,cL.2 ⟨j,h1,h2,rfl⟩,rfl⟩,?_⟩;rw [h3];simp
theorem zA (c:aU):rJ c=some (if eX c then 0 else 8):=by
 unfold rJ;simp only [aF]
 by_cases h1:200<c.list.length
 · rw [aM (show (200:Int)<(c.list.length:Int) by omega),if_neg (fun h=>by have:=h.len;omega)];rfl
 rw [aI (show¬(200:Int)<(c.list.length:Int) by omega)]
 by_cases h2:c.next_<0
 · rw [aM h2,if_neg (fun h=>by have:=h.n0;omega)];rfl
 rw [aI h2]
 by_cases h3:1000000<c.next_
 · rw [aM h3,if_neg (fun h=>by have:=h.n1;omega)];rfl
 rw [aI h3];simp only [cond_false];have key:=dC (body:=sJ) (fun i=>(DP c.list i,c.list,(c.list.length:Int),(i:Int),c.next_,c.list,(c.list.take i).map fun x=>[x.2.1,x.2.2])) c.list.length (fun i=> ¬WV c i) (r:=8) (e:=0) (fun i hi=>by
  have e1:decide ((i:Int)<(c.list.length:Int))=true:=aM (by omega)
  have has:SC ((c.list.take i).map fun x=>[x.2.1,x.2.2]) [(c.list[i]!).2.1,(c.list[i]!).2.2]=some (decide (∃j,j<i/\j<c.list.length/\(c.list[j]!).2=(c.list[i]!).2)):=by
   unfold SC;rw [NI,NJ];rfl
  have nx:(c.list.take (i+1)).map (fun x=>[x.2.1,x.2.2])=((c.list.take i).map fun x=>[x.2.1,x.2.2])++[[(c.list[i]!).2.1,(c.list[i]!).2.2]]:=by
   rw [jL hi,List.map_append];rfl
  have ln:DP c.list (i+1)=(c.list[i]!).1:=by unfold DP;rw [if_neg (by omega),show i+1-1=i by omega]
  unfold sJ;simp only [e1,cond_true,aC c.list i hi,aB,E9,has,nx,ln,bC (show i<1000000000 by omega)]
  unfold WV
  by_cases b1:fA (c.list[i]!).2
  case neg=>
   rw [aI b1];exact ⟨fun _=>rfl,fun h=>absurd (Classical.not_not.1 h).1 b1⟩
  rw [aM b1]
  by_cases b2: ∃j,j<i/\j<c.list.length/\(c.list[j]!).2=(c.list[i]!).2
  · rw [aM b2]
    refine ⟨fun _=>rfl,fun h=>?_⟩
    obtain ⟨j,j1,j2,j3⟩:=b2;exact absurd j3 ((Classical.not_not.1 h).2.1 j j1)
  rw [aI b2];have b2': ∀j,j<i->(c.list[j]!).2≠(c.list[i]!).2:=fun j hj he=>b2 ⟨j,hj,by omega,he⟩
  by_cases b3:(c.list[i]!).1<=DP c.list i
  · rw [aM b3]
    exact ⟨fun _=>rfl,fun h=>absurd (Classical.not_not.1 h).2.2.1 (by omega)⟩
  rw [aI b3]
  by_cases b4:c.next_<=(c.list[i]!).1
  · rw [aM b4]
    exact ⟨fun _=>rfl,fun h=>absurd (Classical.not_not.1 h).2.2.2 (by omega)⟩
  rw [aI b4];have ins:SD ((c.list.take i).map fun x=>[x.2.1,x.2.2]) [(c.list[i]!).2.1,(c.list[i]!).2.2]=some (((c.list.take i).map fun x=>[x.2.1,x.2.2])++[[(c.list[i]!).2.1,(c.list[i]!).2.2]]):=by
   unfold SD VD;rw [NI,NJ,aI b2];rfl
  rw [ins];exact ⟨fun h=>absurd ⟨b1,b2',by omega,by omega⟩ h,fun _=>rfl⟩) (by
  unfold sJ
  have:decide ((c.list.length:Int)<(c.list.length:Int))=false:=aI (by omega)
  simp only [this,cond_false])
 have h0:DP c.list 0= -1:=rfl;rw [h0] at key
 by_cases ok:eX c
 · rw [if_pos ok]
   exact key.2 fun i hi=>Classical.not_not.2 ((eX.iff (by omega) (by omega) (by omega)).1 ok i hi)
 · rw [if_neg ok]
   rw [eX.iff (by omega) (by omega) (by omega)] at ok
   obtain ⟨i,h⟩:=Classical.not_forall.1 ok;obtain ⟨hi,hx⟩:=Classical.not_imp.1 h;exact key.1 ⟨i,hi,hx⟩
theorem UG (c:aU) (i:Nat) (hi:i<c.list.length) (hl:c.list.length<=200):
 ((∃j,j<i/\(c.list[j]!).2=(c.list[i]!).2)->aH gF ((i:Int),0,c.next_,c.list,c.list[i]!)=some (.done 8))/\
 ((∀j,j<i-> ¬(c.list[j]!).2=(c.list[i]!).2)->aH gF ((i:Int),0,c.next_,c.list,c.list[i]!)=some (.next (((i+1:Nat):Int),c.next_,c.list))):=by
 refine dC (body:=gF) (fun j=>((i:Int),(j:Int),c.next_,c.list,c.list[i]!)) i (fun j=>(c.list[j]!).2=(c.list[i]!).2) (r:= .done 8) (e:= .next (((i+1:Nat):Int),c.next_,c.list)) (fun j hj=>?_) ?_
 · have e1:decide ((j:Int)<(i:Int))=true:=aM (by omega)
   unfold gF;simp only [e1,cond_true,aC c.list j (by omega),aB,bC (show j<1000000000 by omega)]
   generalize c.list[j]! =x;generalize c.list[i]! =y;constructor
   · intro h;rw [gL (congrArg Prod.fst h),gL (congrArg Prod.snd h)];rfl
   · intro h
     by_cases h1:x.2.1=y.2.1
     · rw [gL h1,fW (fun h2=>h (Prod.ext h1 h2))];rfl
     · rw [fW h1];rfl
 · unfold gF
   have:decide ((i:Int)<(i:Int))=false:=aI (by omega)
   simp only [this,cond_false,bC (show i<1000000000 by omega)]
theorem DQ (c:aU):tQ c=some (if eX c then 0 else 8):=by
 unfold tQ;simp only [aF]
 by_cases h1:200<c.list.length
 · rw [aM (show (200:Int)<(c.list.length:Int) by omega),if_neg (fun h=>by have:=h.len;omega)];rfl
 rw [aI (show¬(200:Int)<(c.list.length:Int) by omega)]
 by_cases h2:c.next_<0
 · rw [aM h2,if_neg (fun h=>by have:=h.n0;omega)];rfl
 rw [aI h2]
 by_cases h3:1000000<c.next_
 · rw [aM h3,if_neg (fun h=>by have:=h.n1;omega)];rfl
 rw [aI h3];simp only [cond_false];have key:=dC (body:=qI) (fun i=>((i:Int),c.next_,c.list)) c.list.length (fun i=> ¬(fA (c.list[i]!).2/\0<=(c.list[i]!).1/\(c.list[i]!).1<c.next_/\(0<i->(c.list[i-1]!).1<(c.list[i]!).1)/\ ∀j,j<i-> ¬(c.list[j]!).2=(c.list[i]!).2)) (r:=8) (e:=0) (fun i hi=>by
  have e1:decide ((i:Int)<(c.list.length:Int))=true:=aM (by omega)
  have l1:=UG c i hi (by omega)
  unfold qI;simp only [aF,e1,cond_true,aC c.list i hi,aB,yZ]
  by_cases b1:fA (c.list[i]!).2
  case neg=>
   rw [aI b1];exact ⟨fun _=>rfl,fun h=>absurd (Classical.not_not.1 h).1 b1⟩
  rw [aM b1]
  by_cases b2:(c.list[i]!).1<0
  · rw [aM b2]
    exact ⟨fun _=>rfl,fun h=>absurd (Classical.not_not.1 h).2.1 (by omega)⟩
  rw [aI b2]
  by_cases b3:c.next_<=(c.list[i]!).1
  · rw [aM b3]
    exact ⟨fun _=>rfl,fun h=>absurd (Classical.not_not.1 h).2.2.1 (by omega)⟩
  rw [aI b3];simp only [Bool.not_true,cond_false];have go:(0<i->(c.list[i-1]!).1<(c.list[i]!).1)->(¬(fA (c.list[i]!).2/\0<=(c.list[i]!).1/\(c.list[i]!).1<c.next_/\(0<i->(c.list[i-1]!).1<(c.list[i]!).1)/\ ∀j,j<i-> ¬(c.list[j]!).2=(c.list[i]!).2)->aH gF ((i:Int),0,c.next_,c.list,c.list[i]!)=some (.done 8))/\
   (¬¬(fA (c.list[i]!).2/\0<=(c.list[i]!).1/\(c.list[i]!).1<c.next_/\(0<i->(c.list[i-1]!).1<(c.list[i]!).1)/\ ∀j,j<i-> ¬(c.list[j]!).2=(c.list[i]!).2)->aH gF ((i:Int),0,c.next_,c.list,c.list[i]!)=some (.next (((i+1:Nat):Int),c.next_,c.list))):=by
   intro hp;constructor
   · intro h
     refine l1.1 (Classical.byContradiction fun hx=>h ⟨b1,by omega,by omega,hp,fun j hj he=>hx ⟨j,hj,he⟩⟩)
   · intro h
     exact l1.2 (Classical.not_not.1 h).2.2.2.2
  by_cases b4:0<i
  · have f1:decide ((0:Int)<(i:Int))=true:=aM (by omega)
    simp only [f1,cond_true,BK (show i<1000000000 by omega) b4,aC c.list (i-1) (by omega),aB]
    by_cases b5:(c.list[i]!).1<=(c.list[i-1]!).1
    · rw [aM b5]
      exact ⟨fun _=>rfl,fun h=>absurd ((Classical.not_not.1 h).2.2.2.1 b4) (by omega)⟩
    · rw [aI b5]
      exact go fun _=>by omega
  · have f1:decide ((0:Int)<(i:Int))=false:=aI (by omega)
    rw [f1];exact go fun h=>absurd h b4) (by
  unfold qI
  have:decide ((c.list.length:Int)<(c.list.length:Int))=false:=aI (by omega)
  simp only [aF,this,cond_false])
 have same:eX c↔ ∀i,i<c.list.length->(fA (c.list[i]!).2/\0<=(c.list[i]!).1/\(c.list[i]!).1<c.next_/\(0<i->(c.list[i-1]!).1<(c.list[i]!).1)/\ ∀j,j<i-> ¬(c.list[j]!).2=(c.list[i]!).2):=by
  constructor
  · intro ok i hi
    exact ⟨ok.cv i hi,(ok.nr i hi).1,(ok.nr i hi).2,fun h=>ok.up (i-1) i (by omega) hi,fun j hj=>ok.nd j i hj hi⟩
  · intro h
    rw [eX.iff (by omega) (by omega) (by omega)]
    intro i hi;obtain ⟨a1,a2,a3,a4,a5⟩:=h i hi;refine ⟨a1,a5,?_,a3⟩;unfold DP;split
    · omega
    · exact a4 (by omega)
 by_cases ok:eX c
 · rw [if_pos ok]
   exact key.2 fun i hi=>Classical.not_not.2 (same.1 ok i hi)
 · rw [if_neg ok]
   rw [same] at ok;obtain ⟨i,h⟩:=Classical.not_forall.1 ok;obtain ⟨hi,hx⟩:=Classical.not_imp.1 h;exact key.1 ⟨i,hi,hx⟩
end Go.Proofs.YthljmpcakagceaaGreat
namespace Go.Proofs.YthljmpcakagceaaGreat
open Go.Vm Classical
def uO (l:List uC) (x:Int×Int):Prop:= ∃i,i<l.length/\(l[i]!).2=x
theorem UH (l:List uC) (x:Int×Int) (hl:l.length<=1000000):cI l x=some (decide (uO l x)):=by
 unfold cI fU;have key:=lS (body:=dF) (fun i=>(l,x.1,x.2,(l.length:Int),(i:Int))) l.length (fun i=>(l[i]!).2=x) (fun i=>(i:Int)) (e:= -1) (fun i hi=>by
  have e1:decide ((i:Int)<(l.length:Int))=true:=aM (by omega)
  unfold dF FZ;simp only [e1,cond_true,aC l i hi,aB,bC (show i<1000000000 by omega)]
  generalize l[i]! =y;constructor
  · intro h;rw [gL (congrArg Prod.fst h),gL (congrArg Prod.snd h)];rfl
  · intro h
    by_cases h1:y.2.1=x.1
    · rw [gL h1,fW (fun h2=>h (Prod.ext h1 h2))];rfl
    · rw [fW h1];rfl) (by
  unfold dF
  have:decide ((l.length:Int)<(l.length:Int))=false:=aI (by omega)
  simp only [this,cond_false])
 rw [aF]
 by_cases hx:uO l x
 · obtain ⟨k,h1,h2,h3⟩:=HD hx
   have:=key.1 k h1 h2 h3
   rw [show ((0:Nat):Int)=0 from rfl] at this;rw [this,aM hx];simp only [aB,aM (show (0:Int)<=(k:Int) by omega)]
 · have:=key.2 fun i hi he=>hx ⟨i,hi,he⟩
   rw [show ((0:Nat):Int)=0 from rfl] at this;rw [this,aI hx];rfl
theorem JB:eF=cI:=rfl
theorem BP (c:aU) (x:Int×Int) (hl:c.list.length<=1000000):vO c x=some (decide (uO c.list x)):=by
 unfold vO;have key:=dC (body:=vG) (fun i=>((i:Int),c.next_,c.list,x)) c.list.length (fun i=>(c.list[i]!).2=x) (r:=true) (e:=false) (fun i hi=>by
  have e1:decide ((i:Int)<(c.list.length:Int))=true:=aM (by omega)
  unfold vG;simp only [aF,e1,cond_true,aC c.list i hi,aB,bC (show i<1000000000 by omega)]
  generalize c.list[i]! =y;constructor
  · intro h;rw [gL (congrArg Prod.fst h),gL (congrArg Prod.snd h)];rfl
  · intro h
    by_cases h1:y.2.1=x.1
    · rw [gL h1,fW (fun h2=>h (Prod.ext h1 h2))];rfl
    · rw [fW h1];rfl) (by
  unfold vG
  have:decide ((c.list.length:Int)<(c.list.length:Int))=false:=aI (by omega)
  simp only [aF,this,cond_false])
 by_cases hx:uO c.list x
 · rw [aM hx];exact key.1 hx
 · rw [aI hx];exact key.2 fun i hi he=>hx ⟨i,hi,he⟩
def qU (c:aU) (x:Int×Int):aU:=⟨c.next_+1,c.list++[(c.next_,x)]⟩
def HO (c:aU):Prop:=c.list.length=200\/c.next_=1000000
theorem UI {c:aU} (ok:eX c) {x:Int×Int} (hx:fA x):HA c x=some (if uO c.list x then (⟨0,[]⟩,0,14) else if HO c then (⟨0,[]⟩,0,18) else (qU c x,c.next_,0)):=by
 have:=ok.len;have:=ok.n0;have:=ok.n1
 unfold HA;rw [zA,if_pos ok,E9,aM hx,UH _ _ (by omega)]
 simp only [aB,show ((0:Int) !=0)=false from rfl,cond_false,Bool.not_true,aF]
 by_cases h1:uO c.list x
 · rw [aM h1,if_pos h1];rfl
 rw [aI h1,if_neg h1];unfold HO
 by_cases h2:c.list.length=200
 · rw [gL (show (c.list.length:Int)=200 by omega),if_pos (.inl h2)];rfl
 rw [fW (show¬(c.list.length:Int)=200 by omega)]
 by_cases h3:c.next_=1000000
 · rw [gL h3,if_pos (.inr h3)];rfl
 rw [fW h3,if_neg (by omega)]
 have e:aA .i64 (c.next_+1)=c.next_+1:=by rw [wi];omega
 simp only [cond_false,bH (show c.list.length<=1048576 by omega),aB,dN (show c.list.length+[(c.next_,x)].length<=1048576 by simp;omega),e]
 rfl
theorem Q8 {c:aU} (ok:eX c) {x:Int×Int} (hx:fA x):I2 c x=some (if uO c.list x then (⟨0,[]⟩,0,14) else if HO c then (⟨0,[]⟩,0,18) else (qU c x,c.next_,0)):=by
 have:=ok.len;have:=ok.n0;have:=ok.n1
 unfold I2 BF;rw [DQ,if_pos ok,yZ,aM hx,BP _ _ (by omega)]
 simp only [aB,show ((0:Int) !=0)=false from rfl,cond_false,Bool.not_true,aF]
 by_cases h1:uO c.list x
 · rw [aM h1,if_pos h1];rfl
 rw [aI h1,if_neg h1];unfold HO
 by_cases h2:c.list.length=200
 · rw [gL (show (c.list.length:Int)=200 by omega),if_pos (.inl h2)];rfl
 rw [fW (show¬(c.list.length:Int)=200 by omega)]
 by_cases h3:c.next_=1000000
 · rw [gL h3,if_pos (.inr h3)];rfl
 rw [fW h3,if_neg (by omega)]
 have e:aA .i64 (c.next_+1)=c.next_+1:=by rw [wi];omega
 simp only [cond_false,bH (show c.list.length<=1048576 by omega),aB,dN (show c.list.length+[(c.next_,x)].length<=1048576 by simp;omega),e]
 rfl
theorem wT {c:aU} {x:Int×Int} {i:Nat}:(qU c x).list[i]! =if i<c.list.length then c.list[i]! else if i=c.list.length then (c.next_,x) else default:=by
 show (c.list++[(c.next_,x)])[i]! =_
 by_cases h:i<c.list.length
 · rw [if_pos h,gV h]
 · rw [if_neg h,gZ (by omega)]
   by_cases e:i=c.list.length
   · rw [if_pos e,e,Nat.sub_self];rfl
   · rw [if_neg e,getElem!_neg _ _ (by simp;omega)]
theorem EM {c:aU} {x:Int×Int}:(qU c x).list.length=c.list.length+1:=by
 show (c.list++[(c.next_,x)]).length=_;simp
theorem WW {c:aU} (ok:eX c) {x:Int×Int} (hx:fA x) (hn: ¬uO c.list x) (hf: ¬HO c):eX (qU c x):=by
 have h1:=ok.len;have h2:=ok.n0;have h3:=ok.n1;unfold HO at hf;refine ⟨by rw [EM];omega,by show 0<=c.next_+1;omega,by show c.next_+1<=1000000;omega,?_,?_,?_,?_⟩
 · intro i hi
   rw [EM] at hi;rw [wT]
   by_cases h:i<c.list.length
   · rw [if_pos h];exact ok.cv i h
   · rw [if_neg h,if_pos (by omega)];exact hx
 · intro i hi
   rw [EM] at hi;rw [wT];show 0<=_/\_<c.next_+1
   by_cases h:i<c.list.length
   · rw [if_pos h];have:=ok.nr i h;omega
   · rw [if_neg h,if_pos (by omega)];dsimp only;omega
 · intro i j hij hj
   rw [EM] at hj;rw [wT,wT,if_pos (by omega)]
   by_cases h:j<c.list.length
   · rw [if_pos h];exact ok.up i j hij h
   · rw [if_neg h,if_pos (by omega)]
     exact (ok.nr i (by omega)).2
 · intro i j hij hj
   rw [EM] at hj;rw [wT,wT,if_pos (by omega)]
   by_cases h:j<c.list.length
   · rw [if_pos h];exact ok.nd i j hij h
   · rw [if_neg h,if_pos (by omega)]
     exact fun he=>hn ⟨i,by omega,he⟩
def nV (c:aU) (k:Nat):aU:=⟨c.next_,c.list.eraseIdx k⟩
theorem YX {α:Type} {l:List α} {k:Nat} (hk:k<l.length):(l.eraseIdx k).length=l.length-1:=by
 rw [List.length_eraseIdx,if_pos hk]
theorem NK {c:aU} (ok:eX c) {k:Nat} (hk:k<c.list.length):eX (nV c k):=by
 have h1:=ok.len;have len:(nV c k).list.length=c.list.length-1:=YX hk;have cell: ∀i,∃j,i<=j/\j<=i+1/\(i<c.list.length-1->j<c.list.length)/\(nV c k).list[i]! =c.list[j]!/\(i<k->j=i)/\(k<=i->j=i+1):=by
  intro i
  by_cases h:i<k
  · exact ⟨i,by omega,by omega,by omega,by show (c.list.eraseIdx k)[i]! =_;rw [NH,if_pos h],fun _=>rfl,by omega⟩
  · exact ⟨i+1,by omega,by omega,by omega,by show (c.list.eraseIdx k)[i]! =_;rw [NH,if_neg h],by omega,fun _=>rfl⟩
 refine ⟨by omega,ok.n0,ok.n1,?_,?_,?_,?_⟩
 · intro i hi
   obtain ⟨j,j1,j2,j3,j4,j5,j6⟩:=cell i;rw [j4];exact ok.cv j (j3 (by omega))
 · intro i hi
   obtain ⟨j,j1,j2,j3,j4,j5,j6⟩:=cell i;rw [j4];exact ok.nr j (j3 (by omega))
 · intro i i' hij hi
   obtain ⟨j,j1,j2,j3,j4,j5,j6⟩:=cell i;obtain ⟨m,m1,m2,m3,m4,m5,m6⟩:=cell i';rw [j4,m4];exact ok.up j m (by omega) (m3 (by omega))
 · intro i i' hij hi
   obtain ⟨j,j1,j2,j3,j4,j5,j6⟩:=cell i;obtain ⟨m,m1,m2,m3,m4,m5,m6⟩:=cell i';rw [j4,m4];exact ok.nd j m (by omega) (m3 (by omega))
theorem NL {c:aU} (ok:eX c) {k:Nat} (hk:k<c.list.length) {n:Int} (hn:(c.list[k]!).1=n):xN c n=some (nV c k,(c.list[k]!).2,0):=by
 have h1:=ok.len;unfold xN I0;obtain ⟨L,d1,d2⟩:=J0 c.list k hk;rw [zA,if_pos ok,(KT c.list n (by omega) ok.up).1 k hk hn]
 simp only [aB,show ((0:Int) !=0)=false from rfl,cond_false,Bool.not_true,bH (show c.list.length<=1048576 by omega),bC (show k<1000000000 by omega),d1,aC c.list k hk,d2]
 rfl
theorem Q9 {l:List uC} {k:Nat} (hk:k<l.length) (hs: ∀i j,i<j->j<l.length->(l[i]!).1<(l[j]!).1) {n:Int} (hn:(l[k]!).1=n):l.filter (fun x=>x.1 !=n)=l.eraseIdx k:=by
 rw [wS];have e:l.filter (fun x=>x.1 !=n)=(l.take k++l[k]!::l.drop (k+1)).filter (fun x=>x.1 !=n):=congrArg _ (aCa hk)
 rw [e,List.filter_append,List.filter_cons_of_neg (by rw [hn];simp)]
 congr 1
 · rw [List.filter_eq_self]
   intro x hx;obtain ⟨i,h1,h2,rfl⟩:=cL.1 hx
   have:=hs i k h1 hk
   exact fE (by omega)
 · rw [List.filter_eq_self]
   intro x hx;obtain ⟨i,h1,rfl⟩:=aY.1 hx;rw [List.length_drop] at h1;rw [vP]
   have:=hs k (k+1+i) (by omega) (by omega)
   exact fE (by omega)
theorem JC {c:aU} (ok:eX c) {k:Nat} (hk:k<c.list.length) {n:Int} (hn:(c.list[k]!).1=n):yQ c n=some (nV c k):=by
 have h1:=ok.len;unfold yQ;have key:=eA (body:=lG) (fun i=>(n,(i:Int),c.next_,c.list,0,c.next_,(c.list.take i).filter (fun x=>x.1 !=n))) c.list.length (fun i hi=>by
  have e1:decide ((i:Int)<(c.list.length:Int))=true:=aM (by omega)
  have nx:(c.list.take (i+1)).filter (fun x=>x.1 !=n)=(c.list.take i).filter (fun x=>x.1 !=n)++(if (c.list[i]!).1 !=n then [c.list[i]!] else []):=by
   rw [jL hi,List.filter_append,List.filter_cons,List.filter_nil]
  have fl:((c.list.take i).filter (fun x=>x.1 !=n)).length<=200:=Nat.le_trans (List.length_filter_le _ _) (by rw [List.length_take];omega)
  unfold lG;simp only [aF,e1,cond_true,aC c.list i hi,aB,bC (show i<1000000000 by omega),nx]
  by_cases h:(c.list[i]!).1=n
  · rw [dR h];simp
  · rw [fE h]
    simp only [cond_true,if_true,dN (show ((c.list.take i).filter (fun x=>x.1 !=n)).length+[c.list[i]!].length<=1048576 by simp only [List.length_cons,List.length_nil];omega),aB])
 have fin:lG (n,(c.list.length:Int),c.next_,c.list,0,c.next_,(c.list.take c.list.length).filter (fun x=>x.1 !=n))=some (.done (nV c k)):=by
  unfold lG
  have:decide ((c.list.length:Int)<(c.list.length:Int))=false:=aI (by omega)
  simp only [aF,this,cond_false,List.take_length];rw [Q9 hk ok.up hn];rfl
 refine Eq.trans ?_ (aL fin);exact key
end Go.Proofs.YthljmpcakagceaaGreat
namespace Go.Proofs.YthljmpcakagceaaGreat
open Go.Vm Classical
def sE (l:List Pt) (id:Int):Prop:= ∃k,k<l.length/\(l[k]!).1=id
noncomputable def iV (l:List Pt) (id:Int):Pt:=if h:sE l id then l[h.choose]! else (-1,0,0)
theorem xZ {l:List Pt} (hs:hG l) {k:Nat} (hk:k<l.length) {id:Int} (h:(l[k]!).1=id):iV l id=l[k]!:=by
 have hp:sE l id:=⟨k,hk,h⟩;unfold iV;rw [dif_pos hp]
 have:=hp.choose_spec
 rw [oV hs this.1 hk (by rw [this.2,h])]
theorem gC {l:List Pt} (ok:cB l) {id:Int} (h:sE l id):gO (iV l id)/\(iV l id).1=id:=by
 obtain ⟨k,hk,he⟩:=h;rw [xZ ok.2.2 hk he];exact ⟨ok.2.1 _ (bB hk),he⟩
theorem JD {l:List Pt} {id:Int} (h: ¬sE l id):iV l id=(-1,0,0):=by unfold iV;rw [dif_neg h]
theorem nK {l:List Pt} (ok:cB l) (id:Int):jZ ⟨l⟩ id=some (iV l id):=by
 have h1:=ok.1;have bs:=KT l id (by omega) (fun i j=>vQ ok.2.2)
 unfold jZ;dsimp only;rw [aCs]
 by_cases h:sE l id
 · obtain ⟨k,hk,he⟩:=h
   rw [bs.1 k hk he];simp only [aB,Bool.not_true,cond_false,aC l k hk,xZ ok.2.2 hk he]
 · obtain ⟨m,m1,m2,m3,e⟩:=bs.2 (fun k hk he=>h ⟨k,hk,he⟩)
   rw [e,JD h];rfl
theorem zB {l:List Pt} (ok:cB l) {id:Int} (h:sE l id): ∃k,k<l.length/\gN ⟨l⟩ id=some (k:Int)/\l[k]! =iV l id:=by
 have h1:=ok.1;obtain ⟨k,hk,he⟩:=h;exact ⟨k,hk,aAo ok.2.2 (by omega) hk he,(xZ ok.2.2 hk he).symm⟩
theorem RA {l:List Pt} (ok:cB l) {id:Int} (h: ¬sE l id):gN ⟨l⟩ id=some (-1):=by
 have h1:=ok.1;exact aJh (by omega) fun k hk he=>h ⟨k,hk,he⟩
def hJ (l:List Pt) (x:Int×Int):Prop:=sE l x.1/\sE l x.2
noncomputable def bI (l:List Pt) (x t:Int×Int):(Int×Int)×Bool:=mI (iV l x.2) (iV l x.1) t
theorem zC {l:List Pt} (ok:cB l) {x t:Int×Int} (hx:fA x) (ht:bM t) (h64:mU t):
 rN ⟨l⟩ x t=some (if hJ l x then ((bI l x t).1,(bI l x t).2,0) else ((0,0),false,8)):=by
 unfold rN;rw [nK ok,nK ok];simp only [aB,KD h64];have bad: ¬gO (-1,0,0):=by unfold gO;dsimp only;omega
 by_cases h1:sE l x.1
 · by_cases h2:sE l x.2
   · obtain ⟨p1,p2⟩:=gC ok h1
     obtain ⟨q1,q2⟩:=gC ok h2;rw [if_pos ⟨q1,p1,ht,by rw [p2,q2];exact fun h=>hx.2.2.2.2 h.symm⟩,if_pos ⟨h1,h2⟩]
     rfl
   · rw [JD h2,if_neg (fun h=>bad h.1),if_neg (fun h=>bad h.1),if_neg (fun h=>h2 h.2)]
 · rw [JD h1,if_neg (fun h=>bad h.2.1),if_neg (fun h=>bad h.2.1),if_neg (fun h=>h1 h.1)]
theorem zD {l:List Pt} (ok:cB l) {x t:Int×Int} (h64:mU t) (hb:hJ l x):rT ⟨l⟩ x t=some (bI l x t):=by
 obtain ⟨h1,h2⟩:=hb;obtain ⟨j,j1,j2,j3⟩:=zB ok h1;obtain ⟨k,k1,k2,k3⟩:=zB ok h2;unfold rT;simp only [j2,k2,aB,aC l j j1,aC l k k1,j3,k3,WJ (gC ok h2).1 (gC ok h1).1 h64];rfl
theorem aCt (c:aU) {l:List Pt} (ok:cB l) (hl:c.list.length<=200):xQ c ⟨l⟩=some (decide (∀i,i<c.list.length->hJ l (c.list[i]!).2)):=by
 unfold xQ;have key:=dC (body:=qJ) (fun i=>((i:Int),c.next_,c.list,l)) c.list.length (fun i=> ¬hJ l (c.list[i]!).2) (r:=false) (e:=true) (fun i hi=>by
  have e1:decide ((i:Int)<(c.list.length:Int))=true:=aM (by omega)
  unfold qJ hJ;simp only [aF,e1,cond_true,aC c.list i hi,aB,bC (show i<1000000000 by omega)]
  by_cases h1:sE l (c.list[i]!).2.1
  · obtain ⟨k,k1,k2,_⟩:=zB ok h1
    rw [k2];simp only [aB,aI (show¬(k:Int)<0 by omega),cond_false]
    by_cases h2:sE l (c.list[i]!).2.2
    · obtain ⟨j,j1,j2,_⟩:=zB ok h2
      rw [j2];simp only [aB,aI (show¬(j:Int)<0 by omega),cond_false]
      exact ⟨fun h=>absurd ⟨h1,h2⟩ h,fun _=>trivial⟩
    · rw [RA ok h2]
      exact ⟨fun _=>rfl,fun h=>absurd (Classical.not_not.1 h).2 h2⟩
  · rw [RA ok h1]
    exact ⟨fun _=>rfl,fun h=>absurd (Classical.not_not.1 h).1 h1⟩) (by
  unfold qJ
  have:decide ((c.list.length:Int)<(c.list.length:Int))=false:=aI (by omega)
  simp only [aF,this,cond_false])
 by_cases hx: ∀i,i<c.list.length->hJ l (c.list[i]!).2
 · rw [aM hx];exact key.2 fun i hi=>Classical.not_not.2 (hx i hi)
 · rw [aI hx]
   obtain ⟨i,h⟩:=Classical.not_forall.1 hx;obtain ⟨hi,hx⟩:=Classical.not_imp.1 h;exact key.1 ⟨i,hi,hx⟩
def aW (l:List Pt) (t:Int×Int) (H:List Ev):List uC->List uC->Prop
 | [],ds=>ds=[]
 |x::cs,ds=>((bI l x.2 t).2=true-> ∃d ds',ds=d::ds'/\d.1=x.1/\((bI l x.2 t).1.1,(bI l x.2 t).1.2,x.1,d.2)∈H/\aW l t H cs ds')/\((bI l x.2 t).2=false->aW l t H cs ds)
structure bD (c:aJ):Prop where
 nowv:bM c.now
 now64:mU c.now
 fld:cB c.field.points
 crt:eX c.certs
 agd:eZ c.agenda
 w200:c.agenda.where_.length=200
 hd:c.agenda.heap.length=c.due.length
 known: ∀i,i<c.certs.list.length->hJ c.field.points (c.certs.list[i]!).2
 fol:aW c.field.points c.now c.agenda.heap c.certs.list c.due
structure wU (c:aJ):Prop where
 now64:mU c.now
 ag:DM c.agenda
 du:c.due.length<=1000000
theorem aJ6 {a:aG} (ok:eZ a) (w2:a.where_.length=200) (t:Int×Int) (n:Int) (h:Int×Int):
 (0<=h.1/\h.1<200/\0<=a.where_[h.1.toNat]!/\a.heap[(a.where_[h.1.toNat]!).toNat]! =(t.1,t.2,n,h))↔((t.1,t.2,n,h):Ev)∈a.heap:=by
 have wl:=ok.wl;have hu:=ok.so.ul;constructor
 · rintro ⟨h1,h2,h3,h4⟩
   cases hb:a.slots.used[h.1.toNat]! with
   |false=>
    have:=ok.un h.1.toNat (by omega) hb
    omega
   |true=>
    have:=ok.fwd h.1.toNat (by omega) hb
    rw [<- h4];exact bB (by omega)
 · intro hm
   obtain ⟨w,hw,he⟩:=aY.1 hm;obtain ⟨b1,b2,b3,b4,b5⟩:=ok.back hw;have e:Ev.ix a.heap[w]! =h.1:=by rw [he]
   have e2:Ev.n a.heap[w]! =h.1.toNat:=by rw [he]
   rw [e] at b1 b2;rw [e2] at b5;refine ⟨b1,by omega,by omega,?_⟩
   rw [b5,Int.toNat_natCast,he]
theorem aCu {a:aG} (ok:eZ a) {i:Nat} (hi:i<a.slots.uses.length) (h:0<=a.where_[i]!):a.where_[i]!<a.heap.length:=by
 cases hb:a.slots.used[i]! with
 |false=>have:=ok.un i hi hb;omega
 |true=>exact (ok.fwd i hi hb).2.1
theorem vR {α:Type} [Inhabited α] {l:List α} {i:Nat} (h:i<l.length):l.drop i=l[i]!::l.drop (i+1):=by
 rw [getElem!_pos l i h];exact List.drop_eq_getElem_cons h
theorem UJ {c:aJ} (nowv:bM c.now) (now64:mU c.now) (fld:cB c.field.points) (crt:eX c.certs) (agd:eZ c.agenda) (w2:c.agenda.where_.length=200):
 ∀(d i:Nat) (ds:List uC),c.certs.list.length-i<=d->i<=c.certs.list.length->ds.length<=1000000->
  aH cQ (ds,c.certs.list,(c.certs.list.length:Int),(i:Int),c.now.1,c.now.2,c.field.points,c.certs.next_,c.certs.list,c.agenda.slots.uses,c.agenda.slots.used,c.agenda.slots.free,c.agenda.heap,c.agenda.where_,c.due)=
   some (.done (if (∀j,i<=j->j<c.certs.list.length->hJ c.field.points (c.certs.list[j]!).2)/\aW c.field.points c.now c.agenda.heap (c.certs.list.drop i) ds then 0 else 8)):=by
 have hl:=crt.len;have wl:=agd.wl;have fin: ∀(ds:List uC),aH cQ (ds,c.certs.list,(c.certs.list.length:Int),(c.certs.list.length:Int),c.now.1,c.now.2,c.field.points,c.certs.next_,c.certs.list,c.agenda.slots.uses,c.agenda.slots.used,c.agenda.slots.free,c.agenda.heap,c.agenda.where_,c.due)=some (.done (if ds=[] then 0 else 8)):=by
  intro ds;refine aL ?_;unfold cQ;have e1:decide ((c.certs.list.length:Int)<(c.certs.list.length:Int))=false:=aI (by omega)
  simp only [aF,e1,cond_false];cases ds with
  |nil=>rw [aI (by simp),if_pos rfl];rfl
  |cons d ds=>rw [aM (by simp),if_neg (by simp)];rfl
 intro d
 induction d with
 |zero=>
  intro i ds hd hi hds
  have:i=c.certs.list.length:=by omega
  subst this;rw [fin ds,List.drop_length]
  have:((∀j,c.certs.list.length<=j->j<c.certs.list.length->hJ c.field.points (c.certs.list[j]!).2)/\aW c.field.points c.now c.agenda.heap [] ds)↔ds=[]:=⟨fun h=>h.2,fun h=>⟨fun j h1 h2=>by omega,h⟩⟩
  by_cases h:ds=[]
  · rw [if_pos h,if_pos (this.2 h)]
  · rw [if_neg h,if_neg (fun k=>h (this.1 k))]
 |succ d ih=>
  intro i ds hd hi hds
  by_cases he:i=c.certs.list.length
  · subst he
    rw [fin ds,List.drop_length]
    have:((∀j,c.certs.list.length<=j->j<c.certs.list.length->hJ c.field.points (c.certs.list[j]!).2)/\aW c.field.points c.now c.agenda.heap [] ds)↔ds=[]:=⟨fun h=>h.2,fun h=>⟨fun j h1 h2=>by omega,h⟩⟩
    by_cases h:ds=[]
    · rw [if_pos h,if_pos (this.2 h)]
    · rw [if_neg h,if_neg (fun k=>h (this.1 k))]
  have hi':i<c.certs.list.length:=by omega
  have e1:decide ((i:Int)<(c.certs.list.length:Int))=true:=aM (by omega)
  have hw:=zC fld (x:=(c.certs.list[i]!).2) (t:=(c.now.1,c.now.2)) (crt.cv i hi') nowv now64;have dr:=vR hi';have all:(∀j,i<=j->j<c.certs.list.length->hJ c.field.points (c.certs.list[j]!).2)↔(hJ c.field.points (c.certs.list[i]!).2/\ ∀j,i+1<=j->j<c.certs.list.length->hJ c.field.points (c.certs.list[j]!).2):=by
   constructor
   · intro h;exact ⟨h i (Nat.le_refl _) hi',fun j h1 h2=>h j (by omega) h2⟩
   · rintro ⟨h1,h2⟩ j h3 h4
     by_cases e:j=i
     · rw [e];exact h1
     · exact h2 j (by omega) h4
  have sc:=bC (show i<1000000000 by omega)
  by_cases hb:hJ c.field.points (c.certs.list[i]!).2
  case neg=>
   rw [if_neg (fun h=>hb (all.1 h.1).1)]
   refine aL ?_;unfold cQ;simp only [e1,cond_true,aC c.certs.list i hi',aB,hw,if_neg hb];rfl
  rw [if_pos hb] at hw
  by_cases is:(bI c.field.points (c.certs.list[i]!).2 c.now).2=true
  case neg=>
   have is':(bI c.field.points (c.certs.list[i]!).2 c.now).2=false:=by simpa using is
   rw [aX (y:=(ds,c.certs.list,(c.certs.list.length:Int),((i+1:Nat):Int),c.now.1,c.now.2,c.field.points,c.certs.next_,c.certs.list,c.agenda.slots.uses,c.agenda.slots.used,c.agenda.slots.free,c.agenda.heap,c.agenda.where_,c.due)) (by
    unfold cQ;simp only [e1,cond_true,aC c.certs.list i hi',aB,hw,sc,is',show ((0:Int) !=0)=false from rfl,cond_false,Bool.not_false]),ih (i+1) ds (by omega) (by omega) hds]
   have same:((∀j,i<=j->j<c.certs.list.length->hJ c.field.points (c.certs.list[j]!).2)/\aW c.field.points c.now c.agenda.heap (c.certs.list.drop i) ds)↔((∀j,i+1<=j->j<c.certs.list.length->hJ c.field.points (c.certs.list[j]!).2)/\aW c.field.points c.now c.agenda.heap (c.certs.list.drop (i+1)) ds):=by
    rw [dr,all];constructor
    · rintro ⟨⟨_,h1⟩,h2⟩;exact ⟨h1,h2.2 is'⟩
    · rintro ⟨h1,h2⟩;exact ⟨⟨hb,h1⟩,fun h=>absurd h is,fun _=>h2⟩
   simp only [same]
  have stop:(¬((∀j,i<=j->j<c.certs.list.length->hJ c.field.points (c.certs.list[j]!).2)/\aW c.field.points c.now c.agenda.heap (c.certs.list.drop i) ds))->cQ (ds,c.certs.list,(c.certs.list.length:Int),(i:Int),c.now.1,c.now.2,c.field.points,c.certs.next_,c.certs.list,c.agenda.slots.uses,c.agenda.slots.used,c.agenda.slots.free,c.agenda.heap,c.agenda.where_,c.due)=some (.done (.done 8))->aH cQ (ds,c.certs.list,(c.certs.list.length:Int),(i:Int),c.now.1,c.now.2,c.field.points,c.certs.next_,c.certs.list,c.agenda.slots.uses,c.agenda.slots.used,c.agenda.slots.free,c.agenda.heap,c.agenda.where_,c.due)=
   some (.done (if (∀j,i<=j->j<c.certs.list.length->hJ c.field.points (c.certs.list[j]!).2)/\aW c.field.points c.now c.agenda.heap (c.certs.list.drop i) ds then 0 else 8)):=by
   intro h1 h2;rw [if_neg h1];exact aL h2
  cases ds with
  |nil=>
   refine stop (fun h=>?_) ?_
   · rw [dr] at h
     obtain ⟨d,ds',h1,_⟩:=h.2.1 is;cases h1
   · unfold cQ
     simp only [e1,cond_true,aC c.certs.list i hi',aB,hw,is,show ((0:Int) !=0)=false from rfl,cond_false,Bool.not_true];rfl
  |cons d0 ds=>
   have l0:((((d0::ds).length:Nat):Int)==0)=false:=fW (by simp;omega)
   have g0:aO (d0::ds) 0=some d0:=rfl
   have fol: ∀P:Prop,(P↔d0.1=(c.certs.list[i]!).1/\(((bI c.field.points (c.certs.list[i]!).2 c.now).1.1,(bI c.field.points (c.certs.list[i]!).2 c.now).1.2,(c.certs.list[i]!).1,d0.2):Ev)∈c.agenda.heap)-> ¬P-> ¬((∀j,i<=j->j<c.certs.list.length->hJ c.field.points (c.certs.list[j]!).2)/\aW c.field.points c.now c.agenda.heap (c.certs.list.drop i) (d0::ds)):=by
    intro P hP hn h;rw [dr] at h;obtain ⟨d,ds',h1,h2,h3,_⟩:=h.2.1 is;injection h1 with h1 _;subst h1;exact hn (hP.2 ⟨h2,h3⟩)
   by_cases b1:d0.1=(c.certs.list[i]!).1
   case neg=>
    refine stop (fol (d0.1=(c.certs.list[i]!).1/\_) Iff.rfl (fun h=>b1 h.1)) ?_
    unfold cQ;simp only [aF,e1,cond_true,aC c.certs.list i hi',aB,hw,is,show ((0:Int) !=0)=false from rfl,cond_false,Bool.not_true,l0,g0,fE b1]
   have ea:=aJ6 agd w2 (bI c.field.points (c.certs.list[i]!).2 c.now).1 (c.certs.list[i]!).1 d0.2
   by_cases b2:d0.2.1<0
   · refine stop (fol (d0.1=(c.certs.list[i]!).1/\_) Iff.rfl (fun h=>by have:=(ea.2 h.2).1;omega)) ?_
     unfold cQ;simp only [aF,e1,cond_true,aC c.certs.list i hi',aB,hw,is,show ((0:Int) !=0)=false from rfl,cond_false,Bool.not_true,l0,g0,dR b1,aM b2]
   by_cases b3:200<=d0.2.1
   · refine stop (fol (d0.1=(c.certs.list[i]!).1/\_) Iff.rfl (fun h=>by have:=(ea.2 h.2).2.1;omega)) ?_
     unfold cQ;simp only [aF,e1,cond_true,aC c.certs.list i hi',aB,hw,is,show ((0:Int) !=0)=false from rfl,cond_false,Bool.not_true,l0,g0,dR b1,aI b2,aM b3]
   have gw:=dM (l:=c.agenda.where_) (i:=d0.2.1) (by omega) (by omega)
   by_cases b4:c.agenda.where_[d0.2.1.toNat]!<0
   · refine stop (fol (d0.1=(c.certs.list[i]!).1/\_) Iff.rfl (fun h=>by have:=(ea.2 h.2).2.2.1;omega)) ?_
     unfold cQ;simp only [aF,e1,cond_true,aC c.certs.list i hi',aB,hw,is,show ((0:Int) !=0)=false from rfl,cond_false,Bool.not_true,l0,g0,dR b1,aI b2,aI b3,gw,aM b4]
   have gh:=dM (l:=c.agenda.heap) (i:=c.agenda.where_[d0.2.1.toNat]!) (by omega) (aCu agd (by omega) (by omega))
   have sl:iZ (d0::ds) 1 ((((d0::ds).length:Nat):Int))=some ds:=by
    unfold iZ;rw [if_pos ⟨by omega,by simp;omega,by omega⟩]
    simp
   have evq: ∀(e:Ev) (p:Int×Int) (n:Int) (h:Int×Int),((e.1==p.1)&&((e.2.1==p.2)&&((e.2.2.1==n)&&((e.2.2.2.1==h.1)&&(e.2.2.2.2==h.2)))))=decide (e=(p.1,p.2,n,h)):=by
    intro e p n h;rw [Bool.eq_iff_iff,decide_eq_true_iff];simp only [Bool.and_eq_true,beq_iff_eq];constructor
    · rintro ⟨h1,h2,h3,h4,h5⟩
      exact Prod.ext h1 (Prod.ext h2 (Prod.ext h3 (Prod.ext h4 h5)))
    · intro h;rw [h];exact ⟨rfl,rfl,rfl,rfl,rfl⟩
   have evq':=evq c.agenda.heap[(c.agenda.where_[d0.2.1.toNat]!).toNat]! (bI c.field.points (c.certs.list[i]!).2 c.now).1 (c.certs.list[i]!).1 d0.2
   by_cases b5:c.agenda.heap[(c.agenda.where_[d0.2.1.toNat]!).toNat]! =((bI c.field.points (c.certs.list[i]!).2 c.now).1.1,(bI c.field.points (c.certs.list[i]!).2 c.now).1.2,(c.certs.list[i]!).1,d0.2)
   case neg=>
    refine stop (fol (d0.1=(c.certs.list[i]!).1/\_) Iff.rfl (fun h=>b5 (ea.2 h.2).2.2.2)) ?_
    unfold cQ;simp only [aF,e1,cond_true,aC c.certs.list i hi',aB,hw,is,show ((0:Int) !=0)=false from rfl,cond_false,Bool.not_true,l0,g0,dR b1,aI b2,aI b3,gw,aI b4,gh];rw [evq',aI b5];rfl
   have hmem:=ea.1 ⟨by omega,by omega,by omega,b5⟩
   rw [aX (y:=(ds,c.certs.list,(c.certs.list.length:Int),((i+1:Nat):Int),c.now.1,c.now.2,c.field.points,c.certs.next_,c.certs.list,c.agenda.slots.uses,c.agenda.slots.used,c.agenda.slots.free,c.agenda.heap,c.agenda.where_,c.due)) (by
    unfold cQ;simp only [aF,e1,cond_true,aC c.certs.list i hi',aB,hw,is,show ((0:Int) !=0)=false from rfl,cond_false,Bool.not_true,l0,g0,dR b1,aI b2,aI b3,gw,aI b4,gh,sl,sc];rw [evq',aM b5]
    rfl),ih (i+1) ds (by omega) (by omega) (by simp at hds;omega)]
   have same:((∀j,i<=j->j<c.certs.list.length->hJ c.field.points (c.certs.list[j]!).2)/\aW c.field.points c.now c.agenda.heap (c.certs.list.drop i) (d0::ds))↔((∀j,i+1<=j->j<c.certs.list.length->hJ c.field.points (c.certs.list[j]!).2)/\aW c.field.points c.now c.agenda.heap (c.certs.list.drop (i+1)) ds):=by
    rw [dr,all];constructor
    · rintro ⟨⟨_,h1⟩,h2⟩
      obtain ⟨d,ds',k1,k2,k3,k4⟩:=h2.1 is;injection k1 with k1 k5;subst k5;exact ⟨h1,k4⟩
    · rintro ⟨h1,h2⟩
      exact ⟨⟨hb,h1⟩,fun _=>⟨d0,ds,rfl,b1,hmem,h2⟩,fun h=>by rw [is] at h;cases h⟩
   simp only [same]
end Go.Proofs.YthljmpcakagceaaGreat
namespace Go.Proofs.YthljmpcakagceaaGreat
open Go.Vm Classical
theorem bD.iff {c:aJ} (fit:wU c):bD c↔bM c.now/\cB c.field.points/\eX c.certs/\eZ c.agenda/\c.agenda.where_.length=200/\c.agenda.heap.length=c.due.length/\(∀i,i<c.certs.list.length->hJ c.field.points (c.certs.list[i]!).2)/\aW c.field.points c.now c.agenda.heap c.certs.list c.due:=
 ⟨fun h=>⟨h.nowv,h.fld,h.crt,h.agd,h.w200,h.hd,h.known,h.fol⟩,fun ⟨h1,h2,h3,h4,h5,h6,h7,h8⟩=>⟨h1,fit.now64,h2,h3,h4,h5,h6,h7,h8⟩⟩
theorem bD.fit {c:aJ} (ok:bD c):wU c:=⟨ok.now64,ok.agd.fit,by have:=ok.hd;have:=ok.agd.bd;omega⟩
theorem UK {c:aJ} {n0 n1 n2 n3:Int}:
 aH fI (4,0,c.now.1,c.now.2,c.field.points,c.certs.next_,c.certs.list,c.agenda.slots.uses,c.agenda.slots.used,c.agenda.slots.free,c.agenda.heap,c.agenda.where_,c.due,[n0,n1,n2,n3])=
  if n0=0/\n1=0/\n2=0/\n3=0 then aH fI (4,4,c.now.1,c.now.2,c.field.points,c.certs.next_,c.certs.list,c.agenda.slots.uses,c.agenda.slots.used,c.agenda.slots.free,c.agenda.heap,c.agenda.where_,c.due,[n0,n1,n2,n3]) else some 8:=by
 have st: ∀(i:Nat) (n:Int),i<4->aO [n0,n1,n2,n3] (i:Int)=some n->aH fI (4,(i:Int),c.now.1,c.now.2,c.field.points,c.certs.next_,c.certs.list,c.agenda.slots.uses,c.agenda.slots.used,c.agenda.slots.free,c.agenda.heap,c.agenda.where_,c.due,[n0,n1,n2,n3])=
  if n=0 then aH fI (4,((i+1:Nat):Int),c.now.1,c.now.2,c.field.points,c.certs.next_,c.certs.list,c.agenda.slots.uses,c.agenda.slots.used,c.agenda.slots.free,c.agenda.heap,c.agenda.where_,c.due,[n0,n1,n2,n3]) else some 8:=by
  intro i n hi hg;have e1:decide ((i:Int)<4)=true:=aM (by omega)
  by_cases h:n=0
  · rw [if_pos h]
    refine aX ?_;unfold fI;simp only [e1,cond_true,hg,aB,dR h,cond_false,bC (show i<1000000000 by omega)]
  · rw [if_neg h]
    refine aL ?_;unfold fI;simp only [e1,cond_true,hg,aB,fE h]
 have s0:=st 0 n0 (by omega) rfl
 have s1:=st 1 n1 (by omega) rfl
 have s2:=st 2 n2 (by omega) rfl
 have s3:=st 3 n3 (by omega) rfl
 have c0:((0:Nat):Int)=0:=rfl;have c4:((3+1:Nat):Int)=4:=rfl;rw [c0] at s0;rw [c4] at s3;rw [s0]
 by_cases h0:n0=0
 · rw [if_pos h0,show ((0+1:Nat):Int)=((1:Nat):Int) from rfl,s1]
   by_cases h1:n1=0
   · rw [if_pos h1,show ((1+1:Nat):Int)=((2:Nat):Int) from rfl,s2]
     by_cases h2:n2=0
     · rw [if_pos h2,show ((2+1:Nat):Int)=((3:Nat):Int) from rfl,s3]
       by_cases h3:n3=0
       · rw [if_pos h3,if_pos ⟨h0,h1,h2,h3⟩]
       · rw [if_neg h3,if_neg (fun h=>h3 h.2.2.2)]
     · rw [if_neg h2,if_neg (fun h=>h2 h.2.2.1)]
   · rw [if_neg h1,if_neg (fun h=>h1 h.2.1)]
 · rw [if_neg h0,if_neg (fun h=>h0 h.1)]
theorem lK {c:aJ} (fit:wU c):gK c=some (if bD c then 0 else 8):=by
 unfold gK;rw [dU fit.now64,lJ,zA,jR _ fit.ag];simp only [aB];have h4:Int.ofNat [if bM c.now then (0:Int) else 8,wR c.field.points,if eX c.certs then (0:Int) else 8,if eZ c.agenda then (0:Int) else 8].length=4:=rfl
 rw [h4,UK];have z: ∀(p:Prop) [Decidable p],(if p then (0:Int) else 8)=0↔p:=fun p _=>by by_cases h:p<;>simp [h]
 simp only [z,lT];have f1:=bD.iff fit
 by_cases ok:bM c.now/\cB c.field.points/\eX c.certs/\eZ c.agenda
 case neg=>rw [if_neg ok,if_neg (c:=bD c) (fun h=>ok ⟨h.nowv,h.fld,h.crt,h.agd⟩)]
 obtain ⟨nowv,fld,crt,agd⟩:=ok;rw [if_pos ⟨nowv,fld,crt,agd⟩]
 by_cases w2:c.agenda.where_.length=200
 case neg=>
  rw [if_neg (c:=bD c) (fun h=>w2 h.w200)]
  refine aL ?_;unfold fI;simp only [aF,aI (show¬(4:Int)<4 by omega),cond_false,fE (show¬(c.agenda.where_.length:Int)=200 by omega),cond_true]
 by_cases hd:c.agenda.heap.length=c.due.length
 case neg=>
  rw [if_neg (c:=bD c) (fun h=>hd h.hd)]
  refine aL ?_;unfold fI;simp only [aF,aI (show¬(4:Int)<4 by omega),cond_false,dR (show (c.agenda.where_.length:Int)=200 by omega),fE (show¬(c.agenda.heap.length:Int)=(c.due.length:Int) by omega),cond_true]
 have run:=UJ nowv fit.now64 fld crt agd w2 c.certs.list.length 0 c.due (by omega) (by omega) fit.du
 rw [List.drop_zero] at run;have same:((∀j,0<=j->j<c.certs.list.length->hJ c.field.points (c.certs.list[j]!).2)/\aW c.field.points c.now c.agenda.heap c.certs.list c.due)↔bD c:=by
  rw [f1];constructor
  · rintro ⟨h1,h2⟩;exact ⟨nowv,fld,crt,agd,w2,hd,fun i hi=>h1 i (by omega) hi,h2⟩
  · rintro ⟨_,_,_,_,_,_,h1,h2⟩;exact ⟨fun j _ hj=>h1 j hj,h2⟩
 simp only [same] at run;refine aL ?_;unfold fI;simp only [aF,aI (show¬(4:Int)<4 by omega),cond_false,dR (show (c.agenda.where_.length:Int)=200 by omega),dR (show (c.agenda.heap.length:Int)=(c.due.length:Int) by omega)]
 exact run
theorem aJk {a:aG} (ok:eZ a) (h:Int×Int):wK a h=some (if xX a.slots h then (a.heap[(a.where_[h.1.toNat]!).toNat]!,0) else ((0,0,0,0,0),6)):=by
 unfold wK;rw [DN a ok.fit,if_pos ok,YU ok.so];simp only [aB,show ((0:Int) !=0)=false from rfl,cond_false]
 by_cases lv:xX a.slots h
 · obtain ⟨i,hi,hw,hh⟩:=ok.live lv
   have:=lv.1;have:=lv.2.1;have:=ok.wl
   rw [aM lv,if_pos lv,dM (l:=a.where_) lv.1 (by omega),hw]
   simp only [Bool.not_true,cond_false,aB,aC a.heap i hi,Int.toNat_natCast]
 · rw [aI lv,if_neg lv];rfl
theorem UL {c:aJ} (now64:mU c.now) (fld:cB c.field.points) (crt:eX c.certs) (agd:eZ c.agenda) (w2:c.agenda.where_.length=200) (hdu:c.due.length<=1000000)
 (kn: ∀i,i<c.certs.list.length->hJ c.field.points (c.certs.list[i]!).2):
 ∀(d i k:Nat),c.certs.list.length-i<=d->i<=c.certs.list.length->k<=c.due.length->
  aH dK ((k:Int),(i:Int),c.now.1,c.now.2,c.field.points,c.certs.next_,c.certs.list,c.agenda.slots.uses,c.agenda.slots.used,c.agenda.slots.free,c.agenda.heap,c.agenda.where_,c.due)=
   some (if aW c.field.points c.now c.agenda.heap (c.certs.list.drop i) (c.due.drop k) then 0 else 8):=by
 have hl:=crt.len;have wl:=agd.wl
 have fin: ∀k:Nat,k<=c.due.length->aH dK ((k:Int),(c.certs.list.length:Int),c.now.1,c.now.2,c.field.points,c.certs.next_,c.certs.list,c.agenda.slots.uses,c.agenda.slots.used,c.agenda.slots.free,c.agenda.heap,c.agenda.where_,c.due)=some (if aW c.field.points c.now c.agenda.heap (c.certs.list.drop c.certs.list.length) (c.due.drop k) then 0 else 8):=by
  intro k hk;rw [List.drop_length];refine aL ?_;unfold dK;have e1:decide ((c.certs.list.length:Int)<(c.certs.list.length:Int))=false:=aI (by omega)
  simp only [aF,e1,cond_false]
  have:aW c.field.points c.now c.agenda.heap [] (c.due.drop k)↔k=c.due.length:=by
   show c.due.drop k=[]↔_;rw [List.drop_eq_nil_iff];omega
  by_cases h:k=c.due.length
  · rw [if_pos (this.2 h),dR (by omega)];rfl
  · rw [if_neg (fun x=>h (this.1 x)),fE (by omega)];rfl
 intro d
 induction d with
 |zero=>
  intro i k hd hi hk
  have:i=c.certs.list.length:=by omega
  subst this;exact fin k hk
 |succ d ih=>
  intro i k hd hi hk
  by_cases he:i=c.certs.list.length
  · subst he;exact fin k hk
  have hi':i<c.certs.list.length:=by omega
  have e1:decide ((i:Int)<(c.certs.list.length:Int))=true:=aM (by omega)
  have hw:=zD fld (x:=(c.certs.list[i]!).2) (t:=(c.now.1,c.now.2)) now64 (kn i hi');have dr:=vR hi';have sc:=bC (show i<1000000000 by omega)
  have sk:=bC (show k<1000000000 by omega)
  by_cases is:(bI c.field.points (c.certs.list[i]!).2 c.now).2=true
  case neg=>
   have is':(bI c.field.points (c.certs.list[i]!).2 c.now).2=false:=by simpa using is
   rw [aX (y:=((k:Int),((i+1:Nat):Int),c.now.1,c.now.2,c.field.points,c.certs.next_,c.certs.list,c.agenda.slots.uses,c.agenda.slots.used,c.agenda.slots.free,c.agenda.heap,c.agenda.where_,c.due)) (by
    unfold dK;simp only [aF,e1,cond_true,aC c.certs.list i hi',aB,hw,sc,is',Bool.not_false]),ih (i+1) k (by omega) (by omega) hk]
   have same:aW c.field.points c.now c.agenda.heap (c.certs.list.drop i) (c.due.drop k)↔aW c.field.points c.now c.agenda.heap (c.certs.list.drop (i+1)) (c.due.drop k):=by
    rw [dr];exact ⟨fun h=>h.2 is',fun h=>⟨fun h'=>absurd h' is,fun _=>h⟩⟩
   simp only [same]
  have stop:(¬aW c.field.points c.now c.agenda.heap (c.certs.list.drop i) (c.due.drop k))->dK ((k:Int),(i:Int),c.now.1,c.now.2,c.field.points,c.certs.next_,c.certs.list,c.agenda.slots.uses,c.agenda.slots.used,c.agenda.slots.free,c.agenda.heap,c.agenda.where_,c.due)=some (.done 8)->
   aH dK ((k:Int),(i:Int),c.now.1,c.now.2,c.field.points,c.certs.next_,c.certs.list,c.agenda.slots.uses,c.agenda.slots.used,c.agenda.slots.free,c.agenda.heap,c.agenda.where_,c.due)=some (if aW c.field.points c.now c.agenda.heap (c.certs.list.drop i) (c.due.drop k) then 0 else 8):=by
   intro h1 h2;rw [if_neg h1];exact aL h2
  by_cases hkl:k=c.due.length
  · refine stop (fun h=>?_) ?_
    · rw [dr] at h
      obtain ⟨d,ds',h1,_⟩:=h.1 is;rw [hkl,List.drop_length] at h1;cases h1
    · unfold dK
      simp only [aF,e1,cond_true,aC c.certs.list i hi',aB,hw,is,Bool.not_true,cond_false,aM (show (c.due.length:Int)<=(k:Int) by omega)]
  have hk':k<c.due.length:=by omega
  have dk:=vR hk';have e2:decide ((c.due.length:Int)<=(k:Int))=false:=aI (by omega)
  have fol: ¬((c.due[k]!).1=(c.certs.list[i]!).1/\(((bI c.field.points (c.certs.list[i]!).2 c.now).1.1,(bI c.field.points (c.certs.list[i]!).2 c.now).1.2,(c.certs.list[i]!).1,(c.due[k]!).2):Ev)∈c.agenda.heap)-> ¬aW c.field.points c.now c.agenda.heap (c.certs.list.drop i) (c.due.drop k):=by
   intro hn h;rw [dr,dk] at h;obtain ⟨d,ds',h1,h2,h3,_⟩:=h.1 is;injection h1 with h1 _;subst h1;exact hn ⟨h2,h3⟩
  by_cases b1:(c.due[k]!).1=(c.certs.list[i]!).1
  case neg=>
   refine stop (fol (fun h=>b1 h.1)) ?_
   unfold dK;simp only [aF,e1,cond_true,aC c.certs.list i hi',aB,hw,is,Bool.not_true,cond_false,e2,aC c.due k hk',fE b1]
  have fi:=aJk agd (c.due[k]!).2;have ea:=aJ6 agd w2 (bI c.field.points (c.certs.list[i]!).2 c.now).1 (c.certs.list[i]!).1 (c.due[k]!).2;have fi':wK (aG.mk (aR.mk c.agenda.slots.uses c.agenda.slots.used c.agenda.slots.free) c.agenda.heap c.agenda.where_) (c.due[k]!).2=_:=fi
  by_cases lv:xX c.agenda.slots (c.due[k]!).2
  case neg=>
   rw [if_neg lv] at fi';refine stop (fol (fun h=>lv ?_)) ?_
   · obtain ⟨w,hw',hev⟩:=aY.1 h.2
     have:=(agd.handle hw').1
     rwa [hev] at this
   · unfold dK
     simp only [aF,e1,cond_true,aC c.certs.list i hi',aB,hw,is,Bool.not_true,cond_false,e2,aC c.due k hk',dR b1,fi',show ((6:Int) !=0)=true from rfl]
  rw [if_pos lv] at fi';obtain ⟨w,hw1,hw2,hw3⟩:=agd.live lv;rw [hw2,Int.toNat_natCast] at fi';have q1:(0<=(c.due[k]!).2.1/\(c.due[k]!).2.1<200/\0<=c.agenda.where_[(c.due[k]!).2.1.toNat]!):=⟨lv.1,by have:=lv.2.1;omega,by rw [hw2];omega⟩
  by_cases b2:(c.agenda.heap[w]!).2.2.1=(c.certs.list[i]!).1
  case neg=>
   refine stop (fol (fun h=>b2 ?_)) ?_
   · have:=(ea.2 h.2).2.2.2
     rw [hw2,Int.toNat_natCast] at this;rw [this]
   · unfold dK
     simp only [aF,e1,cond_true,aC c.certs.list i hi',aB,hw,is,Bool.not_true,cond_false,e2,aC c.due k hk',dR b1,fi',show ((0:Int) !=0)=false from rfl,fE b2]
  have teq:((c.agenda.heap[w]!).1==(bI c.field.points (c.certs.list[i]!).2 c.now).1.1&&(c.agenda.heap[w]!).2.1==(bI c.field.points (c.certs.list[i]!).2 c.now).1.2)=decide (((c.agenda.heap[w]!).1,(c.agenda.heap[w]!).2.1)=(bI c.field.points (c.certs.list[i]!).2 c.now).1):=by
   rw [Bool.eq_iff_iff,decide_eq_true_iff];simp only [Bool.and_eq_true,beq_iff_eq];constructor
   · rintro ⟨h1,h2⟩;exact Prod.ext h1 h2
   · intro h;rw [<- h];exact ⟨rfl,rfl⟩
  by_cases b3:((c.agenda.heap[w]!).1,(c.agenda.heap[w]!).2.1)=(bI c.field.points (c.certs.list[i]!).2 c.now).1
  case neg=>
   refine stop (fol (fun h=>b3 ?_)) ?_
   · have:=(ea.2 h.2).2.2.2
     rw [hw2,Int.toNat_natCast] at this;rw [this]
   · unfold dK
     simp only [aF,e1,cond_true,aC c.certs.list i hi',aB,hw,is,Bool.not_true,cond_false,e2,aC c.due k hk',dR b1,fi',show ((0:Int) !=0)=false from rfl,dR b2];rw [teq,aI b3];rfl
  have hmem:=ea.1 ⟨q1.1,q1.2.1,q1.2.2,by
   rw [hw2,Int.toNat_natCast];have t1:=congrArg Prod.fst b3;have t2:=congrArg Prod.snd b3;exact Prod.ext t1 (Prod.ext t2 (Prod.ext b2 hw3))⟩
  rw [aX (y:=(((k+1:Nat):Int),((i+1:Nat):Int),c.now.1,c.now.2,c.field.points,c.certs.next_,c.certs.list,c.agenda.slots.uses,c.agenda.slots.used,c.agenda.slots.free,c.agenda.heap,c.agenda.where_,c.due)) (by
   unfold dK;simp only [aF,e1,cond_true,aC c.certs.list i hi',aB,hw,is,Bool.not_true,cond_false,e2,aC c.due k hk',dR b1,fi',show ((0:Int) !=0)=false from rfl,dR b2,sc,sk];rw [teq,aM b3]
   rfl),ih (i+1) (k+1) (by omega) (by omega) (by omega)]
  have same:aW c.field.points c.now c.agenda.heap (c.certs.list.drop i) (c.due.drop k)↔aW c.field.points c.now c.agenda.heap (c.certs.list.drop (i+1)) (c.due.drop (k+1)):=by
   rw [dr,dk];constructor
   · intro h2
     obtain ⟨d,ds',k1,k2,k3,k4⟩:=h2.1 is;injection k1 with k1 k5;subst k5;exact k4
   · intro h2
     exact ⟨fun _=>⟨_,_,rfl,b1,hmem,h2⟩,fun h=>by rw [is] at h;cases h⟩
  simp only [same]
theorem NM {c:aJ} (fit:wU c):xS c=some (if bD c then 0 else 8):=by
 unfold xS;rw [wP fit.now64,MZ,DQ,DN _ fit.ag];simp only [aB]
 by_cases nowv:bM c.now
 case neg=>rw [if_neg nowv,if_neg (c:=bD c) (fun h=>nowv h.nowv)];rfl
 rw [if_pos nowv]
 by_cases fld:cB c.field.points
 case neg=>rw [fE (fun h=>fld (lT.1 h)),if_neg (c:=bD c) (fun h=>fld h.fld)];rfl
 rw [dR (lT.2 fld)]
 by_cases crt:eX c.certs
 case neg=>rw [if_neg crt,if_neg (c:=bD c) (fun h=>crt h.crt)];rfl
 rw [if_pos crt];have kn:=aCt c.certs fld crt.len;simp only [show ((0:Int) !=0)=false from rfl,cond_false,kn,aB]
 by_cases known: ∀i,i<c.certs.list.length->hJ c.field.points (c.certs.list[i]!).2
 case neg=>rw [aI known,if_neg (c:=bD c) (fun h=>known h.known)];rfl
 rw [aM known]
 by_cases agd:eZ c.agenda
 case neg=>rw [if_neg agd,if_neg (c:=bD c) (fun h=>agd h.agd)];rfl
 rw [if_pos agd];simp only [aF,show ((0:Int) !=0)=false from rfl,cond_false,Bool.not_true]
 by_cases w2:c.agenda.where_.length=200
 case neg=>rw [fE (by omega),if_neg (c:=bD c) (fun h=>w2 h.w200)];rfl
 rw [dR (by omega)]
 by_cases hd:c.agenda.heap.length=c.due.length
 case neg=>rw [fE (by omega),if_neg (c:=bD c) (fun h=>hd h.hd)];rfl
 rw [dR (by omega)]
 have run:=UL fit.now64 fld crt agd w2 fit.du known c.certs.list.length 0 0 (by omega) (by omega) (by omega)
 rw [List.drop_zero,List.drop_zero] at run;have same:aW c.field.points c.now c.agenda.heap c.certs.list c.due↔bD c:=by
  rw [bD.iff fit];exact ⟨fun h=>⟨nowv,fld,crt,agd,w2,hd,known,h⟩,fun h=>h.2.2.2.2.2.2.2⟩
 simp only [same] at run;simp only [cond_false];exact run
end Go.Proofs.YthljmpcakagceaaGreat
namespace Go.Proofs.YthljmpcakagceaaGreat
open Go.Vm Classical
section
variable {l : List Pt} {t : Int × Int}
theorem aW.cons_true {H:List Ev} {x:uC} {cs ds:List uC} (h:(bI l x.2 t).2=true):aW l t H (x::cs) ds↔ ∃d ds',ds=d::ds'/\d.1=x.1/\(((bI l x.2 t).1.1,(bI l x.2 t).1.2,x.1,d.2):Ev)∈H/\aW l t H cs ds':=
 ⟨fun k=>k.1 h,fun k=>⟨fun _=>k,fun k'=>(by rw [h] at k';cases k')⟩⟩
theorem aW.cons_false {H:List Ev} {x:uC} {cs ds:List uC} (h:(bI l x.2 t).2=false):aW l t H (x::cs) ds↔aW l t H cs ds:=
 ⟨fun k=>k.2 h,fun k=>⟨fun k'=>(by rw [h] at k';cases k'),fun _=>k⟩⟩
theorem aW.mono {H H':List Ev}: ∀{cs ds:List uC},(∀x∈cs,∀e:Ev,e.num=x.1->e∈H->e∈H')->aW l t H cs ds->aW l t H' cs ds
 | [],_,_,h=>h
 |x::cs,ds,hm,h=>by
  have hm': ∀y∈cs,∀e:Ev,e.num=y.1->e∈H->e∈H':=fun y hy=>hm y (by simp [hy])
  cases hx:(bI l x.2 t).2 with
  |true=>
   rw [aW.cons_true hx] at h ⊢;obtain ⟨d,ds',h1,h2,h3,h4⟩:=h;exact ⟨d,ds',h1,h2,hm x (by simp) _ rfl h3,aW.mono hm' h4⟩
  |false=>
   rw [aW.cons_false hx] at h ⊢;exact aW.mono hm' h
theorem aW.due {H:List Ev}: ∀{cs ds:List uC},aW l t H cs ds-> ∀d∈ds,∃x∈cs,d.1=x.1/\(bI l x.2 t).2=true/\(((bI l x.2 t).1.1,(bI l x.2 t).1.2,x.1,d.2):Ev)∈H
 | [],ds,h,d,hd=>by
  have:ds=[]:=h
  subst this;cases hd
 |x::cs,ds,h,d,hd=>by
  cases hx:(bI l x.2 t).2 with
  |true=>
   rw [aW.cons_true hx] at h;obtain ⟨e,ds',h1,h2,h3,h4⟩:=h;subst h1;rcases List.mem_cons.1 hd with rfl|hd
   · exact ⟨x,by simp,h2,hx,h3⟩
   · obtain ⟨y,hy,k⟩:=aW.due h4 d hd
     exact ⟨y,by simp [hy],k⟩
  |false=>
   rw [aW.cons_false hx] at h;obtain ⟨y,hy,k⟩:=aW.due h d hd;exact ⟨y,by simp [hy],k⟩
theorem aW.has {H:List Ev}: ∀{cs ds:List uC},aW l t H cs ds-> ∀x∈cs,(bI l x.2 t).2=true-> ∃d∈ds,d.1=x.1/\(((bI l x.2 t).1.1,(bI l x.2 t).1.2,x.1,d.2):Ev)∈H
 | [],_,_,x,hx,_=>by cases hx
 |y::cs,ds,h,x,hx,hf=>by
  cases hy:(bI l y.2 t).2 with
  |true=>
   rw [aW.cons_true hy] at h;obtain ⟨e,ds',h1,h2,h3,h4⟩:=h;subst h1;rcases List.mem_cons.1 hx with rfl|hx
   · exact ⟨e,by simp,h2,h3⟩
   · obtain ⟨d,hd,k⟩:=aW.has h4 x hx hf
     exact ⟨d,by simp [hd],k⟩
  |false=>
   rw [aW.cons_false hy] at h;rcases List.mem_cons.1 hx with rfl|hx
   · rw [hf] at hy;cases hy
   · exact aW.has h x hx hf
def Up (cs:List uC):Prop:=cs.Pairwise fun x y=>x.1<y.1
theorem vJ {cs:List uC}:Up cs↔ ∀i j,i<j->j<cs.length->(cs[i]!).1<(cs[j]!).1:=by
 unfold Up;rw [List.pairwise_iff_getElem];constructor
 · intro h i j hij hj
   rw [getElem!_pos cs i (by omega),getElem!_pos cs j hj]
   exact h i j (by omega) hj hij
 · intro h i j hi hj hij
   have:=h i j hij hj
   rwa [getElem!_pos cs i hi,getElem!_pos cs j hj] at this
theorem aW.up {H:List Ev}: ∀{cs ds:List uC},aW l t H cs ds->Up cs->Up ds
 | [],ds,h,_=>by
  have:ds=[]:=h
  subst this;exact List.Pairwise.nil
 |x::cs,ds,h,hu=>by
  have hu':=List.pairwise_cons.1 hu;cases hx:(bI l x.2 t).2 with
  |true=>
   rw [aW.cons_true hx] at h;obtain ⟨e,ds',h1,h2,h3,h4⟩:=h;subst h1;refine List.pairwise_cons.2 ⟨fun d hd=>?_,aW.up h4 hu'.2⟩
   obtain ⟨y,hy,k,_⟩:=aW.due h4 d hd
   have:=hu'.1 y hy
   omega
  |false=>
   rw [aW.cons_false hx] at h;exact aW.up h hu'.2
theorem aW.snoc {H:List Ev}: ∀{cs ds:List uC} {x:uC},aW l t H cs ds->((bI l x.2 t).2=false->aW l t H (cs++[x]) ds)/\
 (∀d:uC,(bI l x.2 t).2=true->d.1=x.1->(((bI l x.2 t).1.1,(bI l x.2 t).1.2,x.1,d.2):Ev)∈H->aW l t H (cs++[x]) (ds++[d]))
 | [],ds,x,h=>by
  have:ds=[]:=h
  subst this;refine ⟨fun hx=>(aW.cons_false hx).2 rfl,fun d hx h1 h2=>(aW.cons_true hx).2 ⟨d,[],rfl,h1,h2,rfl⟩⟩
 |y::cs,ds,x,h=>by
  cases hy:(bI l y.2 t).2 with
  |true=>
   rw [aW.cons_true hy] at h;obtain ⟨e,ds',h1,h2,h3,h4⟩:=h;subst h1;have ih:=aW.snoc (x:=x) h4;refine ⟨fun hx=>(aW.cons_true hy).2 ⟨e,ds',rfl,h2,h3,ih.1 hx⟩,fun d hx k1 k2=>(aW.cons_true hy).2 ⟨e,ds'++[d],rfl,h2,h3,ih.2 d hx k1 k2⟩⟩
  |false=>
   rw [aW.cons_false hy] at h;have ih:=aW.snoc (x:=x) h;exact ⟨fun hx=>(aW.cons_false hy).2 (ih.1 hx),fun d hx k1 k2=>(aW.cons_false hy).2 (ih.2 d hx k1 k2)⟩
theorem aW.erase {H:List Ev}: ∀{cs ds:List uC} {i:Nat},aW l t H cs ds->i<cs.length->((bI l (cs[i]!).2 t).2=false->aW l t H (cs.eraseIdx i) ds)/\
 ((bI l (cs[i]!).2 t).2=true-> ∃k,k<ds.length/\(ds[k]!).1=(cs[i]!).1/\(((bI l (cs[i]!).2 t).1.1,(bI l (cs[i]!).2 t).1.2,(cs[i]!).1,(ds[k]!).2):Ev)∈H/\aW l t H (cs.eraseIdx i) (ds.eraseIdx k))
 | [],_,i,_,hi=>by cases hi
 |y::cs,ds,0,h,_=>by
  show ((bI l y.2 t).2=false->aW l t H cs ds)/\((bI l y.2 t).2=true-> ∃k,k<ds.length/\(ds[k]!).1=y.1/\(((bI l y.2 t).1.1,(bI l y.2 t).1.2,y.1,(ds[k]!).2):Ev)∈H/\aW l t H cs (ds.eraseIdx k));refine ⟨fun hy=>(aW.cons_false hy).1 h,fun hy=>?_⟩
  obtain ⟨e,ds',h1,h2,h3,h4⟩:=(aW.cons_true hy).1 h;subst h1;exact ⟨0,by simp,h2,h3,h4⟩
 |y::cs,ds,i+1,h,hi=>by
  have hi':i<cs.length:=by simpa using hi
  show ((bI l (cs[i]!).2 t).2=false->aW l t H (y::cs.eraseIdx i) ds)/\((bI l (cs[i]!).2 t).2=true-> ∃k,k<ds.length/\(ds[k]!).1=(cs[i]!).1/\(((bI l (cs[i]!).2 t).1.1,(bI l (cs[i]!).2 t).1.2,(cs[i]!).1,(ds[k]!).2):Ev)∈H/\aW l t H (y::cs.eraseIdx i) (ds.eraseIdx k));cases hy:(bI l y.2 t).2 with
  |true=>
   obtain ⟨e,ds',h1,h2,h3,h4⟩:=(aW.cons_true hy).1 h;subst h1;have ih:=aW.erase (i:=i) h4 hi';refine ⟨fun hx=>(aW.cons_true hy).2 ⟨e,ds',rfl,h2,h3,ih.1 hx⟩,fun hx=>?_⟩
   obtain ⟨k,k1,k2,k3,k4⟩:=ih.2 hx;exact ⟨k+1,by simp;omega,k2,k3,(aW.cons_true hy).2 ⟨e,ds'.eraseIdx k,rfl,h2,h3,k4⟩⟩
  |false=>
   have h:=(aW.cons_false hy).1 h;have ih:=aW.erase (i:=i) h hi';refine ⟨fun hx=>(aW.cons_false hy).2 (ih.1 hx),fun hx=>?_⟩
   obtain ⟨k,k1,k2,k3,k4⟩:=ih.2 hx;exact ⟨k,k1,k2,k3,(aW.cons_false hy).2 k4⟩
end
theorem J1 {H:List Ev} {ns:List Int} (hd:ns.Nodup) (hl:H.length<=ns.length) (he: ∀n∈ns,∃e∈H,Ev.num e=n): ∀e∈H,Ev.num e∈ns:=by
 have pos: ∀n,n∈ns-> ∃w,w<H.length/\Ev.num H[w]! =n:=fun n hn=>by
  obtain ⟨e,he,h2⟩:=he n hn;obtain ⟨w,hw,rfl⟩:=aY.1 he;exact ⟨w,hw,h2⟩
 let f:Int->Nat:=fun n=>if h: ∃w,w<H.length/\Ev.num H[w]! =n then h.choose else 0
 have hf: ∀n∈ns,f n<H.length/\Ev.num H[f n]! =n:=fun n hn=>by
  have h:=pos n hn;show (if h: ∃w,w<H.length/\Ev.num H[w]! =n then h.choose else 0)<_/\Ev.num H[(if h: ∃w,w<H.length/\Ev.num H[w]! =n then h.choose else 0)]! =n
  rw [dif_pos h];exact h.choose_spec
 have full:=JW (n:=H.length) (l:=ns.map f) (EL hd fun x hx y hy h=>by
  have h1:=(hf x hx).2;have h2:=(hf y hy).2;rw [h] at h1
  omega) (fun x hx=>by
  obtain ⟨n,hn,rfl⟩:=List.mem_map.1 hx;exact (hf n hn).1) (by rw [List.length_map];exact hl)
 intro e hm;obtain ⟨w,hw,rfl⟩:=aY.1 hm;obtain ⟨n,hn,h⟩:=List.mem_map.1 (full w hw);rw [<- h,(hf n hn).2];exact hn
theorem UM {cs:List uC} (h:Up cs):(cs.map fun x=>x.1).Nodup:=by
 refine EL ?_ ?_
 · unfold Up at h
   exact h.imp fun hab he=>by rw [he] at hab;omega
 · intro x hx y hy he
   obtain ⟨i,hi,rfl⟩:=aY.1 hx;obtain ⟨j,hj,rfl⟩:=aY.1 hy;rcases Nat.lt_trichotomy i j with h1|h1|h1
   · have:=vJ.1 h i j h1 hj;omega
   · rw [h1]
   · have:=vJ.1 h j i h1 hi;omega
theorem bD.crt_up {c:aJ} (ok:bD c):Up c.certs.list:=vJ.2 ok.crt.up
theorem bD.due_up {c:aJ} (ok:bD c):Up c.due:=ok.fol.up ok.crt_up
theorem bD.nums {c:aJ} (ok:bD c): ∀e∈c.agenda.heap,∃d∈c.due,d.1=Ev.num e:=by
 have:=J1 (H:=c.agenda.heap) (UM ok.due_up) (by rw [List.length_map,ok.hd];exact Nat.le_refl _) (fun n hn=>by
  obtain ⟨d,hd,rfl⟩:=List.mem_map.1 hn;obtain ⟨x,hx,h1,h2,h3⟩:=ok.fol.due d hd;exact ⟨_,h3,h1.symm⟩)
 intro e he;obtain ⟨d,hd,h⟩:=List.mem_map.1 (this e he);exact ⟨d,hd,h⟩
end Go.Proofs.YthljmpcakagceaaGreat
