/- Plain laws (2). -/
import Derived.Test.YtmlghnibpjlchaaGreatTQM1
namespace Go.Proofs.YtmlghnibpjlchaaGreat
open Go.Vm Classical
theorem PF (a:aG) (fit:CH a) (so:eO a.slots) (wl:a.where_.length=a.slots.uses.length):
 aH lY (a.where_,(a.where_.length:Int),0,a.slots.uses,a.slots.used,a.slots.free,a.heap,a.where_)=some (if (∀i,i<a.slots.uses.length->LR a i)/\(∀k,k<a.heap.length->MK a.heap k) then 0 else 8):=by
 have hu:=so.ul;have hn:=so.n2;have hh:=fit.hp;have inner:=PE a.heap a.slots.uses a.slots.free a.where_ a.slots.used fit.hp fit.at64
 have key:=cY (body:=lY) (fun i=>(a.where_,(a.where_.length:Int),(i:Int),a.slots.uses,a.slots.used,a.slots.free,a.heap,a.where_)) a.where_.length (fun i=> ¬LR a i) (r:=8) (e:=if (∀k,k<a.heap.length->MK a.heap k) then 0 else 8) (fun i hi=>by
  have e1:decide ((i:Int)<(a.where_.length:Int))=true:=aN (by omega)
  unfold lY;simp only [aE,e1,cond_true,aB a.where_ i hi,aB a.slots.used i (by omega),aB a.slots.uses i (by omega),aC,bA (show i<1000000000 by omega)]
  unfold LR;generalize a.where_[i]! =w at*;cases hb:a.slots.used[i]! with
  |false=>
   simp only [Bool.not_false,cond_true]
   by_cases hw:w= -1
   · rw [cI hw]
     exact ⟨fun h=>absurd ⟨fun h=>(by cases h),fun _=>hw⟩ h,fun _=>rfl⟩
   · rw [eJ hw]
     exact ⟨fun _=>rfl,fun h=>absurd ((Classical.not_not.1 h).2 trivial) hw⟩
  |true=>
   simp only [Bool.not_true,cond_false]
   by_cases b1:w<0
   · rw [aN b1]
     exact ⟨fun _=>rfl,fun h=>absurd ((Classical.not_not.1 h).1 trivial).1 (by omega)⟩
   by_cases b2:(a.heap.length:Int)<=w
   · rw [aL b1,aN b2]
     exact ⟨fun _=>rfl,fun h=>absurd ((Classical.not_not.1 h).1 trivial).2.1 (by omega)⟩
   rw [aL b1,aL b2];simp only [cond_false,dK (l:=a.heap) (i:=w) (by omega) (by omega),aC]
   by_cases b3:(a.heap[w.toNat]!).2.2.2.1=i
   · by_cases b4:(a.heap[w.toNat]!).2.2.2.2=a.slots.uses[i]!
     · rw [fZ b3,fZ b4]
       exact ⟨fun h=>absurd ⟨fun _=>⟨by omega,by omega,b3,b4⟩,fun h=>(by cases h)⟩ h,fun _=>rfl⟩
     · rw [fZ b3,fI b4]
       exact ⟨fun _=>rfl,fun h=>absurd ((Classical.not_not.1 h).1 trivial).2.2.2 b4⟩
   · rw [fI b3]
     exact ⟨fun _=>rfl,fun h=>absurd ((Classical.not_not.1 h).1 trivial).2.2.1 b3⟩) (by
  unfold lY
  have:decide ((a.where_.length:Int)<(a.where_.length:Int))=false:=aL (by omega)
  simp only [aE,this,cond_false]
  by_cases hx: ∀k,k<a.heap.length->MK a.heap k
  · rw [if_pos hx];exact inner.1 hx
  · rw [if_neg hx];exact inner.2 hx)
 by_cases hw: ∀i,i<a.slots.uses.length->LR a i
 · refine (key.2 fun i hi=>Classical.not_not.2 (hw i (by omega))).trans ?_
   by_cases hx: ∀k,k<a.heap.length->MK a.heap k
   · rw [if_pos hx,if_pos ⟨hw,hx⟩]
   · rw [if_neg hx,if_neg (fun h=>hx h.2)]
 · rw [if_neg (fun h=>hw h.1)]
   obtain ⟨i,h⟩:=Classical.not_forall.1 hw;obtain ⟨hi,hx⟩:=Classical.not_imp.1 h;exact key.1 ⟨i,by omega,hx⟩
theorem lZ (a:aG) (fit:CH a):lM a=some (if eM a then 0 else 8):=by
 have hh:=fit.hp;unfold lM;rw [xZ _ fit.fr];simp only [aE]
 by_cases so:eO a.slots
 case neg=>rw [if_neg so,if_neg (fun h=>so h.so)];rfl
 have hu:=so.ul;have hn:=so.n2;have hf:=so.fl;rw [if_pos so];simp only [aC,show ((0:Int) !=0)=false from rfl,cond_false]
 by_cases wl:a.where_.length=a.slots.uses.length
 case neg=>
  rw [eJ (by omega),if_neg (fun h=>wl h.wl)];rfl
 rw [cI (by omega)]
 have e:aA .i64 ((a.slots.used.length:Int) - (a.slots.free.length:Int))=((a.slots.uses.length-a.slots.free.length:Nat):Int):=by rw [wi];omega
 rw [e]
 by_cases hl:a.heap.length+a.slots.free.length=a.slots.uses.length
 case neg=>
  rw [eJ (by omega),if_neg (fun h=>hl h.hl)];rfl
 rw [cI (by omega)]
 simp only [cond_false];rw [PF a fit so wl]
 by_cases ok:eM a
 · rw [if_pos ok,if_pos ok.to]
 · rw [if_neg ok,if_neg]
   intro h;exact ok (eM.of fit so wl hl h.1 h.2)
theorem aA9 {x y:Ev} (hx:qK (x.1,x.2.1)) (hy:qK (y.1,y.2.1)):eB x y=some (decide (dJ x y)):=by
 unfold eB dJ;rw [LA hx hy];simp only [aC];generalize EZ (x.1,x.2.1) (y.1,y.2.1)=c
 by_cases h1:c<0
 · simp [h1]
 · by_cases h2:c=0
   · subst h2;simp
   · simp only [h1,fI h2,h2,decide_false,cond_false,false_or,false_and]
theorem XA {s:aQ} (ok:eO s) (h:Int×Int):vS s h=some (decide (xK s h)):=by
 have hu:=ok.ul;unfold vS xK;simp only [aE]
 by_cases a1:0<=h.1
 · by_cases a2:h.1<s.uses.length
   · simp only [a1,a2,decide_true,cond_true,dK (l:=s.used) a1 (by omega),dK (l:=s.uses) a1 a2,aC,true_and]
     generalize s.uses[h.1.toNat]! =u;cases s.used[h.1.toNat]!<;>simp [W7]
   · simp [a1,a2]
 · simp [a1]
theorem YS (a:aG) (so:eO a.slots):uR a=some (decide (a.where_.length=a.slots.uses.length/\a.heap.length+a.slots.free.length=a.slots.uses.length/\ ∀i,i<a.slots.uses.length->LR a i)):=by
 have hu:=so.ul;have hn:=so.n2;have hf:=so.fl;unfold uR;simp only [aE]
 by_cases wl:a.where_.length=a.slots.uses.length
 case neg=>
  rw [eJ (by omega),aL (fun h=>wl h.1)];rfl
 rw [cI (by omega)]
 have e:aA .i64 ((a.slots.uses.length:Int) - (a.slots.free.length:Int))=((a.slots.uses.length-a.slots.free.length:Nat):Int):=by rw [wi];omega
 rw [e]
 by_cases hl:a.heap.length+a.slots.free.length=a.slots.uses.length
 case neg=>
  rw [eJ (by omega),aL (fun h=>hl h.2.1)];rfl
 rw [cI (by omega)]
 simp only [cond_false];have key:=cY (body:=oH) (fun i=>((a.slots.uses.length:Int),(i:Int),a.slots.uses,a.slots.used,a.slots.free,a.heap,a.where_)) a.slots.uses.length (fun i=> ¬LR a i) (r:=false) (e:=true) (fun i hi=>by
  have e1:decide ((i:Int)<(a.slots.uses.length:Int))=true:=aN (by omega)
  unfold oH;simp only [aE,e1,cond_true,aB a.where_ i (by omega),aB a.slots.used i (by omega),aC,bA (show i<1000000000 by omega)]
  unfold LR;generalize a.where_[i]! =w at*;cases hb:a.slots.used[i]! with
  |false=>
   simp only [Bool.not_false,cond_true]
   by_cases hw:w= -1
   · rw [cI hw]
     exact ⟨fun h=>absurd ⟨fun h=>(by cases h),fun _=>hw⟩ h,fun _=>rfl⟩
   · rw [eJ hw]
     exact ⟨fun _=>rfl,fun h=>absurd ((Classical.not_not.1 h).2 trivial) hw⟩
  |true=>
   simp only [Bool.not_true,cond_false]
   by_cases b1:w<0
   · rw [aN b1]
     exact ⟨fun _=>rfl,fun h=>absurd ((Classical.not_not.1 h).1 trivial).1 (by omega)⟩
   by_cases b2:(a.heap.length:Int)<=w
   · rw [aL b1,aN b2]
     exact ⟨fun _=>rfl,fun h=>absurd ((Classical.not_not.1 h).1 trivial).2.1 (by omega)⟩
   rw [aL b1,aL b2];simp only [cond_false,dK (l:=a.heap) (i:=w) (by omega) (by omega),aC]
   by_cases b3:(a.heap[w.toNat]!).2.2.2.1=i
   · rw [cI b3]
     simp only [cond_false];rw [XA (s:=⟨a.slots.uses,a.slots.used,a.slots.free⟩) so];have lv:xK ⟨a.slots.uses,a.slots.used,a.slots.free⟩ (a.heap[w.toNat]!).2.2.2↔(a.heap[w.toNat]!).2.2.2.2=a.slots.uses[i]!:=by
      unfold xK;dsimp only;rw [b3];constructor
      · intro h;exact h.2.2.2.symm
      · intro h;exact ⟨by omega,by omega,by rw [Int.toNat_natCast];exact hb,by rw [Int.toNat_natCast];exact h.symm⟩
     simp only [aC,lv]
     by_cases b4:(a.heap[w.toNat]!).2.2.2.2=a.slots.uses[i]!
     · rw [aN b4]
       exact ⟨fun h=>absurd ⟨fun _=>⟨by omega,by omega,b3,b4⟩,fun h=>(by cases h)⟩ h,fun _=>rfl⟩
     · rw [aL b4]
       exact ⟨fun _=>rfl,fun h=>absurd ((Classical.not_not.1 h).1 trivial).2.2.2 b4⟩
   · rw [eJ b3]
     exact ⟨fun _=>rfl,fun h=>absurd ((Classical.not_not.1 h).1 trivial).2.2.1 b3⟩) (by
  unfold oH
  have:decide ((a.slots.uses.length:Int)<(a.slots.uses.length:Int))=false:=aL (by omega)
  simp only [this,cond_false])
 by_cases hw: ∀i,i<a.slots.uses.length->LR a i
 · rw [aN ⟨wl,hl,hw⟩]
   exact key.2 fun i hi=>Classical.not_not.2 (hw i hi)
 · rw [aL (fun h=>hw h.2.2)]
   obtain ⟨i,h⟩:=Classical.not_forall.1 hw;obtain ⟨hi,hx⟩:=Classical.not_imp.1 h;exact key.1 ⟨i,hi,hx⟩
theorem SD (H:List Ev) (u fr W:List Int) (us:List Bool) (k:Nat) (hk:k<H.length) (hl:H.length<=1000000) (x:Ev):
 ((∃j,j<k/\(H[j]!).2.2.1=x.2.2.1)->aH kN ((k:Int),0,u,us,fr,H,W,x)=some (.done 8))/\
 ((∀j,j<k-> ¬(H[j]!).2.2.1=x.2.2.1)->aH kN ((k:Int),0,u,us,fr,H,W,x)=some (.next (((k+1:Nat):Int),u,us,fr,H,W))):=by
 refine cY (body:=kN) (fun j=>((k:Int),(j:Int),u,us,fr,H,W,x)) k (fun j=>(H[j]!).2.2.1=x.2.2.1) (r:= .done 8) (e:= .next (((k+1:Nat):Int),u,us,fr,H,W)) (fun j hj=>?_) ?_
 · have e1:decide ((j:Int)<(k:Int))=true:=aN (by omega)
   unfold kN;simp only [e1,cond_true,aB H j (by omega),aC,bA (show j<1000000000 by omega)]
   constructor
   · intro h;rw [fZ h];rfl
   · intro h;rw [fI h];rfl
 · unfold kN
   have:decide ((k:Int)<(k:Int))=false:=aL (by omega)
   simp only [this,cond_false,bA (show k<1000000000 by omega)]
theorem SF (H:List Ev) (u fr W:List Int) (us:List Bool) (hl:H.length<=1000000) (r64: ∀w,w<H.length->qK ((H[w]!).1,(H[w]!).2.1)):
 aH kO (1,u,us,fr,H,W)=some (.done (if∀k,0<k->k<H.length-> ¬dJ H[k]! H[(k-1) / 2]! then 0 else 8)):=by
 by_cases h0:H.length=0
 · rw [if_pos (fun k _ hk=>by omega)]
   refine aI ?_;unfold kO
   have:decide ((1:Int)<(H.length:Int))=false:=aL (by omega)
   simp only [aE,this,cond_false]
 have key:=cY (body:=kO) (fun i=>(((i+1:Nat):Int),u,us,fr,H,W)) (H.length-1) (fun i=>dJ H[i+1]! H[i / 2]!) (r:= .done 8) (e:= .done 0) (fun i hi=>by
  have e1:decide (((i+1:Nat):Int)<(H.length:Int))=true:=aN (by omega)
  unfold kO;simp only [aE,e1,cond_true,uA (show i<1000000000 by omega),aB H (i+1) (by omega),aB H (i / 2) (by omega),aC,aA9 (r64 (i+1) (by omega)) (r64 (i / 2) (by omega)),bA (show i+1<1000000000 by omega)]
  constructor
  · intro h;rw [aN h];rfl
  · intro h;rw [aL h];rfl) (by
  unfold kO
  have:decide (((H.length-1+1:Nat):Int)<(H.length:Int))=false:=aL (by omega)
  simp only [aE,this,cond_false])
 by_cases ho: ∀k,0<k->k<H.length-> ¬dJ H[k]! H[(k-1) / 2]!
 · rw [if_pos ho]
   refine key.2 fun i hi hc=>ho (i+1) (by omega) (by omega) ?_
   rwa [show (i+1-1) / 2=i / 2 by omega]
 · rw [if_neg ho]
   obtain ⟨k,h⟩:=Classical.not_forall.1 ho;obtain ⟨k0,h⟩:=Classical.not_imp.1 h;obtain ⟨hk,hx⟩:=Classical.not_imp.1 h;refine key.1 ⟨k-1,by omega,?_⟩
   rw [show k-1+1=k by omega]
   exact Classical.not_not.1 hx
def PG (H:List Ev) (k:Nat):Prop:=cE ((H[k]!).1,(H[k]!).2.1)/\0<=(H[k]!).2.2.1/\(H[k]!).2.2.1<=1000000/\(∀j,j<k-> ¬(H[j]!).2.2.1=(H[k]!).2.2.1)
theorem CI (a:aG) (fit:CH a):tO a=some (if eM a then 0 else 8):=by
 have hh:=fit.hp;unfold tO;rw [LQ _ fit.fr]
 by_cases so:eO a.slots
 case neg=>rw [if_neg so,if_neg (fun h=>so h.so)];rfl
 rw [if_pos so];simp only [aC,show ((0:Int) !=0)=false from rfl,cond_false,YS a so]
 by_cases pl:a.where_.length=a.slots.uses.length/\a.heap.length+a.slots.free.length=a.slots.uses.length/\ ∀i,i<a.slots.uses.length->LR a i
 case neg=>
  rw [aL pl,if_neg (fun h=>pl ⟨h.wl,h.hl,h.to.1⟩)];rfl
 rw [aN pl];obtain ⟨wl,hl,hw⟩:=pl;simp only [Bool.not_true,cond_false];have key:=cY (body:=qA) (fun k=>((k:Int),a.slots.uses,a.slots.used,a.slots.free,a.heap,a.where_)) a.heap.length (fun k=> ¬PG a.heap k) (r:=8) (e:=if∀k,0<k->k<a.heap.length-> ¬dJ a.heap[k]! a.heap[(k-1) / 2]! then 0 else 8) (fun k hk=>by
  have e1:decide ((k:Int)<(a.heap.length:Int))=true:=aN (by omega)
  have l1:=SD a.heap a.slots.uses a.slots.free a.where_ a.slots.used k hk hh a.heap[k]!;unfold qA;simp only [aE,e1,cond_true,aB a.heap k hk,aC,CE (fit.at64 k hk)];unfold PG
  by_cases b1:cE ((a.heap[k]!).1,(a.heap[k]!).2.1)
  case neg=>
   rw [if_neg b1];exact ⟨fun _=>rfl,fun h=>absurd (Classical.not_not.1 h).1 b1⟩
  rw [if_pos b1]
  by_cases b2:(a.heap[k]!).2.2.1<0
  · rw [aN b2]
    exact ⟨fun _=>rfl,fun h=>absurd (Classical.not_not.1 h).2.1 (by omega)⟩
  by_cases b3:1000000<(a.heap[k]!).2.2.1
  · rw [aL b2,aN b3]
    exact ⟨fun _=>rfl,fun h=>absurd (Classical.not_not.1 h).2.2.1 (by omega)⟩
  rw [aL b2,aL b3];simp only [show ((0:Int) !=0)=false from rfl,cond_false]
  by_cases b4: ∃j,j<k/\(a.heap[j]!).2.2.1=(a.heap[k]!).2.2.1
  · refine ⟨fun _=>l1.1 b4,fun h=>?_⟩
    obtain ⟨j,j1,j2⟩:=b4;exact absurd j2 ((Classical.not_not.1 h).2.2.2 j j1)
  · have b4': ∀j,j<k-> ¬(a.heap[j]!).2.2.1=(a.heap[k]!).2.2.1:=fun j h1 h2=>b4 ⟨j,h1,h2⟩
    exact ⟨fun h=>absurd ⟨b1,by omega,by omega,b4'⟩ h,fun _=>l1.2 b4'⟩) (by
  unfold qA
  have:decide ((a.heap.length:Int)<(a.heap.length:Int))=false:=aL (by omega)
  simp only [aE,this,cond_false];exact SF a.heap _ _ _ _ hh fit.at64)
 have same:eM a↔(∀k,k<a.heap.length->PG a.heap k)/\ ∀k,0<k->k<a.heap.length-> ¬dJ a.heap[k]! a.heap[(k-1) / 2]!:=by
  constructor
  · intro ok
    refine ⟨fun k hk=>?_,ok.ord⟩
    have:=ok.to.2 k hk
    exact ⟨this.1,this.2.1,this.2.2.1,this.2.2.2.1⟩
  · rintro ⟨h1,h2⟩
    refine eM.of fit so wl hl hw fun k hk=>?_
    obtain ⟨c1,c2,c3,c4⟩:=h1 k hk;refine ⟨c1,c2,c3,c4,fun k0=>?_⟩
    unfold UW;rw [if_pos ⟨c1,(h1 ((k-1) / 2) (by omega)).1⟩,GB]
    exact h2 k k0 hk
 by_cases he: ∀k,k<a.heap.length->PG a.heap k
 · refine (key.2 fun i hi=>Classical.not_not.2 (he i hi)).trans ?_
   by_cases ho: ∀k,0<k->k<a.heap.length-> ¬dJ a.heap[k]! a.heap[(k-1) / 2]!
   · rw [if_pos ho,if_pos (same.2 ⟨he,ho⟩)]
   · rw [if_neg ho,if_neg (fun h=>ho (same.1 h).2)]
 · rw [if_neg (fun h=>he (same.1 h).1)]
   obtain ⟨i,h⟩:=Classical.not_forall.1 he;obtain ⟨hi,hx⟩:=Classical.not_imp.1 h;exact key.1 ⟨i,hi,hx⟩
end Go.Proofs.YtmlghnibpjlchaaGreat
namespace Go.Proofs.YtmlghnibpjlchaaGreat
open Go.Vm Classical
theorem D3 {l:List Ev} {n:Nat} {e:Ev} (hn:n<=l.length):e∈l.take n↔ ∃w,w<n/\l[w]! =e:=by
 rw [cF];constructor
 · rintro ⟨i,h1,_,h3⟩;exact ⟨i,h1,h3⟩
 · rintro ⟨i,h1,h3⟩;exact ⟨i,h1,by omega,h3⟩
theorem aIi {s:aQ} (so:eO s) {n:Nat} {H:List Ev} {W:List Int} (E:Ev->Prop) (hn:n<=H.length) (wl:W.length=s.uses.length) (hl:n+s.free.length=s.uses.length)
 (ix: ∀w,w<n->0<=(H[w]!).ix/\(H[w]!).ix<W.length/\W[(H[w]!).n]! =(w:Int)) (mem: ∀e,(∃w,w<n/\H[w]! =e)↔E e) (ord: ∀k,0<k->k<n-> ¬dJ H[k]! H[(k-1) / 2]!)
 (ue: ∀i,i<s.uses.length->s.used[i]! =true-> ∃e:Ev,E e/\e.ix=i/\e.2.2.2.2=s.uses[i]!) (un: ∀i,i<s.uses.length->s.used[i]! =false->W[i]! = -1)
 (ev: ∀e,E e->rM e) (nums: ∀e f:Ev,E e->E f->e.num=f.num->e.ix=f.ix):eM ⟨s,H.take n,W⟩:=by
 have len:(H.take n).length=n:=by rw [List.length_take];omega
 have cell: ∀w,w<n->(H.take n)[w]! =H[w]!:=fun w hw=>mF hw
 refine ⟨so,wl,by show (H.take n).length+_=_;rw [len];exact hl,?_,un,?_,?_,?_⟩
 · intro i hi hu
   dsimp only at hi hu ⊢;rw [len];obtain ⟨e,he,e1,e2⟩:=ue i hi hu;obtain ⟨w,hw,rfl⟩:=(mem e).2 he;obtain ⟨a1,a2,a3⟩:=ix w hw;have hn':(H[w]!).n=i:=by show ((H[w]!).ix).toNat=i;omega
   rw [hn'] at a3;rw [a3,Int.toNat_natCast,cell w hw];exact ⟨by omega,by omega,e1,e2⟩
 · intro w hw
   dsimp only at hw ⊢;rw [len] at hw;rw [cell w hw];exact ev _ ((mem _).1 ⟨w,hw,rfl⟩)
 · intro v w hv hw
   dsimp only at hw ⊢;rw [len] at hw;rw [cell v (by omega),cell w hw]
   intro hc
   have:=nums _ _ ((mem _).1 ⟨v,by omega,rfl⟩) ((mem _).1 ⟨w,hw,rfl⟩) hc
   obtain ⟨a1,a2,a3⟩:=ix v (by omega)
   obtain ⟨b1,b2,b3⟩:=ix w hw;have hn':(H[v]!).n=(H[w]!).n:=by show ((H[v]!).ix).toNat=((H[w]!).ix).toNat;rw [this]
   rw [hn'] at a3;omega
 · intro k k0 hk
   dsimp only at hk ⊢;rw [len] at hk;rw [cell k hk,cell _ (by omega)]
   exact ord k k0 hk
theorem yC {s:aQ} (so:eO s) {n:Nat} {x:Ev} {M:Ev->Prop} {K:Nat->Prop} {H H1:List Ev} {W W1:List Int} (st:DH n x M K H W H1 W1) (hn:n<=H.length) (wl:W.length=s.uses.length) (hl:n+s.free.length=s.uses.length)
 (ue: ∀i,i<s.uses.length->s.used[i]! =true-> ∃e:Ev,(e=x\/M e)/\e.ix=i/\e.2.2.2.2=s.uses[i]!) (un: ∀i,i<s.uses.length->s.used[i]! =false->K i/\W[i]! = -1)
 (ev: ∀e,(e=x\/M e)->rM e) (nums: ∀e f:Ev,(e=x\/M e)->(f=x\/M f)->e.num=f.num->e.ix=f.ix):eM ⟨s,H1.take n,W1⟩:=by
 refine aIi so (fun e=>e=x\/M e) (by rw [st.hl];exact hn) (by rw [st.wl];exact wl) hl (by rw [st.wl];exact st.ix) st.mem st.ord ue ?_ ev nums
 intro i hi hu;rw [st.out i (un i hi hu).1];exact (un i hi hu).2
theorem eM.bd {a:aG} (ok:eM a):a.heap.length<=200/\a.where_.length<=200:=by
 have:=ok.hl;have:=ok.wl;have:=ok.so.n2
 omega
theorem eM.cells {a:aG} (ok:eM a):nD a.heap.length a.heap a.where_:=by
 have:=ok.bd
 refine ⟨Nat.le_refl _,by omega,fun w hw=>?_⟩
 obtain ⟨b1,b2,b3,b4,b5⟩:=ok.back hw;exact ⟨ok.ev w hw,b1,by rw [ok.wl];exact b2⟩
theorem eM.inj {a:aG} (ok:eM a) {v w:Nat} (hv:v<a.heap.length) (hw:w<a.heap.length) (h:Ev.ix a.heap[v]! =Ev.ix a.heap[w]!):v=w:=by
 have h1:=(ok.back hv).2.2.2.2;have h2:=(ok.back hw).2.2.2.2
 have:Ev.n a.heap[v]! =Ev.n a.heap[w]!:=by show (Ev.ix a.heap[v]!).toNat=(Ev.ix a.heap[w]!).toNat;rw [h]
 rw [this] at h1;omega
theorem eM.grand {a:aG} (ok:eM a) {i k:Nat} (i0:0<i) (k0:0<k) (hk:k<a.heap.length) (hp:(k-1) / 2=i): ¬dJ a.heap[k]! a.heap[(i-1) / 2]!:=by
 have h1:=ok.ord k k0 hk;rw [hp] at h1;exact DG (ok.ev _ (by omega)).den (ok.ev _ (by omega)).den (ok.ev _ hk).den (ok.ord i i0 (by omega)) h1
theorem eM.live {a:aG} (ok:eM a) {h:Int×Int} (lv:xK a.slots h): ∃i,i<a.heap.length/\a.where_[h.1.toNat]! =(i:Int)/\(a.heap[i]!).2.2.2=h:=by
 obtain ⟨l1,l2,l3,l4⟩:=lv;obtain ⟨f1,f2,f3,f4⟩:=ok.fwd h.1.toNat (by omega) l3
 refine ⟨(a.where_[h.1.toNat]!).toNat,by omega,by omega,?_⟩
 have e1:(a.heap[(a.where_[h.1.toNat]!).toNat]!).2.2.2.1=h.1:=by
  have:Ev.ix a.heap[(a.where_[h.1.toNat]!).toNat]! =(h.1.toNat:Int):=f3
  have h2:Ev.ix a.heap[(a.where_[h.1.toNat]!).toNat]! =(a.heap[(a.where_[h.1.toNat]!).toNat]!).2.2.2.1:=rfl;omega
 exact Prod.ext e1 (by rw [f4,l4])
theorem eM.handle {a:aG} (ok:eM a) {i:Nat} (hi:i<a.heap.length):xK a.slots (a.heap[i]!).2.2.2/\a.where_[((a.heap[i]!).2.2.2.1).toNat]! =(i:Int):=by
 obtain ⟨b1,b2,b3,b4,b5⟩:=ok.back hi;exact ⟨⟨b1,b2,b3,b4⟩,b5⟩
theorem eM.used_ev {a:aG} (ok:eM a) {i:Nat} (hi:i<a.slots.uses.length) (hu:a.slots.used[i]! =true): ∃w,w<a.heap.length/\Ev.ix a.heap[w]! =i/\(a.heap[w]!).2.2.2.2=a.slots.uses[i]!:=by
 obtain ⟨f1,f2,f3,f4⟩:=ok.fwd i hi hu;exact ⟨(a.where_[i]!).toNat,by omega,f3,f4⟩
theorem eM.no_ev {a:aG} (ok:eM a) {i:Nat} (hu:a.slots.used[i]! =false) {w:Nat} (hw:w<a.heap.length):Ev.n a.heap[w]!≠i:=by
 intro h
 have:=(ok.back hw).2.2.1
 rw [h,hu] at this;cases this
theorem eM.nums {a:aG} (ok:eM a) {v w:Nat} (hv:v<a.heap.length) (hw:w<a.heap.length) (h:Ev.num a.heap[v]! =Ev.num a.heap[w]!):v=w:=by
 rcases Nat.lt_trichotomy v w with h1|h1|h1
 · exact absurd h (ok.nd v w h1 hw)
 · exact h1
 · exact absurd h.symm (ok.nd w v h1 hv)
theorem set_same {α:Type} [Inhabited α] {l:List α} {k:Nat} {v:α} (h:l[k]! =v):l.set k v=l:=by
 by_cases hk:k<l.length
 · apply K8 (by rw [List.length_set])
   intro i hi;rw [bD];split
   · rename_i e;rw [e.1];exact h.symm
   · rfl
 · exact List.set_eq_of_length_le (by omega)
def rN (x:Ev) (t:Int×Int):Ev:=(t.1,t.2,x.2.2)
noncomputable def kH (a:aG) (i:Nat) (t:Int×Int):aG:=⟨a.slots,(cC a.heap.length (rN a.heap[i]! t) i a.heap a.where_).1,(cC a.heap.length (rN a.heap[i]! t) i a.heap a.where_).2⟩
theorem LS {a:aG} (ok:eM a) {i:Nat} (hi:i<a.heap.length) {t:Int×Int} (ht:cE t) (h64:qK t):rM (rN a.heap[i]! t):=by
 have:=ok.ev i hi
 exact ⟨ht,h64,this.2.2.1,this.2.2.2⟩
theorem LT {a:aG} (ok:eM a) {i:Nat} (hi:i<a.heap.length) (t:Int×Int):E1 a.heap.length (rN a.heap[i]! t) (fun e=> ∃w,w<a.heap.length/\w≠i/\a.heap[w]! =e) a.heap a.where_ i:=by
 obtain ⟨b1,b2,b3,b4,b5⟩:=ok.back hi;refine ⟨hi,Nat.le_refl _,fun w hw hwi=>?_,b1,by rw [ok.wl];exact b2,fun e=>Iff.rfl⟩
 obtain ⟨c1,c2,c3,c4,c5⟩:=ok.back hw;exact ⟨c1,by rw [ok.wl];exact c2,c5,fun h=>hwi (ok.inj hw hi h)⟩
theorem NN {a:aG} (ok:eM a) (i:Nat):E4 a.heap.length a.heap i:=
 ⟨fun w hw=>(ok.ev w hw).den,fun k k0 hk _ _=>ok.ord k k0 hk,fun i0 _k k0 hk hp=>ok.grand i0 k0 hk hp⟩
theorem oB {a:aG} (ok:eM a) {i:Nat} (hi:i<a.heap.length) {t:Int×Int} (ht:cE t):
 DH a.heap.length (rN a.heap[i]! t) (fun e=> ∃w,w<a.heap.length/\w≠i/\a.heap[w]! =e) (fun k=>k≠Ev.n (rN a.heap[i]! t)/\ ∀w,w<a.heap.length->w≠i->Ev.n a.heap[w]!≠k) a.heap a.where_ (kH a i t).heap (kH a i t).where_:=
 CF (x:=rN a.heap[i]! t) ht.1 (LT ok hi t) (NN ok i)
theorem HM {a:aG} (ok:eM a) {i:Nat} (hi:i<a.heap.length) {t:Int×Int} (ht:cE t):(kH a i t).heap.length=a.heap.length/\(kH a i t).where_.length=a.where_.length:=
 ⟨(oB ok hi ht).hl,(oB ok hi ht).wl⟩
theorem YT {a:aG} (ok:eM a) {i:Nat} (hi:i<a.heap.length) {t:Int×Int} (ht:cE t) (e:Ev):e∈(kH a i t).heap↔(e=rN a.heap[i]! t\/(e∈a.heap/\e≠a.heap[i]!)):=by
 have st:=oB ok hi ht;have h1:e∈(kH a i t).heap↔ ∃w,w<a.heap.length/\((kH a i t).heap)[w]! =e:=by
  rw [aZ,(HM ok hi ht).1]
 rw [h1];refine (st.mem e).trans ?_;constructor
 · rintro (h|⟨w,hw,hwi,rfl⟩)
   · exact .inl h
   · exact .inr ⟨bE hw,fun h=>hwi (ok.inj hw hi (by rw [h]))⟩
 · rintro (h|⟨h,hne⟩)
   · exact .inl h
   · obtain ⟨w,hw,rfl⟩:=aZ.1 h
     exact .inr ⟨w,hw,fun h=>hne (by rw [h]),rfl⟩
theorem aBa {a:aG} (ok:eM a) {i:Nat} (hi:i<a.heap.length) {t:Int×Int} (ht:cE t) (h64:qK t):eM (kH a i t):=by
 have st:=oB ok hi ht;have len:=(HM ok hi ht).1;have hx:Ev.ix (rN a.heap[i]! t)=Ev.ix a.heap[i]!:=rfl;have key:=yC ok.so st (Nat.le_refl _) ok.wl ok.hl (fun j hj hu=>by
  obtain ⟨w,hw,e1,e2⟩:=ok.used_ev hj hu
  by_cases e:w=i
  · subst e;exact ⟨rN a.heap[w]! t,.inl rfl,e1,e2⟩
  · exact ⟨a.heap[w]!,.inr ⟨w,hw,e,rfl⟩,e1,e2⟩) (fun j hj hu=>⟨⟨(ok.no_ev hu hi).symm,fun w hw _=>ok.no_ev hu hw⟩,ok.un j hj hu⟩) (by
  rintro e (rfl|⟨w,hw,_,rfl⟩)
  · exact LS ok hi ht h64
  · exact ok.ev w hw) (by
  rintro e f (rfl|⟨v,hv,hvi,rfl⟩) (rfl|⟨w,hw,hwi,rfl⟩) he
  · rfl
  · exact absurd (ok.nums hi hw he).symm hwi
  · exact absurd (ok.nums hv hi he) hvi
  · rw [ok.nums hv hw he])
 have:(kH a i t).heap.take a.heap.length=(kH a i t).heap:=List.take_of_length_le (by rw [len];exact Nat.le_refl _)
 show eM ⟨a.slots,(kH a i t).heap,(kH a i t).where_⟩;rw [<- this];exact key
theorem SG {a:aG} (ok:eM a) (fit:CH a) {h:Int×Int} {i:Nat} (hi:i<a.heap.length) (hh:(a.heap[i]!).2.2.2=h):pV a h=some ((i:Int),0):=by
 obtain ⟨lv,wv⟩:=ok.handle hi;rw [hh] at lv;unfold pV;rw [lZ a fit,if_pos ok];simp only [aC,show ((0:Int) !=0)=false from rfl,cond_false,IJ ok.so,aN lv,Bool.not_true]
 have:=lv.2.1;have:=lv.1;have:=ok.wl
 have e:(a.heap[i]!).2.2.2.1=h.1:=by rw [hh]
 rw [dK (l:=a.where_) lv.1 (by omega),<- e,wv]
 rfl
theorem IZ {a:aG} (ok:eM a) (fit:CH a) {h t:Int×Int} {i:Nat} (hi:i<a.heap.length) (hh:(a.heap[i]!).2.2.2=h) (ht:cE t) (h64:qK t):uQ a h t=some (kH a i t,0):=by
 have bd:=ok.bd;obtain ⟨b1,b2,b3,b4,b5⟩:=ok.back hi;unfold uQ;rw [lZ a fit,if_pos ok,gP h64,if_pos ht];have pl:=SG ok fit hi hh;have se:=LN (u:=a.slots.uses) (us:=a.slots.used) (fr:=a.slots.free) (LS ok hi ht h64) (show 0<=Ev.ix (rN a.heap[i]! t) from b1) ok.cells rfl hi (show Ev.ix (rN a.heap[i]! t)<a.where_.length by rw [ok.wl];exact b2)
 have se':eL (a.slots.uses,a.slots.used,a.slots.free,(i:Int),t.1,t.2,(a.heap[i]!).2.2.1,(a.heap[i]!).2.2.2.1,(a.heap[i]!).2.2.2.2,a.heap,a.where_)=some (cC a.heap.length (rN a.heap[i]! t) i a.heap a.where_):=se
 simp only [aC,gt_iff_lt,Int.lt_irrefl,if_false,show ((0:Int) !=0)=false from rfl,cond_false,pl,aW (show a.heap.length<=1048576 by omega),aW (show a.where_.length<=1048576 by omega),aB a.heap i hi,se']
 rfl
theorem sP {a:aG} (ok:eM a):lL a=some a:=by
 have bd:=ok.bd;unfold lL;simp only [yA ok.so,aC,aW (show a.heap.length<=1048576 by omega),aW (show a.where_.length<=1048576 by omega)]
theorem HN {a:aG} (ok:eM a) {h t:Int×Int} {i:Nat} (hi:i<a.heap.length) (hh:(a.heap[i]!).2.2.2=h) (ht:cE t) (h64:qK t):sJ a h t=some (kH a i t):=by
 have bd:=ok.bd;obtain ⟨b1,b2,b3,b4,b5⟩:=ok.back hi;obtain ⟨lv,wv⟩:=ok.handle hi;have hx:=LS ok hi ht h64;have x1:Ev.ix (rN a.heap[i]! t)<a.where_.length:=by rw [ok.wl];exact b2
 have st:=oB ok hi ht;obtain ⟨j,H1,W1,e1,e3,e4,e5,e6,e7,e8,e9,e10⟩:=JA (x:=rN a.heap[i]! t) ht.1 i a.heap a.where_ (LT ok hi t) (NN ok i);have w1:a.where_.set (Ev.n (rN a.heap[i]! t)) (i:Int)=a.where_:=set_same b5;unfold sJ;rw [sP ok];have g1:aJ a.where_ h.1=some (i:Int):=by
  have e:(a.heap[i]!).2.2.2.1=h.1:=by rw [hh]
  rw [dK (l:=a.where_) (i:=h.1) (by rw [<- e];exact b1) (by rw [<- e,ok.wl];exact b2),<- e,wv]
 have u1:qE ((i:Int),a.slots.uses,a.slots.used,a.slots.free,a.heap.set i (rN a.heap[i]! t),a.where_)=some ((j:Int),a.slots.uses,a.slots.used,a.slots.free,H1.set j (rN a.heap[i]! t),W1.set (Ev.n (rN a.heap[i]! t)) (j:Int)):=by
  unfold qE
  have:=aA5 (c0:=((i:Int),a.slots.uses,a.slots.used,a.slots.free,a.heap.set i (rN a.heap[i]! t),a.where_)) (u:=a.slots.uses) (us:=a.slots.used) (fr:=a.slots.free) hx b1 rfl rfl rfl i a.heap a.where_ ok.cells hi rfl x1 List.length_set rfl
  rw [w1,e1] at this;exact this
 have cells1:nD a.heap.length H1 W1:=by
  refine ⟨by rw [e5];exact Nat.le_refl _,by omega,fun w hw=>?_⟩
  exact ⟨(CG ok.cells hi e1 w hw).1,(CG ok.cells hi e1 w hw).2.1,by rw [e6];exact (CG ok.cells hi e1 w hw).2.2⟩
 have d1:nK ((j:Int),a.slots.uses,a.slots.used,a.slots.free,H1.set j (rN a.heap[i]! t),W1.set (Ev.n (rN a.heap[i]! t)) (j:Int))=some (a.slots.uses,a.slots.used,a.slots.free,(cC a.heap.length (rN a.heap[i]! t) i a.heap a.where_).1,(cC a.heap.length (rN a.heap[i]! t) i a.heap a.where_).2):=by
  unfold nK
  have:=SA (c0:=((j:Int),a.slots.uses,a.slots.used,a.slots.free,H1.set j (rN a.heap[i]! t),W1.set (Ev.n (rN a.heap[i]! t)) (j:Int))) (n:=a.heap.length) (u:=a.slots.uses) (us:=a.slots.used) (fr:=a.slots.free) hx b1 rfl rfl rfl a.heap.length j H1 W1 (by omega) cells1 e3.lt e5 (by rw [e6];exact x1) List.length_set List.length_set
  rw [this];unfold cC;rw [e1]
 have s1:bJ a.heap (i:Int) (t.1,t.2,(a.heap[i]!).2.2)=a.heap.set i (rN a.heap[i]! t):=rfl;simp only [aC,g1,aB a.heap i hi,s1,u1,d1];rfl
end Go.Proofs.YtmlghnibpjlchaaGreat
namespace Go.Proofs.YtmlghnibpjlchaaGreat
open Go.Vm Classical
theorem NO (H:List Ev) (n:Int) (hl:H.length<=1000000):cM H n=some (decide (∃w,w<H.length/\(H[w]!).2.2.1=n)):=by
 unfold cM eF;have key:=lG (body:=cL) (fun i=>(H,n,(H.length:Int),(i:Int))) H.length (fun i=>(H[i]!).2.2.1=n) (fun i=>(i:Int)) (e:= -1) (fun i hi=>by
  have e1:decide ((i:Int)<(H.length:Int))=true:=aN (by omega)
  unfold cL xW;simp only [e1,cond_true,aB H i hi,aC,bA (show i<1000000000 by omega)]
  constructor
  · intro h;rw [fZ h];rfl
  · intro h;rw [fI h];rfl) (by
  unfold cL
  have:decide ((H.length:Int)<(H.length:Int))=false:=aL (by omega)
  simp only [this,cond_false])
 rw [aE]
 by_cases hx: ∃w,w<H.length/\(H[w]!).2.2.1=n
 · obtain ⟨k,h1,h2,h3⟩:=CD hx
   have:=key.1 k h1 h2 h3
   rw [show ((0:Nat):Int)=0 from rfl] at this;rw [this,aN hx];simp only [aC,aN (show (0:Int)<=(k:Int) by omega)]
 · have:=key.2 fun i hi he=>hx ⟨i,hi,he⟩
   rw [show ((0:Nat):Int)=0 from rfl] at this;rw [this,aL hx];rfl
noncomputable def dA (a:aG) (t:Int×Int) (n:Int):Ev:=(t.1,t.2,n,lR a.slots)
noncomputable def lS (a:aG) (t:Int×Int) (n:Int):aG:=
 ⟨gR a.slots,(cC (a.heap.length+1) (dA a t n) a.heap.length (a.heap++[dA a t n]) a.where_).1,(cC (a.heap.length+1) (dA a t n) a.heap.length (a.heap++[dA a t n]) a.where_).2⟩
section
variable {a : aG} (ok : eM a) (op : BF a.slots) {t : Int × Int} (ht : cE t) (h64 : qK t) {n : Int} (n0 : 0 <= n) (n1 : n <= 1000000)
include ok op
theorem GD:Ev.ix (dA a t n)=(cQ a.slots:Int)/\cQ a.slots<a.slots.uses.length/\a.slots.used[cQ a.slots]! =false/\a.slots.free.length=(gR a.slots).free.length+1:=by
 obtain ⟨h1,h2,h3⟩:=DF ok.so op.1;refine ⟨rfl,h1,?_,?_⟩
 · have:=ok.so.uf (cQ a.slots) h1
   cases h:a.slots.used[cQ a.slots]! with
   |false=>rfl
   |true=>exact absurd h3 (this.1 h)
 · show _=(a.slots.free.take (a.slots.free.length-1)).length+1
   have:=op.1
   rw [List.length_take];omega
theorem NP:E1 (a.heap.length+1) (dA a t n) (fun e=>e∈a.heap) (a.heap++[dA a t n]) a.where_ a.heap.length:=by
 obtain ⟨h1,h2,h3,h4⟩:=GD (t:=t) (n:=n) ok op;have cell: ∀w,w<a.heap.length->(a.heap++[dA a t n])[w]! =a.heap[w]!:=fun w hw=>mE hw
 refine ⟨by omega,by simp,fun w hw hwi=>?_,by rw [h1];omega,by rw [h1,ok.wl];omega,fun e=>?_⟩
 · have hw':w<a.heap.length:=by omega
   rw [cell w hw'];obtain ⟨c1,c2,c3,c4,c5⟩:=ok.back hw';refine ⟨c1,by rw [ok.wl];exact c2,c5,fun h=>?_⟩
   rw [h1] at h
   have:Ev.n a.heap[w]! =cQ a.slots:=by show (Ev.ix a.heap[w]!).toNat=_;omega
   exact ok.no_ev h3 hw' this
 · constructor
   · rintro ⟨w,hw,hwi,rfl⟩
     rw [cell w (by omega)]
     exact bE (by omega)
   · intro h
     obtain ⟨w,hw,rfl⟩:=aZ.1 h;exact ⟨w,by omega,by omega,cell w hw⟩
theorem SH (ht:cE t):E4 (a.heap.length+1) (a.heap++[dA a t n]) a.heap.length:=by
 have _:=op;have cell: ∀w,w<a.heap.length->(a.heap++[dA a t n])[w]! =a.heap[w]!:=fun w hw=>mE hw
 refine ⟨fun w hw=>?_,fun k k0 hk k1 k2=>?_,fun i0 k k0 hk hp=>by omega⟩
 · by_cases h:w<a.heap.length
   · rw [cell w h];exact (ok.ev w h).den
   · have:w=a.heap.length:=by omega
     subst this;rw [nC (Nat.le_refl _),Nat.sub_self];exact ht.1
 · rw [cell k (by omega),cell _ (by omega)]
   exact ok.ord k k0 (by omega)
theorem AT (ht:cE t):DH (a.heap.length+1) (dA a t n) (fun e=>e∈a.heap) (fun k=>k≠Ev.n (dA a t n)/\ ∀w,w<a.heap.length+1->w≠a.heap.length->Ev.n (a.heap++[dA a t n])[w]!≠k) (a.heap++[dA a t n]) a.where_ (lS a t n).heap (lS a t n).where_:=
 CF (x:=dA a t n) ht.1 (NP ok op) (SH ok op ht)
theorem GE (ht:cE t):(lS a t n).heap.length=a.heap.length+1:=by
 have:=(AT (n:=n) ok op ht).hl
 rw [this];simp
theorem SI (ht:cE t) (e:Ev):e∈(lS a t n).heap↔(e=dA a t n\/e∈a.heap):=by
 have st:=AT (n:=n) ok op ht;rw [aZ,GE ok op ht];exact st.mem e
theorem PH (ht:cE t) (h64:qK t) (n0:0<=n) (n1:n<=1000000):rM (dA a t n):=by
 have _:=ok;have _:=op;exact ⟨ht,h64,n0,n1⟩
theorem XB (ht:cE t) (h64:qK t) (n0:0<=n) (n1:n<=1000000) (nn: ∀e∈a.heap,Ev.num e≠n):eM (lS a t n):=by
 have st:=AT (n:=n) ok op ht;have len:=GE (n:=n) ok op ht;obtain ⟨h1,h2,h3,h4⟩:=GD (t:=t) (n:=n) ok op;have hu:=ok.so.ul;have ul:(gR a.slots).uses.length=a.slots.uses.length:=List.length_set;have key:=yC (aA3 ok.so op) st (by simp) (by rw [ul];exact ok.wl) (by rw [ul];have:=ok.hl;omega) (fun j hj hu'=>by
  rw [ul] at hj;change (a.slots.used.set (cQ a.slots) true)[j]! =true at hu';rw [bD] at hu'
  show∃e:Ev,_/\_/\_=(a.slots.uses.set (cQ a.slots) (a.slots.uses[cQ a.slots]!+1))[j]!
  rw [bD]
  by_cases e:j=cQ a.slots
  · rw [if_pos ⟨e,h2⟩]
    exact ⟨dA a t n,.inl rfl,by rw [h1,e],rfl⟩
  · rw [if_neg (fun k=>e k.1)]
    rw [if_neg (fun k=>e k.1)] at hu'
    obtain ⟨w,hw,e1,e2⟩:=ok.used_ev hj hu';exact ⟨a.heap[w]!,.inr (bE hw),e1,e2⟩) (fun j hj hu'=>by
  rw [ul] at hj;change (a.slots.used.set (cQ a.slots) true)[j]! =false at hu';rw [bD] at hu'
  by_cases e:j=cQ a.slots
  · rw [if_pos ⟨e,by omega⟩] at hu';cases hu'
  · rw [if_neg (fun k=>e k.1)] at hu'
    refine ⟨⟨?_,fun w hw hwi=>?_⟩,ok.un j hj hu'⟩
    · show j≠(Ev.ix (dA a t n)).toNat
      omega
    · rw [mE (by omega)]
      exact ok.no_ev hu' (by omega)) (by
  rintro e (rfl|h)
  · exact PH ok op ht h64 n0 n1
  · obtain ⟨w,hw,rfl⟩:=aZ.1 h
    exact ok.ev w hw) (by
  rintro e f (rfl|he) (rfl|hf) hn
  · rfl
  · exact absurd hn.symm (nn f hf)
  · exact absurd hn (nn e he)
  · obtain ⟨v,hv,rfl⟩:=aZ.1 he
    obtain ⟨w,hw,rfl⟩:=aZ.1 hf;rw [ok.nums hv hw hn])
 have:(lS a t n).heap.take (a.heap.length+1)=(lS a t n).heap:=List.take_of_length_le (by rw [len];exact Nat.le_refl _)
 show eM ⟨gR a.slots,(lS a t n).heap,(lS a t n).where_⟩;rw [<- this];exact key
theorem LU (ht:cE t) (h64:qK t) (n0:0<=n) (n1:n<=1000000):nD (a.heap.length+1) (a.heap++[dA a t n]) a.where_:=by
 have bd:=ok.bd;obtain ⟨h1,h2,h3,h4⟩:=GD (t:=t) (n:=n) ok op;refine ⟨by simp,by simp;omega,fun w hw=>?_⟩
 by_cases h:w<a.heap.length
 · rw [mE h];exact ok.cells.ev w h
 · have:w=a.heap.length:=by omega
   subst this;rw [nC (Nat.le_refl _),Nat.sub_self];exact ⟨PH ok op ht h64 n0 n1,by show 0<=Ev.ix (dA a t n);omega,by show Ev.ix (dA a t n)<_;rw [ok.wl];omega⟩
theorem yZ (fit:CH a) (ht:cE t) (h64:qK t) (n0:0<=n) (n1:n<=1000000) (nn: ∀e∈a.heap,Ev.num e≠n):lD a t n=some (lS a t n,lR a.slots,0):=by
 have bd:=ok.bd;obtain ⟨h1,h2,h3,h4⟩:=GD (t:=t) (n:=n) ok op;have hn: ¬ ∃w,w<a.heap.length/\(a.heap[w]!).2.2.1=n:=by
  rintro ⟨w,hw,e⟩;exact nn _ (bE hw) e
 unfold lD;rw [lZ a fit,if_pos ok,gP h64,if_pos ht,NO _ _ (by omega),aL hn,GA ok.so,if_pos op]
 have se:=LN (u:=(gR a.slots).uses) (us:=(gR a.slots).used) (fr:=(gR a.slots).free) (PH ok op ht h64 n0 n1) (show 0<=Ev.ix (dA a t n) by omega) (LU ok op ht h64 n0 n1) (by simp) (show a.heap.length<a.heap.length+1 by omega) (show Ev.ix (dA a t n)<a.where_.length by rw [ok.wl];omega)
 have e1:aA .i64 (((a.heap++[dA a t n]).length:Int) -1)=(a.heap.length:Int):=by rw [wi,List.length_append];simp;omega
 have ap:bV a.heap [(t.1,t.2,n,lR a.slots)]=some (a.heap++[dA a t n]):=fE (by simp;omega)
 have se':eL ((gR a.slots).uses,(gR a.slots).used,(gR a.slots).free,(a.heap.length:Int),t.1,t.2,n,(lR a.slots).1,(lR a.slots).2,a.heap++[dA a t n],a.where_)=some (cC (a.heap.length+1) (dA a t n) a.heap.length (a.heap++[dA a t n]) a.where_):=se
 simp only [aC,gt_iff_lt,Int.lt_irrefl,if_false,show ((0:Int) !=0)=false from rfl,cond_false,aL (show¬n<0 by omega),aL (show¬1000000<n by omega),aW (show a.heap.length<=1048576 by omega),aW (show a.where_.length<=1048576 by omega),ap,aE,e1,se']
 rfl
theorem BG (ht:cE t) (h64:qK t) (n0:0<=n) (n1:n<=1000000):eH a t n=some (lS a t n,lR a.slots):=by
 have bd:=ok.bd;obtain ⟨h1,h2,h3,h4⟩:=GD (t:=t) (n:=n) ok op;unfold eH;rw [sP ok];have e1:aA .i64 (((a.heap++[dA a t n]).length:Int) -1)=(a.heap.length:Int):=by rw [wi,List.length_append];simp;omega
 have ap:bV a.heap [(t.1,t.2,n,lR a.slots)]=some (a.heap++[dA a t n]):=fE (by simp;omega)
 have hx:=PH (n:=n) ok op ht h64 n0 n1;have last:cC (a.heap.length+1) (dA a t n) a.heap.length (a.heap++[dA a t n]) a.where_=_:=R8 (x:=dA a t n) ht.1 (NP ok op) (SH ok op ht) (fun k k0 hk hp=>by omega)
 have hs:(a.heap++[dA a t n]).set a.heap.length (dA a t n)=a.heap++[dA a t n]:=set_same (by rw [nC (Nat.le_refl _),Nat.sub_self];rfl)
 have ws:bJ a.where_ (lR a.slots).1 (a.heap.length:Int)=a.where_.set (Ev.n (dA a t n)) (a.heap.length:Int):=rfl
 have u1:qF ((gR a.slots).uses,(gR a.slots).used,(gR a.slots).free,(a.heap.length:Int),a.heap++[dA a t n],a.where_.set (Ev.n (dA a t n)) (a.heap.length:Int))=some (((iW (dA a t n) a.heap.length (a.heap++[dA a t n]) a.where_).1:Int),(iW (dA a t n) a.heap.length (a.heap++[dA a t n]) a.where_).2.1.set (iW (dA a t n) a.heap.length (a.heap++[dA a t n]) a.where_).1 (dA a t n),(iW (dA a t n) a.heap.length (a.heap++[dA a t n]) a.where_).2.2.set (Ev.n (dA a t n)) ((iW (dA a t n) a.heap.length (a.heap++[dA a t n]) a.where_).1:Int)):=by
  unfold qF
  have:=aA7 (c0:=((gR a.slots).uses,(gR a.slots).used,(gR a.slots).free,(a.heap.length:Int),a.heap++[dA a t n],a.where_.set (Ev.n (dA a t n)) (a.heap.length:Int))) (u:=(gR a.slots).uses) (us:=(gR a.slots).used) (fr:=(gR a.slots).free) hx (show 0<=Ev.ix (dA a t n) by omega) a.heap.length (a.heap++[dA a t n]) a.where_ (LU ok op ht h64 n0 n1) (by omega) (by simp) (by rw [ok.wl];omega) rfl List.length_set
  rw [hs] at this;exact this
 have g1:aJ a.where_ (lR a.slots).1=some a.where_[cQ a.slots]!:=aB a.where_ (cQ a.slots) (by rw [ok.wl];exact h2)
 simp only [aC,LJ ok.so op,ap,g1,aE,e1,ws,u1];unfold lS;rw [last]
end
theorem zA {a:aG} (ok:eM a) (op: ¬BF a.slots) (fit:CH a) {t:Int×Int} (ht:cE t) (h64:qK t) {n:Int} (n0:0<=n) (n1:n<=1000000) (nn: ∀e∈a.heap,Ev.num e≠n):lD a t n=some (⟨⟨[],[],[]⟩,[],[]⟩,(0,0),18):=by
 have bd:=ok.bd;have hn: ¬ ∃w,w<a.heap.length/\(a.heap[w]!).2.2.1=n:=by
  rintro ⟨w,hw,e⟩;exact nn _ (bE hw) e
 unfold lD;rw [lZ a fit,if_pos ok,gP h64,if_pos ht,NO _ _ (by omega),aL hn,GA ok.so,if_neg op]
 simp only [aC,gt_iff_lt,Int.lt_irrefl,if_false,show ((0:Int) !=0)=false from rfl,cond_false,aL (show¬n<0 by omega),aL (show¬1000000<n by omega),show ((18:Int) !=0)=true from rfl,cond_true]
end Go.Proofs.YtmlghnibpjlchaaGreat
namespace Go.Proofs.YtmlghnibpjlchaaGreat
open Go.Vm Classical
theorem xL {l:List Ev} {n i:Nat} {v:Ev}:(l.set i v).take n=(l.take n).set i v:=by
 apply List.ext_getElem?;intro j;rw [List.getElem?_take,List.getElem?_set,List.getElem?_set,List.getElem?_take,List.length_take]
 by_cases h1:j<n
 · rw [if_pos h1]
   by_cases h2:i=j
   · subst h2
     by_cases h3:i<l.length
     · rw [if_pos rfl,if_pos h3,if_pos rfl,if_pos (by omega)]
     · rw [if_pos rfl,if_neg h3,if_pos rfl,if_neg (by omega)]
   · rw [if_neg h2,if_neg h2,if_pos h1]
 · rw [if_neg h1]
   by_cases h2:i=j
   · rw [if_pos h2,if_neg (by omega)]
   · rw [if_neg h2,if_neg h1]
theorem SJ {n:Nat} {x:Ev}: ∀(i:Nat) (H:List Ev) (W:List Int),i<n->iW x i (H.take n) W=((iW x i H W).1,(iW x i H W).2.1.take n,(iW x i H W).2.2)
 |0,H,W,hi=>by rw [iW,iW]
 |i+1,H,W,hi=>by
  have e:(H.take n)[i / 2]! =H[i / 2]!:=mF (by omega)
  rw [iW,iW,e]
  by_cases h:dJ x H[i / 2]!
  · rw [if_pos h,if_pos h,<- xL]
    exact SJ (i / 2) _ _ (by omega)
  · rw [if_neg h,if_neg h]
termination_by i=>i
decreasing_by omega
theorem aBb {x:Ev}: ∀(i:Nat) (H:List Ev) (W:List Int),(iW x i H W).1<=i
 |0,H,W=>by rw [iW];exact Nat.le_refl _
 |i+1,H,W=>by
  rw [iW];split
  · exact Nat.le_trans (aBb (i / 2) _ _) (by omega)
  · exact Nat.le_refl _
termination_by i=>i
decreasing_by omega
theorem LV {n:Nat} {H:List Ev} {i:Nat} (hk:2*i+1<n):hJ n (H.take n) i=hJ n H i:=by
 unfold hJ
 by_cases h:2*i+2<n
 · rw [mF h,mF (show 2*i+1<n by omega)]
 · rw [if_neg (fun k=>h k.1),if_neg (fun k=>h k.1)]
theorem SK {n:Nat} {x:Ev} {i:Nat} {H:List Ev} {W:List Int} (h:2*i+1<n) (hl:dJ H[hJ n H i]! x):dN n x i H W=dN n x (hJ n H i) (H.set i H[hJ n H i]!) (W.set (H[hJ n H i]!).n (i:Int)):=by
 rw [dN,dif_pos h,if_pos hl]
theorem AU {n:Nat} {x:Ev} {i:Nat} {H:List Ev} {W:List Int} (h: ¬(2*i+1<n/\dJ H[hJ n H i]! x)):dN n x i H W=(i,H,W):=by
 rw [dN];split
 · rename_i h1;rw [if_neg (fun k=>h ⟨h1,k⟩)]
 · rfl
theorem LW {n : Nat} {x : Ev} : ∀ (d i : Nat) (H : List Ev) (W : List Int), n - i <= d -> dN n x i (H.take n) W = ((dN n x i H W).1, (dN n x i H W).2.1.take n, (dN n x i H W).2.2)
  | 0, i, H, W, hd => by
    rw [AU (fun h => by omega), AU (fun h => by omega)]
  | d + 1, i, H, W, hd => by
    have kc := pH n H i
    by_cases h : 2 * i + 1 < n /\ dJ H[hJ n H i]! x
    · have e : (H.take n)[hJ n (H.take n) i]! = H[hJ n H i]! := by rw [LV h.1, mF (by omega)]
      rw [SK h.1 h.2, SK (H := H.take n) h.1 (by rw [e]; exact h.2), e, LV h.1, <- xL]
      exact LW d _ _ _ (by omega)
    · have h' : ¬ (2 * i + 1 < n /\ dJ (H.take n)[hJ n (H.take n) i]! x) := by
        rintro ⟨k1, k2⟩
        rw [LV k1, mF (by omega)] at k2
        exact h ⟨k1, k2⟩
      rw [AU h, AU h']
theorem XC {x:Ev}: ∀(i:Nat) (H:List Ev) (W:List Int),(iW x i H W).2.1.length=H.length/\(iW x i H W).2.2.length=W.length
 |0,H,W=>by rw [iW];exact ⟨rfl,rfl⟩
 |i+1,H,W=>by
  rw [iW];split
  · have:=XC (x:=x) (i / 2) (H.set (i+1) H[i / 2]!) (W.set (H[i / 2]!).n ((i+1:Nat):Int))
    rwa [List.length_set,List.length_set] at this
  · exact ⟨rfl,rfl⟩
termination_by i=>i
decreasing_by omega
theorem GF {n:Nat} {x:Ev} {i:Nat} {H:List Ev} {W:List Int} (hi:i<n):cC n x i (H.take n) W=((cC n x i H W).1.take n,(cC n x i H W).2):=by
 unfold cC;rw [SJ i H W hi];dsimp only;rw [LW n _ _ _ (by omega)]
 dsimp only;rw [xL]
noncomputable def eC (a:aG) (i:Nat):aG:=
 if i<a.heap.length-1 then ⟨fN a.slots (a.heap[i]!).2.2.2,(cC (a.heap.length-1) a.heap[a.heap.length-1]! i a.heap (a.where_.set (Ev.n a.heap[i]!) (-1))).1.take (a.heap.length-1),(cC (a.heap.length-1) a.heap[a.heap.length-1]! i a.heap (a.where_.set (Ev.n a.heap[i]!) (-1))).2⟩
 else ⟨fN a.slots (a.heap[i]!).2.2.2,a.heap.take (a.heap.length-1),a.where_.set (Ev.n a.heap[i]!) (-1)⟩
section
variable {a : aG} (ok : eM a) {i : Nat} (hi : i < a.heap.length)
include ok hi
theorem zB {w:Nat} (hw:w<a.heap.length) (hne:w≠i):Ev.n a.heap[w]!≠Ev.n a.heap[i]!:=by
 have h1:=(ok.back hw).1;have h2:=(ok.back hi).1;exact aPK h1 h2 fun h=>hne (ok.inj hw hi h)
theorem NQ:nD (a.heap.length-1) a.heap (a.where_.set (Ev.n a.heap[i]!) (-1)):=by
 have c:=ok.cells;refine ⟨by omega,c.hb,fun w hw=>?_⟩
 rw [List.length_set];exact c.ev w (by omega)
theorem aBc (hlt:i<a.heap.length-1):E1 (a.heap.length-1) a.heap[a.heap.length-1]! (fun e=> ∃w,w<a.heap.length-1/\w≠i/\a.heap[w]! =e) a.heap (a.where_.set (Ev.n a.heap[i]!) (-1)) i:=by
 obtain ⟨b1,b2,b3,b4,b5⟩:=ok.back (show a.heap.length-1<a.heap.length by omega)
 refine ⟨hlt,by omega,fun w hw hwi=>?_,b1,by rw [List.length_set,ok.wl];exact b2,fun e=>Iff.rfl⟩
 obtain ⟨c1,c2,c3,c4,c5⟩:=ok.back (show w<a.heap.length by omega)
 refine ⟨c1,by rw [List.length_set,ok.wl];exact c2,?_,fun h=>?_⟩
 · rw [bD,if_neg (fun h=>zB ok hi (show w<a.heap.length by omega) hwi h.1)]
   exact c5
 · have:=ok.inj (show w<a.heap.length by omega) (show a.heap.length-1<a.heap.length by omega) h
   omega
theorem aHG:E4 (a.heap.length-1) a.heap i:=
 ⟨fun w hw=>(ok.ev w (by omega)).den,fun k k0 hk _ _=>ok.ord k k0 (by omega),fun i0 k k0 hk hp=>ok.grand i0 k0 (by omega) hp⟩
theorem IK (hlt:i<a.heap.length-1):
 DH (a.heap.length-1) a.heap[a.heap.length-1]! (fun e=> ∃w,w<a.heap.length-1/\w≠i/\a.heap[w]! =e) (fun k=>k≠Ev.n a.heap[a.heap.length-1]!/\ ∀w,w<a.heap.length-1->w≠i->Ev.n a.heap[w]!≠k) a.heap (a.where_.set (Ev.n a.heap[i]!) (-1))
  (cC (a.heap.length-1) a.heap[a.heap.length-1]! i a.heap (a.where_.set (Ev.n a.heap[i]!) (-1))).1 (cC (a.heap.length-1) a.heap[a.heap.length-1]! i a.heap (a.where_.set (Ev.n a.heap[i]!) (-1))).2:=
 CF (ok.ev (a.heap.length-1) (by omega)).den (aBc ok hi hlt) (aHG ok hi)
theorem NR:eO (fN a.slots (a.heap[i]!).2.2.2):=aA2 ok.so (ok.handle hi).1
theorem CJ {j:Nat} (hj:j<a.slots.uses.length):(fN a.slots (a.heap[i]!).2.2.2).used[j]! =if j=Ev.n a.heap[i]! then false else a.slots.used[j]!:=by
 have _:=hi;show (a.slots.used.set (Ev.n a.heap[i]!) false)[j]! =_;rw [bD]
 have:=ok.so.ul
 by_cases e:j=Ev.n a.heap[i]!
 · rw [if_pos ⟨e,by omega⟩,if_pos e]
 · rw [if_neg (fun k=>e k.1),if_neg e]
theorem HO:eM (eC a i):=by
 have hb:=ok.back hi;have hl:a.heap.length-1+(fN a.slots (a.heap[i]!).2.2.2).free.length=a.slots.uses.length:=by
  show a.heap.length-1+(a.slots.free++[_]).length=_;rw [List.length_append]
  have:=ok.hl
  simp only [List.length_cons,List.length_nil];omega
 have un: ∀j,j<a.slots.uses.length->(fN a.slots (a.heap[i]!).2.2.2).used[j]! =false->(a.where_.set (Ev.n a.heap[i]!) (-1))[j]! = -1:=by
  intro j hj hu;rw [CJ ok hi hj] at hu;rw [bD]
  by_cases e:j=Ev.n a.heap[i]!
  · rw [if_pos ⟨e.symm▸rfl,by rw [ok.wl];omega⟩]
  · rw [if_neg e] at hu
    rw [if_neg (fun k=>e k.1)]
    exact ok.un j hj hu
 unfold eC
 by_cases hlt:i<a.heap.length-1
 · rw [if_pos hlt]
   have st:=IK ok hi hlt;refine yC (NR ok hi) st (by omega) (by rw [List.length_set];exact ok.wl) hl (fun j hj hu=>?_) (fun j hj hu=>⟨⟨?_,fun w hw hwi=>?_⟩,un j hj hu⟩) ?_ ?_
   · change j<a.slots.uses.length at hj
     rw [CJ ok hi hj] at hu
     by_cases e:j=Ev.n a.heap[i]!
     · rw [if_pos e] at hu;cases hu
     · rw [if_neg e] at hu
       obtain ⟨w,hw,e1,e2⟩:=ok.used_ev hj hu;refine ⟨a.heap[w]!,?_,e1,e2⟩
       by_cases hl':w=a.heap.length-1
       · left;rw [hl']
       · refine .inr ⟨w,by omega,fun h=>e ?_,rfl⟩
         rw [<- h];show j=(Ev.ix a.heap[w]!).toNat;omega
   · change j<a.slots.uses.length at hj
     rw [CJ ok hi hj] at hu
     by_cases e:j=Ev.n a.heap[i]!
     · rw [e];exact (zB ok hi (by omega) (by omega)).symm
     · rw [if_neg e] at hu
       exact (ok.no_ev hu (by omega)).symm
   · change j<a.slots.uses.length at hj
     rw [CJ ok hi hj] at hu
     by_cases e:j=Ev.n a.heap[i]!
     · rw [e];exact zB ok hi (by omega) hwi
     · rw [if_neg e] at hu
       exact ok.no_ev hu (by omega)
   · rintro e (rfl|⟨w,hw,_,rfl⟩)
     · exact ok.ev _ (by omega)
     · exact ok.ev w (by omega)
   · rintro e f (rfl|⟨v,hv,hvi,rfl⟩) (rfl|⟨w,hw,hwi,rfl⟩) he
     · rfl
     · rw [ok.nums (by omega) (by omega) he]
     · rw [ok.nums (by omega) (by omega) he]
     · rw [ok.nums (by omega) (by omega) he]
 · rw [if_neg hlt]
   have hie:i=a.heap.length-1:=by omega
   refine aIi (NR ok hi) (fun e=> ∃w,w<a.heap.length-1/\a.heap[w]! =e) (by omega) (by rw [List.length_set];exact ok.wl) hl (fun w hw=>?_) (fun e=>Iff.rfl) (fun k k0 hk=>ok.ord k k0 (by omega)) (fun j hj hu=>?_) un ?_ ?_
   · obtain ⟨c1,c2,c3,c4,c5⟩:=ok.back (show w<a.heap.length by omega)
     refine ⟨c1,by rw [List.length_set,ok.wl];exact c2,?_⟩
     rw [bD,if_neg (fun h=>zB ok hi (show w<a.heap.length by omega) (by omega) h.1)]
     exact c5
   · change j<a.slots.uses.length at hj
     rw [CJ ok hi hj] at hu
     by_cases e:j=Ev.n a.heap[i]!
     · rw [if_pos e] at hu;cases hu
     · rw [if_neg e] at hu
       obtain ⟨w,hw,e1,e2⟩:=ok.used_ev hj hu;refine ⟨a.heap[w]!,⟨w,?_,rfl⟩,e1,e2⟩
       have:w≠i:=fun h=>e (by rw [<- h];show j=(Ev.ix a.heap[w]!).toNat;omega)
       omega
   · rintro e ⟨w,hw,rfl⟩
     exact ok.ev w (by omega)
   · rintro e f ⟨v,hv,rfl⟩ ⟨w,hw,rfl⟩ he
     rw [ok.nums (by omega) (by omega) he]
theorem LX (e:Ev):e∈(eC a i).heap↔(e∈a.heap/\e≠a.heap[i]!):=by
 have other: ∀w,w<a.heap.length->(a.heap[w]!≠a.heap[i]!↔w≠i):=fun w hw=>⟨fun h k=>h (by rw [k]),fun h k=>h (ok.inj hw hi (by rw [k]))⟩
 unfold eC
 by_cases hlt:i<a.heap.length-1
 · rw [if_pos hlt]
   have st:=IK ok hi hlt;show e∈(_:List Ev).take _↔_;rw [D3 (by rw [st.hl];omega)]
   refine (st.mem e).trans ?_;constructor
   · rintro (h|⟨w,hw,hwi,rfl⟩)
     · rw [h];exact ⟨bE (by omega),(other _ (by omega)).2 (by omega)⟩
     · exact ⟨bE (by omega),(other _ (by omega)).2 hwi⟩
   · rintro ⟨h,hne⟩
     obtain ⟨w,hw,rfl⟩:=aZ.1 h
     by_cases c:w=a.heap.length-1
     · left;rw [c]
     · exact .inr ⟨w,by omega,(other w hw).1 hne,rfl⟩
 · rw [if_neg hlt]
   show e∈a.heap.take _↔_;rw [D3 (by omega)]
   constructor
   · rintro ⟨w,hw,rfl⟩
     exact ⟨bE (by omega),(other _ (by omega)).2 (by omega)⟩
   · rintro ⟨h,hne⟩
     obtain ⟨w,hw,rfl⟩:=aZ.1 h
     have:=(other w hw).1 hne
     exact ⟨w,by omega,rfl⟩
theorem HP:sA a (i:Int)=some (eC a i,a.heap[i]!,0):=by
 have bd:=ok.bd;obtain ⟨b1,b2,b3,b4,b5⟩:=ok.back hi;obtain ⟨c1,c2,c3,c4,c5⟩:=ok.back (show a.heap.length-1<a.heap.length by omega)
 unfold sA;have e1:aA .i64 ((a.heap.length:Int) -1)=((a.heap.length-1:Nat):Int):=uU (by omega) (by omega)
 have g1:aJ a.where_ (a.heap[i]!).2.2.2.1=some a.where_[(a.heap[i]!).2.2.2.1.toNat]!:=dK b1 (by rw [ok.wl];exact b2)
 have ws:bJ a.where_ (a.heap[i]!).2.2.2.1 (-1)=a.where_.set (Ev.n a.heap[i]!) (-1):=rfl
 simp only [aB a.heap i hi,aC,PB ok.so (ok.handle hi).1,show ((0:Int) !=0)=false from rfl,cond_false,aW (show a.heap.length<=1048576 by omega),aW (show a.where_.length<=1048576 by omega),aE,e1,aB a.heap (a.heap.length-1) (by omega),kW a.heap (a.heap.length-1) (by omega),g1,ws,Int.toNat_natCast]
 unfold eC
 by_cases hlt:i<a.heap.length-1
 · rw [aN (by omega),if_pos hlt]
   have se:=UV (cap:=a.heap.length) (u:=(fN a.slots (a.heap[i]!).2.2.2).uses) (us:=(fN a.slots (a.heap[i]!).2.2.2).used) (fr:=(fN a.slots (a.heap[i]!).2.2.2).free) (ok.ev (a.heap.length-1) (by omega)) (show 0<=Ev.ix a.heap[a.heap.length-1]! from c1) (NQ ok hi) hlt (show Ev.ix a.heap[a.heap.length-1]!<_ by rw [List.length_set,ok.wl];exact c2)
   rw [se];rfl
 · rw [aL (by omega),if_neg hlt]
   rfl
theorem zC (fit:CH a) {h:Int×Int} (hh:(a.heap[i]!).2.2.2=h):mC a h=some (eC a i,a.heap[i]!,0):=by
 unfold mC;rw [SG ok fit hi hh];simp only [aC,show ((0:Int) !=0)=false from rfl,cond_false,HP ok hi]
theorem zD {h:Int×Int} (hh:(a.heap[i]!).2.2.2=h):jR a h=some (eC a i):=by
 have bd:=ok.bd;subst hh;obtain ⟨b1,b2,b3,b4,b5⟩:=ok.back hi;obtain ⟨c1,c2,c3,c4,c5⟩:=ok.back (show a.heap.length-1<a.heap.length by omega)
 unfold jR;rw [sP ok];have e1:aA .i64 ((a.heap.length:Int) -1)=((a.heap.length-1:Nat):Int):=uU (by omega) (by omega)
 have g1:aJ a.where_ (a.heap[i]!).2.2.2.1=some (i:Int):=by
  rw [dK (l:=a.where_) b1 (by rw [ok.wl];exact b2)]
  exact congrArg some b5
 have gv:=LH ok.so (ok.handle hi).1;simp only [aC,g1,aE,e1,Int.toNat_natCast];unfold eC
 by_cases hlt:i<a.heap.length-1
 · rw [eJ (show (i:Int)≠((a.heap.length-1:Nat):Int) by omega),if_pos hlt]
   have hne:a.heap.length-1≠i:=by omega
   have nn:Ev.n a.heap[a.heap.length-1]!≠Ev.n a.heap[i]!:=zB ok hi (by omega) hne
   have sw:=GC (n:=a.heap.length) (x:=a.heap[i]!) (u:=a.slots.uses) (us:=a.slots.used) (fr:=a.slots.free) (H:=a.heap) (W:=a.where_) hi (show a.heap.length-1<a.heap.length by omega) hne rfl b1 (by rw [ok.wl];exact b2) c1 (by rw [ok.wl];exact c2)
   rw [set_same (l:=a.heap) rfl,set_same (l:=a.where_) b5] at sw;have hs:(a.heap.set i a.heap[a.heap.length-1]!).set (a.heap.length-1) a.heap[i]! =(a.heap.set (a.heap.length-1) a.heap[i]!).set i a.heap[a.heap.length-1]!:=List.set_comm _ _ (by omega)
   have ws:bJ ((a.where_.set (Ev.n a.heap[a.heap.length-1]!) (i:Int)).set (Ev.n a.heap[i]!) ((a.heap.length-1:Nat):Int)) (a.heap[i]!).2.2.2.1 (-1)=(a.where_.set (Ev.n a.heap[i]!) (-1)).set (Ev.n a.heap[a.heap.length-1]!) (i:Int):=by
    show ((a.where_.set (Ev.n a.heap[a.heap.length-1]!) (i:Int)).set (Ev.n a.heap[i]!) ((a.heap.length-1:Nat):Int)).set (Ev.n a.heap[i]!) (-1)=_;rw [List.set_set,List.set_comm _ _ nn]
   have g2:aJ ((a.where_.set (Ev.n a.heap[a.heap.length-1]!) (i:Int)).set (Ev.n a.heap[i]!) ((a.heap.length-1:Nat):Int)) (a.heap[i]!).2.2.2.1=some _:=dK b1 (by rw [List.length_set,List.length_set,ok.wl];exact b2)
   have cells:nD (a.heap.length-1) (a.heap.set (a.heap.length-1) a.heap[i]!) (a.where_.set (Ev.n a.heap[i]!) (-1)):=by
    refine ⟨by rw [List.length_set];omega,by rw [List.length_set];omega,fun w hw=>?_⟩
    rw [bD,if_neg (by omega)]
    exact (NQ ok hi).ev w hw
   have x1:Ev.ix a.heap[a.heap.length-1]!<(a.where_.set (Ev.n a.heap[i]!) (-1)).length:=by rw [List.length_set,ok.wl];exact c2
   have hx:=ok.ev (a.heap.length-1) (by omega)
   have gv':pF (aQ.mk a.slots.uses a.slots.used a.slots.free) (a.heap[i]!).2.2.2=some (fN a.slots (a.heap[i]!).2.2.2):=gv;have tk:(a.heap.set (a.heap.length-1) a.heap[i]!).take (a.heap.length-1)=a.heap.take (a.heap.length-1):=by rw [xL];exact List.set_eq_of_length_le (by rw [List.length_take];omega)
   have U:nB ((fN a.slots (a.heap[i]!).2.2.2).uses,(fN a.slots (a.heap[i]!).2.2.2).used,(fN a.slots (a.heap[i]!).2.2.2).free,a.heap.length-1,((a.heap.set (a.heap.length-1) a.heap[i]!).set i a.heap[a.heap.length-1]!).length,(i:Int),(a.heap.set (a.heap.length-1) a.heap[i]!).set i a.heap[a.heap.length-1]!,(a.where_.set (Ev.n a.heap[i]!) (-1)).set (Ev.n a.heap[a.heap.length-1]!) (i:Int))=
    some (((iW a.heap[a.heap.length-1]! i (a.heap.set (a.heap.length-1) a.heap[i]!) (a.where_.set (Ev.n a.heap[i]!) (-1))).1:Int),(iW a.heap[a.heap.length-1]! i (a.heap.set (a.heap.length-1) a.heap[i]!) (a.where_.set (Ev.n a.heap[i]!) (-1))).2.1.set (iW a.heap[a.heap.length-1]! i (a.heap.set (a.heap.length-1) a.heap[i]!) (a.where_.set (Ev.n a.heap[i]!) (-1))).1 a.heap[a.heap.length-1]!,(iW a.heap[a.heap.length-1]! i (a.heap.set (a.heap.length-1) a.heap[i]!) (a.where_.set (Ev.n a.heap[i]!) (-1))).2.2.set (Ev.n a.heap[a.heap.length-1]!) ((iW a.heap[a.heap.length-1]! i (a.heap.set (a.heap.length-1) a.heap[i]!) (a.where_.set (Ev.n a.heap[i]!) (-1))).1:Int)):=by
    unfold nB
    exact aA4 (n:=a.heap.length-1) (c0:=((fN a.slots (a.heap[i]!).2.2.2).uses,(fN a.slots (a.heap[i]!).2.2.2).used,(fN a.slots (a.heap[i]!).2.2.2).free,a.heap.length-1,((a.heap.set (a.heap.length-1) a.heap[i]!).set i a.heap[a.heap.length-1]!).length,(i:Int),(a.heap.set (a.heap.length-1) a.heap[i]!).set i a.heap[a.heap.length-1]!,(a.where_.set (Ev.n a.heap[i]!) (-1)).set (Ev.n a.heap[a.heap.length-1]!) (i:Int))) hx c1 i _ _ cells hlt x1 List.length_set List.length_set
   have ul:=aBb (x:=a.heap[a.heap.length-1]!) i (a.heap.set (a.heap.length-1) a.heap[i]!) (a.where_.set (Ev.n a.heap[i]!) (-1));have un:=XC (x:=a.heap[a.heap.length-1]!) i (a.heap.set (a.heap.length-1) a.heap[i]!) (a.where_.set (Ev.n a.heap[i]!) (-1));have uc:=fun w hw=>CG (x:=a.heap[a.heap.length-1]!) cells hlt (i:=i) rfl w hw
   have cells1:nD (a.heap.length-1) (iW a.heap[a.heap.length-1]! i (a.heap.set (a.heap.length-1) a.heap[i]!) (a.where_.set (Ev.n a.heap[i]!) (-1))).2.1 (iW a.heap[a.heap.length-1]! i (a.heap.set (a.heap.length-1) a.heap[i]!) (a.where_.set (Ev.n a.heap[i]!) (-1))).2.2:=by
    refine ⟨by rw [un.1,List.length_set];omega,by rw [un.1,List.length_set];omega,fun w hw=>?_⟩
    rw [un.2];exact uc w hw
   have D:kS ((fN a.slots (a.heap[i]!).2.2.2).uses,(fN a.slots (a.heap[i]!).2.2.2).used,(fN a.slots (a.heap[i]!).2.2.2).free,a.heap.length-1,((a.heap.set (a.heap.length-1) a.heap[i]!).set i a.heap[a.heap.length-1]!).length,((iW a.heap[a.heap.length-1]! i (a.heap.set (a.heap.length-1) a.heap[i]!) (a.where_.set (Ev.n a.heap[i]!) (-1))).1:Int),(iW a.heap[a.heap.length-1]! i (a.heap.set (a.heap.length-1) a.heap[i]!) (a.where_.set (Ev.n a.heap[i]!) (-1))).2.1.set (iW a.heap[a.heap.length-1]! i (a.heap.set (a.heap.length-1) a.heap[i]!) (a.where_.set (Ev.n a.heap[i]!) (-1))).1 a.heap[a.heap.length-1]!,(iW a.heap[a.heap.length-1]! i (a.heap.set (a.heap.length-1) a.heap[i]!) (a.where_.set (Ev.n a.heap[i]!) (-1))).2.2.set (Ev.n a.heap[a.heap.length-1]!) ((iW a.heap[a.heap.length-1]! i (a.heap.set (a.heap.length-1) a.heap[i]!) (a.where_.set (Ev.n a.heap[i]!) (-1))).1:Int))=
    some (cC (a.heap.length-1) a.heap[a.heap.length-1]! i (a.heap.set (a.heap.length-1) a.heap[i]!) (a.where_.set (Ev.n a.heap[i]!) (-1))):=by
    unfold kS
    exact R9 (n:=a.heap.length-1) (c0:=((fN a.slots (a.heap[i]!).2.2.2).uses,(fN a.slots (a.heap[i]!).2.2.2).used,(fN a.slots (a.heap[i]!).2.2.2).free,a.heap.length-1,((a.heap.set (a.heap.length-1) a.heap[i]!).set i a.heap[a.heap.length-1]!).length,((iW a.heap[a.heap.length-1]! i (a.heap.set (a.heap.length-1) a.heap[i]!) (a.where_.set (Ev.n a.heap[i]!) (-1))).1:Int),(iW a.heap[a.heap.length-1]! i (a.heap.set (a.heap.length-1) a.heap[i]!) (a.where_.set (Ev.n a.heap[i]!) (-1))).2.1.set (iW a.heap[a.heap.length-1]! i (a.heap.set (a.heap.length-1) a.heap[i]!) (a.where_.set (Ev.n a.heap[i]!) (-1))).1 a.heap[a.heap.length-1]!,(iW a.heap[a.heap.length-1]! i (a.heap.set (a.heap.length-1) a.heap[i]!) (a.where_.set (Ev.n a.heap[i]!) (-1))).2.2.set (Ev.n a.heap[a.heap.length-1]!) ((iW a.heap[a.heap.length-1]! i (a.heap.set (a.heap.length-1) a.heap[i]!) (a.where_.set (Ev.n a.heap[i]!) (-1))).1:Int))) hx c1 a.heap.length (iW a.heap[a.heap.length-1]! i (a.heap.set (a.heap.length-1) a.heap[i]!) (a.where_.set (Ev.n a.heap[i]!) (-1))).1 (iW a.heap[a.heap.length-1]! i (a.heap.set (a.heap.length-1) a.heap[i]!) (a.where_.set (Ev.n a.heap[i]!) (-1))).2.1 (iW a.heap[a.heap.length-1]! i (a.heap.set (a.heap.length-1) a.heap[i]!) (a.where_.set (Ev.n a.heap[i]!) (-1))).2.2 (by omega) cells1 (by omega) (by rw [un.2];exact x1) List.length_set List.length_set
   have st:=GF (n:=(a.heap.length-1)) (x:=a.heap[a.heap.length-1]!) (i:=i) (H:=(a.heap.set (a.heap.length-1) a.heap[i]!)) (W:=(a.where_.set (Ev.n a.heap[i]!) (-1))) hlt;have st2:=GF (n:=(a.heap.length-1)) (x:=a.heap[a.heap.length-1]!) (i:=i) (H:=a.heap) (W:=(a.where_.set (Ev.n a.heap[i]!) (-1))) hlt;rw [tk,st2] at st;injection st with st1 st3
   simp only [cond_true,sw,aC,kW _ (a.heap.length-1) (show a.heap.length-1<=((a.heap.set (a.heap.length-1) a.heap[i]!).set i a.heap[a.heap.length-1]!).length by rw [List.length_set,List.length_set];omega),g2,gv',ws,hs,U,D,<- st1,<- st3]
 · rw [cI (show (i:Int)=((a.heap.length-1:Nat):Int) by omega),if_neg hlt]
   have ws:bJ a.where_ (a.heap[i]!).2.2.2.1 (-1)=a.where_.set (Ev.n a.heap[i]!) (-1):=rfl;simp only [cond_false,kW a.heap (a.heap.length-1) (by omega),aC,gv,ws]
end
end Go.Proofs.YtmlghnibpjlchaaGreat
namespace Go.Proofs.YtmlghnibpjlchaaGreat
open Go.Vm Classical
abbrev uB:=Int×Int×Int
theorem eM.fit {a:aG} (ok:eM a):CH a:=by
 have bd:=ok.bd
 have:=ok.so.fl
 have:=ok.so.n2
 exact ⟨by omega,by omega,by omega,fun w hw=>(ok.ev w hw).2.1⟩
theorem AV (l:List uB) (id:Int) (hl:l.length<=1000000) (hs: ∀i j,i<j->j<l.length->(l[i]!).1<(l[j]!).1):
 (∀k,k<l.length->(l[k]!).1=id->aT l id ()=some ((k:Int),true))/\
 ((∀k,k<l.length->(l[k]!).1≠id)-> ∃m,m<=l.length/\(∀i,i<m->(l[i]!).1<id)/\(∀i,m<=i->i<l.length->id<(l[i]!).1)/\aT l id ()=some ((m:Int),false)):=by
 obtain ⟨m,m1,m2,m3⟩:=R7 (fun i=>(l[i]!).1) id l.length hs
 have run:aT l id ()=aH aS (l,id,(l.length:Int),(m:Int),(m:Int)):=by
  unfold aT;refine HK (body:=aS) (fun lo hi=>(l,id,(l.length:Int),(lo:Int),(hi:Int))) l.length m (fun i=>(l[i]!).1<id) (fun lo hi h1 h2=>?_) m2 (fun i h1 h2 h3=>by have:=m3 i h1 h2;omega) l.length 0 l.length (by omega) (by omega) m1 (Nat.le_refl _)
  have e1:decide ((lo:Int)<(hi:Int))=true:=aN (by omega)
  have hh:=aHA (a:=lo) (b:=hi) (by omega) (by omega)
  unfold aS tH;simp only [e1,cond_true,hh,aB l ((lo+hi) / 2) (by omega),kU,aC,bA (show (lo+hi) / 2<1000000000 by omega)]
  constructor
  · intro h
    have:decide (jZ (l[(lo+hi) / 2]!).1 id<0)=true:=by
     rcases fY (l[(lo+hi) / 2]!).1 id with ⟨a,e⟩|⟨a,e⟩|⟨a,e⟩<;>rw [e]<;>first|rfl|omega
    rw [this];rfl
  · intro h
    have:decide (jZ (l[(lo+hi) / 2]!).1 id<0)=false:=by
     rcases fY (l[(lo+hi) / 2]!).1 id with ⟨a,e⟩|⟨a,e⟩|⟨a,e⟩<;>rw [e]<;>first|rfl|omega
    rw [this];rfl
 have fin:aH aS (l,id,(l.length:Int),(m:Int),(m:Int))=if m<l.length/\(l[m]!).1=id then some ((m:Int),true) else some ((m:Int),false):=by
  have e1:decide ((m:Int)<(m:Int))=false:=aL (by omega)
  by_cases hm:m<l.length
  · have e2:decide ((m:Int)<(l.length:Int))=true:=aN (by omega)
    have body:aS (l,id,(l.length:Int),(m:Int),(m:Int))=some (.done ((m:Int),jZ (l[m]!).1 id==0)):=by
     unfold aS tH;simp only [e1,e2,cond_true,cond_false,aB l m hm,kU,aC]
    rw [aI body];rcases fY (l[m]!).1 id with ⟨a,e⟩|⟨a,e⟩|⟨a,e⟩
    · rw [e,if_neg (fun h=>by omega)];rfl
    · rw [e,if_pos ⟨hm,a⟩];rfl
    · rw [e,if_neg (fun h=>by omega)];rfl
  · have e2:decide ((m:Int)<(l.length:Int))=false:=aL (by omega)
    have body:aS (l,id,(l.length:Int),(m:Int),(m:Int))=some (.done ((m:Int),false)):=by
     unfold aS;simp only [e1,e2,cond_false]
    rw [aI body,if_neg (fun h=>hm h.1)]
 rw [run,fin];constructor
 · intro k hk he
   have hkm:k=m:=by
    rcases Nat.lt_trichotomy k m with h|h|h
    · have:=m2 k h;omega
    · exact h
    · have h1:=m3 m (Nat.le_refl _) (by omega)
      have h2:=hs m k h hk;omega
   subst hkm;rw [if_pos ⟨hk,he⟩]
 · intro h
   refine ⟨m,m1,m2,fun i h1 h2=>?_,?_⟩
   · have:=m3 i h1 h2
     have:=h i h2
     omega
   · rw [if_neg (fun k=>h m k.1 k.2)]
theorem aNn:cX=aT:=rfl
theorem aBd:cO=aT:=rfl
theorem JD:cT=aT:=rfl
theorem wB {α:Type} (l:List α) (k:Nat):l.eraseIdx k=l.take k++l.drop (k+1):=List.eraseIdx_eq_take_drop_succ l k
theorem CK (l:List uB) (k:Nat) (hk:k<l.length): ∃L:List uB,dU ((k:Int),((k+1:Nat):Int),l)=some (l.length-1,l.length,L)/\L.take (l.length-1)=l.eraseIdx k:=by
 unfold dU;have e1:decide ((0:Int)<=(k:Int))=true:=aN (by omega)
 have e2:decide ((k:Int)<=((k+1:Nat):Int))=true:=aN (by omega)
 have e3:decide (((k+1:Nat):Int)<=(l.length:Int))=true:=aN (by omega)
 have e4:decide ((l.length:Int)<=(l.length:Int))=true:=aN (by omega)
 have e5:((k:Int)==((k+1:Nat):Int))=false:=fI (by omega)
 have e6:decide ((0:Int)<=((k+1:Nat):Int))=true:=aN (by omega)
 have e7:decide ((k:Int)<=(l.length:Int))=true:=aN (by omega)
 have dr:(l.drop (k+1)).take (l.length- (k+1))=l.drop (k+1):=List.take_of_length_le (by rw [List.length_drop];exact Nat.le_refl _)
 have dl:(l.drop (k+1)).length=l.length- (k+1):=List.length_drop;simp only [aE,e1,e2,e3,e4,e5,e6,e7,Bool.and_self,cond_true,cond_false,kW l k (by omega),aC,Int.toNat_natCast,Nat.zero_add,dr,dl,Bool.not_false,Bool.and_true]
 by_cases h:k+1=l.length
 · have em:(l.drop (k+1)).isEmpty=true:=by rw [List.isEmpty_iff,List.drop_eq_nil_iff];omega
   have n1:Nat.beq (l.length-k) 0=false:=by
    cases hb:Nat.beq (l.length-k) 0 with
    |false=>rfl
    |true=>have:=Nat.eq_of_beq_eq_true hb;omega
   have n2:Nat.ble (k+(l.length-k)) l.length=true:=Nat.ble_eq_true_of_le (by omega)
   have ll:(gB l k (List.replicate (l.length-k) ((0:Int),(0:Int),(0:Int)))).length=l.length:=by
    unfold gB;simp;omega
   simp only [em,cond_true,n1,cond_false,n2,ll,beq_self_eq_true];refine ⟨_,by rw [show k=l.length-1 by omega],?_⟩
   rw [wB,show l.length-1=k by omega]
   unfold gB;rw [List.append_assoc,List.take_append_of_le_length (by rw [List.length_take];omega),List.take_take,Nat.min_self]
   rw [List.drop_eq_nil_of_le (by omega),List.append_nil]
 · have em:(l.drop (k+1)).isEmpty=false:=by
    cases hb:(l.drop (k+1)).isEmpty with
    |false=>rfl
    |true=>rw [List.isEmpty_iff,List.drop_eq_nil_iff] at hb;omega
   have n1:Nat.ble (k+(l.length- (k+1))) l.length=true:=Nat.ble_eq_true_of_le (by omega)
   have n2:decide ((0:Int)<=((k+(l.length- (k+1)):Nat):Int))=true:=aN (by omega)
   have n3:decide (((k+(l.length- (k+1)):Nat):Int)<=(l.length:Int))=true:=aN (by omega)
   have n4:Nat.beq (l.length- (k+(l.length- (k+1)))) 0=false:=by
    cases hb:Nat.beq (l.length- (k+(l.length- (k+1)))) 0 with
    |false=>rfl
    |true=>have:=Nat.eq_of_beq_eq_true hb;omega
   have l1:(gB l k (l.drop (k+1))).length=l.length:=by
    unfold gB;simp;omega
   have n5:Nat.ble (k+(l.length- (k+1))+(l.length- (k+(l.length- (k+1))))) l.length=true:=Nat.ble_eq_true_of_le (by omega)
   have l2:(gB (gB l k (l.drop (k+1))) (k+(l.length- (k+1))) (List.replicate (l.length- (k+(l.length- (k+1)))) ((0:Int),(0:Int),(0:Int)))).length=l.length:=by
    unfold gB;simp;omega
   simp only [em,cond_false,n1,cond_true,n2,n3,Bool.and_self,n4,l1,n5,l2,beq_self_eq_true];refine ⟨_,by rw [show k+(l.length- (k+1))=l.length-1 by omega],?_⟩
   rw [wB]
   have:k+(l.length- (k+1))=l.length-1:=by omega
   unfold gB;rw [List.append_assoc,List.take_append_of_le_length (by simp;omega),List.take_take,Nat.min_self,List.append_assoc]
   rw [show (l.take k++(l.drop (k+1)++l.drop (k+(l.drop (k+1)).length)))=(l.take k++l.drop (k+1))++l.drop (k+(l.drop (k+1)).length) by rw [List.append_assoc]]
   rw [List.take_append_of_le_length (by simp;omega),List.take_of_length_le (by simp;omega)]
theorem UX:lN=dU:=rfl
theorem AW {α:Type} [Inhabited α] {l:List α} {k i:Nat}:(l.eraseIdx k)[i]! =if i<k then l[i]! else l[i+1]!:=by
 rw [wB]
 by_cases hk:k<l.length
 · by_cases h:i<k
   · rw [if_pos h,mE (by rw [List.length_take];omega),mF h]
   · rw [if_neg h,nC (by rw [List.length_take];omega),uZ,List.length_take]
     congr 1;omega
 · have e1:l.take k=l:=List.take_of_length_le (by omega)
   have e2:l.drop (k+1)=[]:=List.drop_eq_nil_of_le (by omega)
   rw [e1,e2,List.append_nil];split
   · rfl
   · rw [getElem!_neg l i (by omega),getElem!_neg l (i+1) (by omega)]
end Go.Proofs.YtmlghnibpjlchaaGreat
namespace Go.Proofs.YtmlghnibpjlchaaGreat
open Go.Vm Classical
def fK (x:Int×Int):Prop:=0<=x.1/\x.1<=65535/\0<=x.2/\x.2<=65535/\x.1≠x.2
theorem D4 (x:Int×Int):vL x=some (decide (fK x)):=by
 obtain ⟨a,b⟩:=x;unfold vL;dsimp only
 by_cases h1:0<=a
 · by_cases h3:0<=b
   · have e1:decide (0<=if b<a then b else a)=true:=aN (by split<;>omega)
     rw [e1]
     by_cases h2:a<=65535
     · by_cases h4:b<=65535
       · have e2:decide ((if b>a then b else a)<=65535)=true:=aN (by split<;>omega)
         rw [e2]
         by_cases h5:a=b
         · rw [cI h5,aL (p:=fK (a,b)) (fun h=>h.2.2.2.2 h5)];rfl
         · rw [eJ h5,aN (p:=fK (a,b)) ⟨h1,h2,h3,h4,h5⟩];rfl
       · have e2:decide ((if b>a then b else a)<=65535)=false:=aL (by split<;>omega)
         rw [e2,aL (p:=fK (a,b)) (fun h=>h4 h.2.2.2.1)];rfl
     · have e2:decide ((if b>a then b else a)<=65535)=false:=aL (by split<;>omega)
       rw [e2,aL (p:=fK (a,b)) (fun h=>h2 h.2.1)];rfl
   · have e1:decide (0<=if b<a then b else a)=false:=aL (by split<;>omega)
     rw [e1,aL (p:=fK (a,b)) (fun h=>h3 h.2.2.1)];rfl
 · have e1:decide (0<=if b<a then b else a)=false:=aL (by split<;>omega)
   rw [e1,aL (p:=fK (a,b)) (fun h=>h1 h.1)];rfl
theorem D5 (x:Int×Int):vR x=some (decide (fK x)):=by
 obtain ⟨a,b⟩:=x;unfold vR;dsimp only
 by_cases h1:0<=a
 · by_cases h2:a<=65535
   · by_cases h3:0<=b
     · by_cases h4:b<=65535
       · by_cases h5:a=b
         · rw [cI h5,aN h1,aN h2,aN h3,aN h4,aL (p:=fK (a,b)) (fun h=>h.2.2.2.2 h5)];rfl
         · rw [eJ h5,aN h1,aN h2,aN h3,aN h4,aN (p:=fK (a,b)) ⟨h1,h2,h3,h4,h5⟩];rfl
       · rw [aN h1,aN h2,aN h3,aL h4,aL (p:=fK (a,b)) (fun h=>h4 h.2.2.2.1)];rfl
     · rw [aN h1,aN h2,aL h3,aL (p:=fK (a,b)) (fun h=>h3 h.2.2.1)];rfl
   · rw [aN h1,aL h2,aL (p:=fK (a,b)) (fun h=>h2 h.2.1)];rfl
 · rw [aL h1,aL (p:=fK (a,b)) (fun h=>h1 h.1)];rfl
structure eQ (c:aU):Prop where
 len:c.list.length<=200
 n0:0<=c.next_
 n1:c.next_<=1000000
 cv: ∀i,i<c.list.length->fK (c.list[i]!).2
 nr: ∀i,i<c.list.length->0<=(c.list[i]!).1/\(c.list[i]!).1<c.next_
 up: ∀i j,i<j->j<c.list.length->(c.list[i]!).1<(c.list[j]!).1
 nd: ∀i j,i<j->j<c.list.length->(c.list[i]!).2≠(c.list[j]!).2
def CL (l:List uB) (i:Nat):Int:=if i=0 then -1 else (l[i-1]!).1
def UY (c:aU) (i:Nat):Prop:=fK (c.list[i]!).2/\(∀j,j<i->(c.list[j]!).2≠(c.list[i]!).2)/\CL c.list i<(c.list[i]!).1/\(c.list[i]!).1<c.next_
theorem eQ.iff {c:aU} (h1:c.list.length<=200) (h2:0<=c.next_) (h3:c.next_<=1000000):eQ c↔ ∀i,i<c.list.length->UY c i:=by
 constructor
 · intro ok i hi
   refine ⟨ok.cv i hi,fun j hj=>ok.nd j i hj hi,?_,(ok.nr i hi).2⟩
   unfold CL;split
   · have:=(ok.nr i hi).1;omega
   · exact ok.up (i-1) i (by omega) hi
 · intro h
   have low: ∀i,i<c.list.length->0<=(c.list[i]!).1:=by
    intro i
    induction i with
    |zero=>
     intro hi
     have:=(h 0 hi).2.2.1
     unfold CL at this;rw [if_pos rfl] at this;omega
    |succ i ih=>
     intro hi;have h1:=(h (i+1) hi).2.2.1;unfold CL at h1;rw [if_neg (by omega),show i+1-1=i by omega] at h1
     have:=ih (by omega)
     omega
   have up: ∀i j,i<j->j<c.list.length->(c.list[i]!).1<(c.list[j]!).1:=by
    intro i j
    induction j with
    |zero=>intro h;omega
    |succ j ih=>
     intro hij hj;have h1:=(h (j+1) hj).2.2.1;unfold CL at h1;rw [if_neg (by omega),show j+1-1=j by omega] at h1
     by_cases e:i=j
     · subst e;exact h1
     · have:=ih (by omega) (by omega)
       omega
   exact ⟨h1,h2,h3,fun i hi=>(h i hi).1,fun i hi=>⟨low i hi,(h i hi).2.2.2⟩,up,fun i j hij hj=>(h j hj).2.1 i hij⟩
theorem LY (l:List uB) (k:Nat) (a b:Int):pN [a,b] ((l.take k).map fun x=>[x.2.1,x.2.2])=true:=by
 unfold pN;rw [List.all_eq_true];intro x hx;obtain ⟨y,hy,rfl⟩:=List.mem_map.1 hx;rfl
theorem LZ (l:List uB) (k:Nat) (x:Int×Int):IX ((l.take k).map fun y=>[y.2.1,y.2.2]) [x.1,x.2]=decide (∃j,j<k/\j<l.length/\(l[j]!).2=x):=by
 unfold IX;rw [Bool.eq_iff_iff,List.any_eq_true,decide_eq_true_iff];constructor
 · rintro ⟨y,hy,he⟩
   obtain ⟨z,hz,rfl⟩:=List.mem_map.1 hy;obtain ⟨j,h1,h2,rfl⟩:=cF.1 hz
   have:[x.1,x.2]=[(l[j]!).2.1,(l[j]!).2.2]:=by simpa using he
   injection this with e1 e2;injection e2 with e2 _;exact ⟨j,h1,h2,Prod.ext e1.symm e2.symm⟩
 · rintro ⟨j,h1,h2,h3⟩
   refine ⟨[(l[j]!).2.1,(l[j]!).2.2],List.mem_map.2 ⟨l[j]!,cF.2 ⟨j,h1,h2,rfl⟩,rfl⟩,?_⟩;rw [h3];simp
theorem yD (c:aU):qZ c=some (if eQ c then 0 else 8):=by
 unfold qZ;simp only [aE]
 by_cases h1:200<c.list.length
 · rw [aN (show (200:Int)<(c.list.length:Int) by omega),if_neg (fun h=>by have:=h.len;omega)];rfl
 rw [aL (show¬(200:Int)<(c.list.length:Int) by omega)]
 by_cases h2:c.next_<0
 · rw [aN h2,if_neg (fun h=>by have:=h.n0;omega)];rfl
 rw [aL h2]
 by_cases h3:1000000<c.next_
 · rw [aN h3,if_neg (fun h=>by have:=h.n1;omega)];rfl
 rw [aL h3];simp only [cond_false];have key:=cY (body:=rV) (fun i=>(CL c.list i,c.list,(c.list.length:Int),(i:Int),c.next_,c.list,(c.list.take i).map fun x=>[x.2.1,x.2.2])) c.list.length (fun i=> ¬UY c i) (r:=8) (e:=0) (fun i hi=>by
  have e1:decide ((i:Int)<(c.list.length:Int))=true:=aN (by omega)
  have has:QM ((c.list.take i).map fun x=>[x.2.1,x.2.2]) [(c.list[i]!).2.1,(c.list[i]!).2.2]=some (decide (∃j,j<i/\j<c.list.length/\(c.list[j]!).2=(c.list[i]!).2)):=by
   unfold QM;rw [LY,LZ];rfl
  have nx:(c.list.take (i+1)).map (fun x=>[x.2.1,x.2.2])=((c.list.take i).map fun x=>[x.2.1,x.2.2])++[[(c.list[i]!).2.1,(c.list[i]!).2.2]]:=by
   rw [iV hi,List.map_append];rfl
  have ln:CL c.list (i+1)=(c.list[i]!).1:=by unfold CL;rw [if_neg (by omega),show i+1-1=i by omega]
  unfold rV;simp only [e1,cond_true,aB c.list i hi,aC,D4,has,nx,ln,bA (show i<1000000000 by omega)]
  unfold UY
  by_cases b1:fK (c.list[i]!).2
  case neg=>
   rw [aL b1];exact ⟨fun _=>rfl,fun h=>absurd (Classical.not_not.1 h).1 b1⟩
  rw [aN b1]
  by_cases b2: ∃j,j<i/\j<c.list.length/\(c.list[j]!).2=(c.list[i]!).2
  · rw [aN b2]
    refine ⟨fun _=>rfl,fun h=>?_⟩
    obtain ⟨j,j1,j2,j3⟩:=b2;exact absurd j3 ((Classical.not_not.1 h).2.1 j j1)
  rw [aL b2];have b2': ∀j,j<i->(c.list[j]!).2≠(c.list[i]!).2:=fun j hj he=>b2 ⟨j,hj,by omega,he⟩
  by_cases b3:(c.list[i]!).1<=CL c.list i
  · rw [aN b3]
    exact ⟨fun _=>rfl,fun h=>absurd (Classical.not_not.1 h).2.2.1 (by omega)⟩
  rw [aL b3]
  by_cases b4:c.next_<=(c.list[i]!).1
  · rw [aN b4]
    exact ⟨fun _=>rfl,fun h=>absurd (Classical.not_not.1 h).2.2.2 (by omega)⟩
  rw [aL b4];have ins:QN ((c.list.take i).map fun x=>[x.2.1,x.2.2]) [(c.list[i]!).2.1,(c.list[i]!).2.2]=some (((c.list.take i).map fun x=>[x.2.1,x.2.2])++[[(c.list[i]!).2.1,(c.list[i]!).2.2]]):=by
   unfold QN TN;rw [LY,LZ,aL b2];rfl
  rw [ins];exact ⟨fun h=>absurd ⟨b1,b2',by omega,by omega⟩ h,fun _=>rfl⟩) (by
  unfold rV
  have:decide ((c.list.length:Int)<(c.list.length:Int))=false:=aL (by omega)
  simp only [this,cond_false])
 have h0:CL c.list 0= -1:=rfl;rw [h0] at key
 by_cases ok:eQ c
 · rw [if_pos ok]
   exact key.2 fun i hi=>Classical.not_not.2 ((eQ.iff (by omega) (by omega) (by omega)).1 ok i hi)
 · rw [if_neg ok]
   rw [eQ.iff (by omega) (by omega) (by omega)] at ok
   obtain ⟨i,h⟩:=Classical.not_forall.1 ok;obtain ⟨hi,hx⟩:=Classical.not_imp.1 h;exact key.1 ⟨i,hi,hx⟩
theorem SL (c:aU) (i:Nat) (hi:i<c.list.length) (hl:c.list.length<=200):
 ((∃j,j<i/\(c.list[j]!).2=(c.list[i]!).2)->aH fW ((i:Int),0,c.next_,c.list,c.list[i]!)=some (.done 8))/\
 ((∀j,j<i-> ¬(c.list[j]!).2=(c.list[i]!).2)->aH fW ((i:Int),0,c.next_,c.list,c.list[i]!)=some (.next (((i+1:Nat):Int),c.next_,c.list))):=by
 refine cY (body:=fW) (fun j=>((i:Int),(j:Int),c.next_,c.list,c.list[i]!)) i (fun j=>(c.list[j]!).2=(c.list[i]!).2) (r:= .done 8) (e:= .next (((i+1:Nat):Int),c.next_,c.list)) (fun j hj=>?_) ?_
 · have e1:decide ((j:Int)<(i:Int))=true:=aN (by omega)
   unfold fW;simp only [e1,cond_true,aB c.list j (by omega),aC,bA (show j<1000000000 by omega)]
   generalize c.list[j]! =x;generalize c.list[i]! =y;constructor
   · intro h;rw [fZ (congrArg Prod.fst h),fZ (congrArg Prod.snd h)];rfl
   · intro h
     by_cases h1:x.2.1=y.2.1
     · rw [fZ h1,fI (fun h2=>h (Prod.ext h1 h2))];rfl
     · rw [fI h1];rfl
 · unfold fW
   have:decide ((i:Int)<(i:Int))=false:=aL (by omega)
   simp only [this,cond_false,bA (show i<1000000000 by omega)]
theorem CN (c:aU):tM c=some (if eQ c then 0 else 8):=by
 unfold tM;simp only [aE]
 by_cases h1:200<c.list.length
 · rw [aN (show (200:Int)<(c.list.length:Int) by omega),if_neg (fun h=>by have:=h.len;omega)];rfl
 rw [aL (show¬(200:Int)<(c.list.length:Int) by omega)]
 by_cases h2:c.next_<0
 · rw [aN h2,if_neg (fun h=>by have:=h.n0;omega)];rfl
 rw [aL h2]
 by_cases h3:1000000<c.next_
 · rw [aN h3,if_neg (fun h=>by have:=h.n1;omega)];rfl
 rw [aL h3];simp only [cond_false];have key:=cY (body:=pX) (fun i=>((i:Int),c.next_,c.list)) c.list.length (fun i=> ¬(fK (c.list[i]!).2/\0<=(c.list[i]!).1/\(c.list[i]!).1<c.next_/\(0<i->(c.list[i-1]!).1<(c.list[i]!).1)/\ ∀j,j<i-> ¬(c.list[j]!).2=(c.list[i]!).2)) (r:=8) (e:=0) (fun i hi=>by
  have e1:decide ((i:Int)<(c.list.length:Int))=true:=aN (by omega)
  have l1:=SL c i hi (by omega)
  unfold pX;simp only [aE,e1,cond_true,aB c.list i hi,aC,D5]
  by_cases b1:fK (c.list[i]!).2
  case neg=>
   rw [aL b1];exact ⟨fun _=>rfl,fun h=>absurd (Classical.not_not.1 h).1 b1⟩
  rw [aN b1]
  by_cases b2:(c.list[i]!).1<0
  · rw [aN b2]
    exact ⟨fun _=>rfl,fun h=>absurd (Classical.not_not.1 h).2.1 (by omega)⟩
  rw [aL b2]
  by_cases b3:c.next_<=(c.list[i]!).1
  · rw [aN b3]
    exact ⟨fun _=>rfl,fun h=>absurd (Classical.not_not.1 h).2.2.1 (by omega)⟩
  rw [aL b3];simp only [Bool.not_true,cond_false];have go:(0<i->(c.list[i-1]!).1<(c.list[i]!).1)->(¬(fK (c.list[i]!).2/\0<=(c.list[i]!).1/\(c.list[i]!).1<c.next_/\(0<i->(c.list[i-1]!).1<(c.list[i]!).1)/\ ∀j,j<i-> ¬(c.list[j]!).2=(c.list[i]!).2)->aH fW ((i:Int),0,c.next_,c.list,c.list[i]!)=some (.done 8))/\
   (¬¬(fK (c.list[i]!).2/\0<=(c.list[i]!).1/\(c.list[i]!).1<c.next_/\(0<i->(c.list[i-1]!).1<(c.list[i]!).1)/\ ∀j,j<i-> ¬(c.list[j]!).2=(c.list[i]!).2)->aH fW ((i:Int),0,c.next_,c.list,c.list[i]!)=some (.next (((i+1:Nat):Int),c.next_,c.list))):=by
   intro hp;constructor
   · intro h
     refine l1.1 (Classical.byContradiction fun hx=>h ⟨b1,by omega,by omega,hp,fun j hj he=>hx ⟨j,hj,he⟩⟩)
   · intro h
     exact l1.2 (Classical.not_not.1 h).2.2.2.2
  by_cases b4:0<i
  · have f1:decide ((0:Int)<(i:Int))=true:=aN (by omega)
    simp only [f1,cond_true,uU (show i<1000000000 by omega) b4,aB c.list (i-1) (by omega),aC]
    by_cases b5:(c.list[i]!).1<=(c.list[i-1]!).1
    · rw [aN b5]
      exact ⟨fun _=>rfl,fun h=>absurd ((Classical.not_not.1 h).2.2.2.1 b4) (by omega)⟩
    · rw [aL b5]
      exact go fun _=>by omega
  · have f1:decide ((0:Int)<(i:Int))=false:=aL (by omega)
    rw [f1];exact go fun h=>absurd h b4) (by
  unfold pX
  have:decide ((c.list.length:Int)<(c.list.length:Int))=false:=aL (by omega)
  simp only [aE,this,cond_false])
 have same:eQ c↔ ∀i,i<c.list.length->(fK (c.list[i]!).2/\0<=(c.list[i]!).1/\(c.list[i]!).1<c.next_/\(0<i->(c.list[i-1]!).1<(c.list[i]!).1)/\ ∀j,j<i-> ¬(c.list[j]!).2=(c.list[i]!).2):=by
  constructor
  · intro ok i hi
    exact ⟨ok.cv i hi,(ok.nr i hi).1,(ok.nr i hi).2,fun h=>ok.up (i-1) i (by omega) hi,fun j hj=>ok.nd j i hj hi⟩
  · intro h
    rw [eQ.iff (by omega) (by omega) (by omega)]
    intro i hi;obtain ⟨a1,a2,a3,a4,a5⟩:=h i hi;refine ⟨a1,a5,?_,a3⟩;unfold CL;split
    · omega
    · exact a4 (by omega)
 by_cases ok:eQ c
 · rw [if_pos ok]
   exact key.2 fun i hi=>Classical.not_not.2 (same.1 ok i hi)
 · rw [if_neg ok]
   rw [same] at ok;obtain ⟨i,h⟩:=Classical.not_forall.1 ok;obtain ⟨hi,hx⟩:=Classical.not_imp.1 h;exact key.1 ⟨i,hi,hx⟩
end Go.Proofs.YtmlghnibpjlchaaGreat
namespace Go.Proofs.YtmlghnibpjlchaaGreat
open Go.Vm Classical
def AX (l:List uB) (x:Int×Int):Prop:= ∃i,i<l.length/\(l[i]!).2=x
theorem SM (l:List uB) (x:Int×Int) (hl:l.length<=1000000):bZ l x=some (decide (AX l x)):=by
 unfold bZ fM;have key:=lG (body:=dB) (fun i=>(l,x.1,x.2,(l.length:Int),(i:Int))) l.length (fun i=>(l[i]!).2=x) (fun i=>(i:Int)) (e:= -1) (fun i hi=>by
  have e1:decide ((i:Int)<(l.length:Int))=true:=aN (by omega)
  unfold dB EU;simp only [e1,cond_true,aB l i hi,aC,bA (show i<1000000000 by omega)]
  generalize l[i]! =y;constructor
  · intro h;rw [fZ (congrArg Prod.fst h),fZ (congrArg Prod.snd h)];rfl
  · intro h
    by_cases h1:y.2.1=x.1
    · rw [fZ h1,fI (fun h2=>h (Prod.ext h1 h2))];rfl
    · rw [fI h1];rfl) (by
  unfold dB
  have:decide ((l.length:Int)<(l.length:Int))=false:=aL (by omega)
  simp only [this,cond_false])
 rw [aE]
 by_cases hx:AX l x
 · obtain ⟨k,h1,h2,h3⟩:=CD hx
   have:=key.1 k h1 h2 h3
   rw [show ((0:Nat):Int)=0 from rfl] at this;rw [this,aN hx];simp only [aC,aN (show (0:Int)<=(k:Int) by omega)]
 · have:=key.2 fun i hi he=>hx ⟨i,hi,he⟩
   rw [show ((0:Nat):Int)=0 from rfl] at this;rw [this,aL hx];rfl
theorem HQ:dR=bZ:=rfl
theorem AY (c:aU) (x:Int×Int) (hl:c.list.length<=1000000):uW c x=some (decide (AX c.list x)):=by
 unfold uW;have key:=cY (body:=uS) (fun i=>((i:Int),c.next_,c.list,x)) c.list.length (fun i=>(c.list[i]!).2=x) (r:=true) (e:=false) (fun i hi=>by
  have e1:decide ((i:Int)<(c.list.length:Int))=true:=aN (by omega)
  unfold uS;simp only [aE,e1,cond_true,aB c.list i hi,aC,bA (show i<1000000000 by omega)]
  generalize c.list[i]! =y;constructor
  · intro h;rw [fZ (congrArg Prod.fst h),fZ (congrArg Prod.snd h)];rfl
  · intro h
    by_cases h1:y.2.1=x.1
    · rw [fZ h1,fI (fun h2=>h (Prod.ext h1 h2))];rfl
    · rw [fI h1];rfl) (by
  unfold uS
  have:decide ((c.list.length:Int)<(c.list.length:Int))=false:=aL (by omega)
  simp only [aE,this,cond_false])
 by_cases hx:AX c.list x
 · rw [aN hx];exact key.1 hx
 · rw [aL hx];exact key.2 fun i hi he=>hx ⟨i,hi,he⟩
def qH (c:aU) (x:Int×Int):aU:=⟨c.next_+1,c.list++[(c.next_,x)]⟩
def GG (c:aU):Prop:=c.list.length=200\/c.next_=1000000
theorem SN {c:aU} (ok:eQ c) {x:Int×Int} (hx:fK x):F6 c x=some (if AX c.list x then (⟨0,[]⟩,0,14) else if GG c then (⟨0,[]⟩,0,18) else (qH c x,c.next_,0)):=by
 have:=ok.len;have:=ok.n0;have:=ok.n1
 unfold F6;rw [yD,if_pos ok,D4,aN hx,SM _ _ (by omega)]
 simp only [aC,show ((0:Int) !=0)=false from rfl,cond_false,Bool.not_true,aE]
 by_cases h1:AX c.list x
 · rw [aN h1,if_pos h1];rfl
 rw [aL h1,if_neg h1];unfold GG
 by_cases h2:c.list.length=200
 · rw [fZ (show (c.list.length:Int)=200 by omega),if_pos (.inl h2)];rfl
 rw [fI (show¬(c.list.length:Int)=200 by omega)]
 by_cases h3:c.next_=1000000
 · rw [fZ h3,if_pos (.inr h3)];rfl
 rw [fI h3,if_neg (by omega)]
 have e:aA .i64 (c.next_+1)=c.next_+1:=by rw [wi];omega
 simp only [cond_false,aW (show c.list.length<=1048576 by omega),aC,fE (show c.list.length+[(c.next_,x)].length<=1048576 by simp;omega),e]
 rfl
theorem PI {c:aU} (ok:eQ c) {x:Int×Int} (hx:fK x):DB c x=some (if AX c.list x then (⟨0,[]⟩,0,14) else if GG c then (⟨0,[]⟩,0,18) else (qH c x,c.next_,0)):=by
 have:=ok.len;have:=ok.n0;have:=ok.n1
 unfold DB oQ;rw [CN,if_pos ok,D5,aN hx,AY _ _ (by omega)]
 simp only [aC,show ((0:Int) !=0)=false from rfl,cond_false,Bool.not_true,aE]
 by_cases h1:AX c.list x
 · rw [aN h1,if_pos h1];rfl
 rw [aL h1,if_neg h1];unfold GG
 by_cases h2:c.list.length=200
 · rw [fZ (show (c.list.length:Int)=200 by omega),if_pos (.inl h2)];rfl
 rw [fI (show¬(c.list.length:Int)=200 by omega)]
 by_cases h3:c.next_=1000000
 · rw [fZ h3,if_pos (.inr h3)];rfl
 rw [fI h3,if_neg (by omega)]
 have e:aA .i64 (c.next_+1)=c.next_+1:=by rw [wi];omega
 simp only [cond_false,aW (show c.list.length<=1048576 by omega),aC,fE (show c.list.length+[(c.next_,x)].length<=1048576 by simp;omega),e]
 rfl
theorem wC {c:aU} {x:Int×Int} {i:Nat}:(qH c x).list[i]! =if i<c.list.length then c.list[i]! else if i=c.list.length then (c.next_,x) else default:=by
 show (c.list++[(c.next_,x)])[i]! =_
 by_cases h:i<c.list.length
 · rw [if_pos h,mE h]
 · rw [if_neg h,nC (by omega)]
   by_cases e:i=c.list.length
   · rw [if_pos e,e,Nat.sub_self];rfl
   · rw [if_neg e,getElem!_neg _ _ (by simp;omega)]
theorem DK {c:aU} {x:Int×Int}:(qH c x).list.length=c.list.length+1:=by
 show (c.list++[(c.next_,x)]).length=_;simp
theorem UZ {c:aU} (ok:eQ c) {x:Int×Int} (hx:fK x) (hn: ¬AX c.list x) (hf: ¬GG c):eQ (qH c x):=by
 have h1:=ok.len;have h2:=ok.n0;have h3:=ok.n1;unfold GG at hf;refine ⟨by rw [DK];omega,by show 0<=c.next_+1;omega,by show c.next_+1<=1000000;omega,?_,?_,?_,?_⟩
 · intro i hi
   rw [DK] at hi;rw [wC]
   by_cases h:i<c.list.length
   · rw [if_pos h];exact ok.cv i h
   · rw [if_neg h,if_pos (by omega)];exact hx
 · intro i hi
   rw [DK] at hi;rw [wC];show 0<=_/\_<c.next_+1
   by_cases h:i<c.list.length
   · rw [if_pos h];have:=ok.nr i h;omega
   · rw [if_neg h,if_pos (by omega)];dsimp only;omega
 · intro i j hij hj
   rw [DK] at hj;rw [wC,wC,if_pos (by omega)]
   by_cases h:j<c.list.length
   · rw [if_pos h];exact ok.up i j hij h
   · rw [if_neg h,if_pos (by omega)]
     exact (ok.nr i (by omega)).2
 · intro i j hij hj
   rw [DK] at hj;rw [wC,wC,if_pos (by omega)]
   by_cases h:j<c.list.length
   · rw [if_pos h];exact ok.nd i j hij h
   · rw [if_neg h,if_pos (by omega)]
     exact fun he=>hn ⟨i,by omega,he⟩
def oK (c:aU) (k:Nat):aU:=⟨c.next_,c.list.eraseIdx k⟩
theorem JE {α:Type} {l:List α} {k:Nat} (hk:k<l.length):(l.eraseIdx k).length=l.length-1:=by
 rw [List.length_eraseIdx,if_pos hk]
theorem L1 {c:aU} (ok:eQ c) {k:Nat} (hk:k<c.list.length):eQ (oK c k):=by
 have h1:=ok.len;have len:(oK c k).list.length=c.list.length-1:=JE hk;have cell: ∀i,∃j,i<=j/\j<=i+1/\(i<c.list.length-1->j<c.list.length)/\(oK c k).list[i]! =c.list[j]!/\(i<k->j=i)/\(k<=i->j=i+1):=by
  intro i
  by_cases h:i<k
  · exact ⟨i,by omega,by omega,by omega,by show (c.list.eraseIdx k)[i]! =_;rw [AW,if_pos h],fun _=>rfl,by omega⟩
  · exact ⟨i+1,by omega,by omega,by omega,by show (c.list.eraseIdx k)[i]! =_;rw [AW,if_neg h],by omega,fun _=>rfl⟩
 refine ⟨by omega,ok.n0,ok.n1,?_,?_,?_,?_⟩
 · intro i hi
   obtain ⟨j,j1,j2,j3,j4,j5,j6⟩:=cell i;rw [j4];exact ok.cv j (j3 (by omega))
 · intro i hi
   obtain ⟨j,j1,j2,j3,j4,j5,j6⟩:=cell i;rw [j4];exact ok.nr j (j3 (by omega))
 · intro i i' hij hi
   obtain ⟨j,j1,j2,j3,j4,j5,j6⟩:=cell i;obtain ⟨m,m1,m2,m3,m4,m5,m6⟩:=cell i';rw [j4,m4];exact ok.up j m (by omega) (m3 (by omega))
 · intro i i' hij hi
   obtain ⟨j,j1,j2,j3,j4,j5,j6⟩:=cell i;obtain ⟨m,m1,m2,m3,m4,m5,m6⟩:=cell i';rw [j4,m4];exact ok.nd j m (by omega) (m3 (by omega))
theorem L2 {c:aU} (ok:eQ c) {k:Nat} (hk:k<c.list.length) {n:Int} (hn:(c.list[k]!).1=n):xA c n=some (oK c k,(c.list[k]!).2,0):=by
 have h1:=ok.len;unfold xA HG;obtain ⟨L,d1,d2⟩:=CK c.list k hk;rw [yD,if_pos ok,(AV c.list n (by omega) ok.up).1 k hk hn]
 simp only [aC,show ((0:Int) !=0)=false from rfl,cond_false,Bool.not_true,aW (show c.list.length<=1048576 by omega),bA (show k<1000000000 by omega),d1,aB c.list k hk,d2]
 rfl
theorem GH {l:List uB} {k:Nat} (hk:k<l.length) (hs: ∀i j,i<j->j<l.length->(l[i]!).1<(l[j]!).1) {n:Int} (hn:(l[k]!).1=n):l.filter (fun x=>x.1 !=n)=l.eraseIdx k:=by
 rw [wB];have e:l.filter (fun x=>x.1 !=n)=(l.take k++l[k]!::l.drop (k+1)).filter (fun x=>x.1 !=n):=congrArg _ (R2 hk)
 rw [e,List.filter_append,List.filter_cons_of_neg (by rw [hn];simp)]
 congr 1
 · rw [List.filter_eq_self]
   intro x hx;obtain ⟨i,h1,h2,rfl⟩:=cF.1 hx
   have:=hs i k h1 hk
   exact eJ (by omega)
 · rw [List.filter_eq_self]
   intro x hx;obtain ⟨i,h1,rfl⟩:=aZ.1 hx;rw [List.length_drop] at h1;rw [uZ]
   have:=hs k (k+1+i) (by omega) (by omega)
   exact eJ (by omega)
theorem HR {c:aU} (ok:eQ c) {k:Nat} (hk:k<c.list.length) {n:Int} (hn:(c.list[k]!).1=n):sH c n=some (oK c k):=by
 have h1:=ok.len;unfold sH;have key:=cU (body:=kQ) (fun i=>(n,(i:Int),c.next_,c.list,0,c.next_,(c.list.take i).filter (fun x=>x.1 !=n))) c.list.length (fun i hi=>by
  have e1:decide ((i:Int)<(c.list.length:Int))=true:=aN (by omega)
  have nx:(c.list.take (i+1)).filter (fun x=>x.1 !=n)=(c.list.take i).filter (fun x=>x.1 !=n)++(if (c.list[i]!).1 !=n then [c.list[i]!] else []):=by
   rw [iV hi,List.filter_append,List.filter_cons,List.filter_nil]
  have fl:((c.list.take i).filter (fun x=>x.1 !=n)).length<=200:=Nat.le_trans (List.length_filter_le _ _) (by rw [List.length_take];omega)
  unfold kQ;simp only [aE,e1,cond_true,aB c.list i hi,aC,bA (show i<1000000000 by omega),nx]
  by_cases h:(c.list[i]!).1=n
  · rw [cI h];simp
  · rw [eJ h]
    simp only [cond_true,if_true,fE (show ((c.list.take i).filter (fun x=>x.1 !=n)).length+[c.list[i]!].length<=1048576 by simp only [List.length_cons,List.length_nil];omega),aC])
 have fin:kQ (n,(c.list.length:Int),c.next_,c.list,0,c.next_,(c.list.take c.list.length).filter (fun x=>x.1 !=n))=some (.done (oK c k)):=by
  unfold kQ
  have:decide ((c.list.length:Int)<(c.list.length:Int))=false:=aL (by omega)
  simp only [aE,this,cond_false,List.take_length];rw [GH hk ok.up hn];rfl
 refine Eq.trans ?_ (aI fin);exact key
end Go.Proofs.YtmlghnibpjlchaaGreat
namespace Go.Proofs.YtmlghnibpjlchaaGreat
open Go.Vm Classical
def kZ (l:List Pt) (id:Int):Prop:= ∃k,k<l.length/\(l[k]!).1=id
noncomputable def bH (l:List Pt) (id:Int):Pt:=if h:kZ l id then l[h.choose]! else (-1,0,0)
theorem JF {l:List Pt} (hs:kV l) {k:Nat} (hk:k<l.length) {id:Int} (h:(l[k]!).1=id):bH l id=l[k]!:=by
 have hp:kZ l id:=⟨k,hk,h⟩;unfold bH;rw [dif_pos hp]
 have:=hp.choose_spec
 rw [LF hs this.1 hk (by rw [this.2,h])]
theorem eZ {l:List Pt} (ok:cB l) {id:Int} (h:kZ l id):hY (bH l id)/\(bH l id).1=id:=by
 obtain ⟨k,hk,he⟩:=h;rw [JF ok.2.2 hk he];exact ⟨ok.2.1 _ (bE hk),he⟩
theorem HS {l:List Pt} {id:Int} (h: ¬kZ l id):bH l id=(-1,0,0):=by unfold bH;rw [dif_neg h]
theorem nE {l:List Pt} (ok:cB l) (id:Int):jJ ⟨l⟩ id=some (bH l id):=by
 have h1:=ok.1;have bs:=AV l id (by omega) (fun i j=>jE ok.2.2)
 unfold jJ;dsimp only;rw [aBd]
 by_cases h:kZ l id
 · obtain ⟨k,hk,he⟩:=h
   rw [bs.1 k hk he];simp only [aC,Bool.not_true,cond_false,aB l k hk,JF ok.2.2 hk he]
 · obtain ⟨m,m1,m2,m3,e⟩:=bs.2 (fun k hk he=>h ⟨k,hk,he⟩)
   rw [e,HS h];rfl
theorem AZ {l:List Pt} (ok:cB l) {id:Int} (h:kZ l id): ∃k,k<l.length/\gD ⟨l⟩ id=some (k:Int)/\l[k]! =bH l id:=by
 have h1:=ok.1;obtain ⟨k,hk,he⟩:=h;exact ⟨k,hk,NI ok.2.2 (by omega) hk he,(JF ok.2.2 hk he).symm⟩
theorem PJ {l:List Pt} (ok:cB l) {id:Int} (h: ¬kZ l id):gD ⟨l⟩ id=some (-1):=by
 have h1:=ok.1;exact aHF (by omega) fun k hk he=>h ⟨k,hk,he⟩
def jT (l:List Pt) (x:Int×Int):Prop:=kZ l x.1/\kZ l x.2
noncomputable def bI (l:List Pt) (x t:Int×Int):(Int×Int)×Bool:=D2 (bH l x.2) (bH l x.1) t
theorem yE {l:List Pt} (ok:cB l) {x t:Int×Int} (hx:fK x) (ht:cE t) (h64:qK t):
 rC ⟨l⟩ x t=some (if jT l x then ((bI l x t).1,(bI l x t).2,0) else ((0,0),false,8)):=by
 unfold rC;rw [nE ok,nE ok];simp only [aC,IY h64];have bad: ¬hY (-1,0,0):=by unfold hY;dsimp only;omega
 by_cases h1:kZ l x.1
 · by_cases h2:kZ l x.2
   · obtain ⟨p1,p2⟩:=eZ ok h1
     obtain ⟨q1,q2⟩:=eZ ok h2;rw [if_pos ⟨q1,p1,ht,by rw [p2,q2];exact fun h=>hx.2.2.2.2 h.symm⟩,if_pos ⟨h1,h2⟩]
     rfl
   · rw [HS h2,if_neg (fun h=>bad h.1),if_neg (fun h=>bad h.1),if_neg (fun h=>h2 h.2)]
 · rw [HS h1,if_neg (fun h=>bad h.2.1),if_neg (fun h=>bad h.2.1),if_neg (fun h=>h1 h.1)]
theorem yF {l:List Pt} (ok:cB l) {x t:Int×Int} (h64:qK t) (hb:jT l x):rH ⟨l⟩ x t=some (bI l x t):=by
 obtain ⟨h1,h2⟩:=hb;obtain ⟨j,j1,j2,j3⟩:=AZ ok h1;obtain ⟨k,k1,k2,k3⟩:=AZ ok h2;unfold rH;simp only [j2,k2,aC,aB l j j1,aB l k k1,j3,k3,UP (eZ ok h2).1 (eZ ok h1).1 h64];rfl
theorem aBe (c:aU) {l:List Pt} (ok:cB l) (hl:c.list.length<=200):xC c ⟨l⟩=some (decide (∀i,i<c.list.length->jT l (c.list[i]!).2)):=by
 unfold xC;have key:=cY (body:=pY) (fun i=>((i:Int),c.next_,c.list,l)) c.list.length (fun i=> ¬jT l (c.list[i]!).2) (r:=false) (e:=true) (fun i hi=>by
  have e1:decide ((i:Int)<(c.list.length:Int))=true:=aN (by omega)
  unfold pY jT;simp only [aE,e1,cond_true,aB c.list i hi,aC,bA (show i<1000000000 by omega)]
  by_cases h1:kZ l (c.list[i]!).2.1
  · obtain ⟨k,k1,k2,_⟩:=AZ ok h1
    rw [k2];simp only [aC,aL (show¬(k:Int)<0 by omega),cond_false]
    by_cases h2:kZ l (c.list[i]!).2.2
    · obtain ⟨j,j1,j2,_⟩:=AZ ok h2
      rw [j2];simp only [aC,aL (show¬(j:Int)<0 by omega),cond_false]
      exact ⟨fun h=>absurd ⟨h1,h2⟩ h,fun _=>trivial⟩
    · rw [PJ ok h2]
      exact ⟨fun _=>rfl,fun h=>absurd (Classical.not_not.1 h).2 h2⟩
  · rw [PJ ok h1]
    exact ⟨fun _=>rfl,fun h=>absurd (Classical.not_not.1 h).1 h1⟩) (by
  unfold pY
  have:decide ((c.list.length:Int)<(c.list.length:Int))=false:=aL (by omega)
  simp only [aE,this,cond_false])
 by_cases hx: ∀i,i<c.list.length->jT l (c.list[i]!).2
 · rw [aN hx];exact key.2 fun i hi=>Classical.not_not.2 (hx i hi)
 · rw [aL hx]
   obtain ⟨i,h⟩:=Classical.not_forall.1 hx;obtain ⟨hi,hx⟩:=Classical.not_imp.1 h;exact key.1 ⟨i,hi,hx⟩
def aY (l:List Pt) (t:Int×Int) (H:List Ev):List uB->List uB->Prop
 | [],ds=>ds=[]
 |x::cs,ds=>((bI l x.2 t).2=true-> ∃d ds',ds=d::ds'/\d.1=x.1/\((bI l x.2 t).1.1,(bI l x.2 t).1.2,x.1,d.2)∈H/\aY l t H cs ds')/\((bI l x.2 t).2=false->aY l t H cs ds)
structure bF (c:aP):Prop where
 nowv:cE c.now
 now64:qK c.now
 fld:cB c.field.points
 crt:eQ c.certs
 agd:eM c.agenda
 w200:c.agenda.where_.length=200
 hd:c.agenda.heap.length=c.due.length
 known: ∀i,i<c.certs.list.length->jT c.field.points (c.certs.list[i]!).2
 fol:aY c.field.points c.now c.agenda.heap c.certs.list c.due
structure wD (c:aP):Prop where
 now64:qK c.now
 ag:CH c.agenda
 du:c.due.length<=1000000
theorem aIj {a:aG} (ok:eM a) (w2:a.where_.length=200) (t:Int×Int) (n:Int) (h:Int×Int):
 (0<=h.1/\h.1<200/\0<=a.where_[h.1.toNat]!/\a.heap[(a.where_[h.1.toNat]!).toNat]! =(t.1,t.2,n,h))↔((t.1,t.2,n,h):Ev)∈a.heap:=by
 have wl:=ok.wl;have hu:=ok.so.ul;constructor
 · rintro ⟨h1,h2,h3,h4⟩
   cases hb:a.slots.used[h.1.toNat]! with
   |false=>
    have:=ok.un h.1.toNat (by omega) hb
    omega
   |true=>
    have:=ok.fwd h.1.toNat (by omega) hb
    rw [<- h4];exact bE (by omega)
 · intro hm
   obtain ⟨w,hw,he⟩:=aZ.1 hm;obtain ⟨b1,b2,b3,b4,b5⟩:=ok.back hw;have e:Ev.ix a.heap[w]! =h.1:=by rw [he]
   have e2:Ev.n a.heap[w]! =h.1.toNat:=by rw [he]
   rw [e] at b1 b2;rw [e2] at b5;refine ⟨b1,by omega,by omega,?_⟩
   rw [b5,Int.toNat_natCast,he]
theorem aBf {a:aG} (ok:eM a) {i:Nat} (hi:i<a.slots.uses.length) (h:0<=a.where_[i]!):a.where_[i]!<a.heap.length:=by
 cases hb:a.slots.used[i]! with
 |false=>have:=ok.un i hi hb;omega
 |true=>exact (ok.fwd i hi hb).2.1
theorem vA {α:Type} [Inhabited α] {l:List α} {i:Nat} (h:i<l.length):l.drop i=l[i]!::l.drop (i+1):=by
 rw [getElem!_pos l i h];exact List.drop_eq_getElem_cons h
theorem SO {c:aP} (nowv:cE c.now) (now64:qK c.now) (fld:cB c.field.points) (crt:eQ c.certs) (agd:eM c.agenda) (w2:c.agenda.where_.length=200):
 ∀(d i:Nat) (ds:List uB),c.certs.list.length-i<=d->i<=c.certs.list.length->ds.length<=1000000->
  aH cK (ds,c.certs.list,(c.certs.list.length:Int),(i:Int),c.now.1,c.now.2,c.field.points,c.certs.next_,c.certs.list,c.agenda.slots.uses,c.agenda.slots.used,c.agenda.slots.free,c.agenda.heap,c.agenda.where_,c.due)=
   some (.done (if (∀j,i<=j->j<c.certs.list.length->jT c.field.points (c.certs.list[j]!).2)/\aY c.field.points c.now c.agenda.heap (c.certs.list.drop i) ds then 0 else 8)):=by
 have hl:=crt.len;have wl:=agd.wl;have fin: ∀(ds:List uB),aH cK (ds,c.certs.list,(c.certs.list.length:Int),(c.certs.list.length:Int),c.now.1,c.now.2,c.field.points,c.certs.next_,c.certs.list,c.agenda.slots.uses,c.agenda.slots.used,c.agenda.slots.free,c.agenda.heap,c.agenda.where_,c.due)=some (.done (if ds=[] then 0 else 8)):=by
  intro ds;refine aI ?_;unfold cK;have e1:decide ((c.certs.list.length:Int)<(c.certs.list.length:Int))=false:=aL (by omega)
  simp only [aE,e1,cond_false];cases ds with
  |nil=>rw [aL (by simp),if_pos rfl];rfl
  |cons d ds=>rw [aN (by simp),if_neg (by simp)];rfl
 intro d
 induction d with
 |zero=>
  intro i ds hd hi hds
  have:i=c.certs.list.length:=by omega
  subst this;rw [fin ds,List.drop_length]
  have:((∀j,c.certs.list.length<=j->j<c.certs.list.length->jT c.field.points (c.certs.list[j]!).2)/\aY c.field.points c.now c.agenda.heap [] ds)↔ds=[]:=⟨fun h=>h.2,fun h=>⟨fun j h1 h2=>by omega,h⟩⟩
  by_cases h:ds=[]
  · rw [if_pos h,if_pos (this.2 h)]
  · rw [if_neg h,if_neg (fun k=>h (this.1 k))]
 |succ d ih=>
  intro i ds hd hi hds
  by_cases he:i=c.certs.list.length
  · subst he
    rw [fin ds,List.drop_length]
    have:((∀j,c.certs.list.length<=j->j<c.certs.list.length->jT c.field.points (c.certs.list[j]!).2)/\aY c.field.points c.now c.agenda.heap [] ds)↔ds=[]:=⟨fun h=>h.2,fun h=>⟨fun j h1 h2=>by omega,h⟩⟩
    by_cases h:ds=[]
    · rw [if_pos h,if_pos (this.2 h)]
    · rw [if_neg h,if_neg (fun k=>h (this.1 k))]
  have hi':i<c.certs.list.length:=by omega
  have e1:decide ((i:Int)<(c.certs.list.length:Int))=true:=aN (by omega)
  have hw:=yE fld (x:=(c.certs.list[i]!).2) (t:=(c.now.1,c.now.2)) (crt.cv i hi') nowv now64;have dr:=vA hi';have all:(∀j,i<=j->j<c.certs.list.length->jT c.field.points (c.certs.list[j]!).2)↔(jT c.field.points (c.certs.list[i]!).2/\ ∀j,i+1<=j->j<c.certs.list.length->jT c.field.points (c.certs.list[j]!).2):=by
   constructor
   · intro h;exact ⟨h i (Nat.le_refl _) hi',fun j h1 h2=>h j (by omega) h2⟩
   · rintro ⟨h1,h2⟩ j h3 h4
     by_cases e:j=i
     · rw [e];exact h1
     · exact h2 j (by omega) h4
  have sc:=bA (show i<1000000000 by omega)
  by_cases hb:jT c.field.points (c.certs.list[i]!).2
  case neg=>
   rw [if_neg (fun h=>hb (all.1 h.1).1)]
   refine aI ?_;unfold cK;simp only [e1,cond_true,aB c.certs.list i hi',aC,hw,if_neg hb];rfl
  rw [if_pos hb] at hw
  by_cases is:(bI c.field.points (c.certs.list[i]!).2 c.now).2=true
  case neg=>
   have is':(bI c.field.points (c.certs.list[i]!).2 c.now).2=false:=by simpa using is
   rw [aV (y:=(ds,c.certs.list,(c.certs.list.length:Int),((i+1:Nat):Int),c.now.1,c.now.2,c.field.points,c.certs.next_,c.certs.list,c.agenda.slots.uses,c.agenda.slots.used,c.agenda.slots.free,c.agenda.heap,c.agenda.where_,c.due)) (by
    unfold cK;simp only [e1,cond_true,aB c.certs.list i hi',aC,hw,sc,is',show ((0:Int) !=0)=false from rfl,cond_false,Bool.not_false]),ih (i+1) ds (by omega) (by omega) hds]
   have same:((∀j,i<=j->j<c.certs.list.length->jT c.field.points (c.certs.list[j]!).2)/\aY c.field.points c.now c.agenda.heap (c.certs.list.drop i) ds)↔((∀j,i+1<=j->j<c.certs.list.length->jT c.field.points (c.certs.list[j]!).2)/\aY c.field.points c.now c.agenda.heap (c.certs.list.drop (i+1)) ds):=by
    rw [dr,all];constructor
    · rintro ⟨⟨_,h1⟩,h2⟩;exact ⟨h1,h2.2 is'⟩
    · rintro ⟨h1,h2⟩;exact ⟨⟨hb,h1⟩,fun h=>absurd h is,fun _=>h2⟩
   simp only [same]
  have stop:(¬((∀j,i<=j->j<c.certs.list.length->jT c.field.points (c.certs.list[j]!).2)/\aY c.field.points c.now c.agenda.heap (c.certs.list.drop i) ds))->cK (ds,c.certs.list,(c.certs.list.length:Int),(i:Int),c.now.1,c.now.2,c.field.points,c.certs.next_,c.certs.list,c.agenda.slots.uses,c.agenda.slots.used,c.agenda.slots.free,c.agenda.heap,c.agenda.where_,c.due)=some (.done (.done 8))->aH cK (ds,c.certs.list,(c.certs.list.length:Int),(i:Int),c.now.1,c.now.2,c.field.points,c.certs.next_,c.certs.list,c.agenda.slots.uses,c.agenda.slots.used,c.agenda.slots.free,c.agenda.heap,c.agenda.where_,c.due)=
   some (.done (if (∀j,i<=j->j<c.certs.list.length->jT c.field.points (c.certs.list[j]!).2)/\aY c.field.points c.now c.agenda.heap (c.certs.list.drop i) ds then 0 else 8)):=by
   intro h1 h2;rw [if_neg h1];exact aI h2
  cases ds with
  |nil=>
   refine stop (fun h=>?_) ?_
   · rw [dr] at h
     obtain ⟨d,ds',h1,_⟩:=h.2.1 is;cases h1
   · unfold cK
     simp only [e1,cond_true,aB c.certs.list i hi',aC,hw,is,show ((0:Int) !=0)=false from rfl,cond_false,Bool.not_true];rfl
  |cons d0 ds=>
   have l0:((((d0::ds).length:Nat):Int)==0)=false:=fI (by simp;omega)
   have g0:aJ (d0::ds) 0=some d0:=rfl
   have fol: ∀P:Prop,(P↔d0.1=(c.certs.list[i]!).1/\(((bI c.field.points (c.certs.list[i]!).2 c.now).1.1,(bI c.field.points (c.certs.list[i]!).2 c.now).1.2,(c.certs.list[i]!).1,d0.2):Ev)∈c.agenda.heap)-> ¬P-> ¬((∀j,i<=j->j<c.certs.list.length->jT c.field.points (c.certs.list[j]!).2)/\aY c.field.points c.now c.agenda.heap (c.certs.list.drop i) (d0::ds)):=by
    intro P hP hn h;rw [dr] at h;obtain ⟨d,ds',h1,h2,h3,_⟩:=h.2.1 is;injection h1 with h1 _;subst h1;exact hn (hP.2 ⟨h2,h3⟩)
   by_cases b1:d0.1=(c.certs.list[i]!).1
   case neg=>
    refine stop (fol (d0.1=(c.certs.list[i]!).1/\_) Iff.rfl (fun h=>b1 h.1)) ?_
    unfold cK;simp only [aE,e1,cond_true,aB c.certs.list i hi',aC,hw,is,show ((0:Int) !=0)=false from rfl,cond_false,Bool.not_true,l0,g0,eJ b1]
   have ea:=aIj agd w2 (bI c.field.points (c.certs.list[i]!).2 c.now).1 (c.certs.list[i]!).1 d0.2
   by_cases b2:d0.2.1<0
   · refine stop (fol (d0.1=(c.certs.list[i]!).1/\_) Iff.rfl (fun h=>by have:=(ea.2 h.2).1;omega)) ?_
     unfold cK;simp only [aE,e1,cond_true,aB c.certs.list i hi',aC,hw,is,show ((0:Int) !=0)=false from rfl,cond_false,Bool.not_true,l0,g0,cI b1,aN b2]
   by_cases b3:200<=d0.2.1
   · refine stop (fol (d0.1=(c.certs.list[i]!).1/\_) Iff.rfl (fun h=>by have:=(ea.2 h.2).2.1;omega)) ?_
     unfold cK;simp only [aE,e1,cond_true,aB c.certs.list i hi',aC,hw,is,show ((0:Int) !=0)=false from rfl,cond_false,Bool.not_true,l0,g0,cI b1,aL b2,aN b3]
   have gw:=dK (l:=c.agenda.where_) (i:=d0.2.1) (by omega) (by omega)
   by_cases b4:c.agenda.where_[d0.2.1.toNat]!<0
   · refine stop (fol (d0.1=(c.certs.list[i]!).1/\_) Iff.rfl (fun h=>by have:=(ea.2 h.2).2.2.1;omega)) ?_
     unfold cK;simp only [aE,e1,cond_true,aB c.certs.list i hi',aC,hw,is,show ((0:Int) !=0)=false from rfl,cond_false,Bool.not_true,l0,g0,cI b1,aL b2,aL b3,gw,aN b4]
   have gh:=dK (l:=c.agenda.heap) (i:=c.agenda.where_[d0.2.1.toNat]!) (by omega) (aBf agd (by omega) (by omega))
   have sl:gF (d0::ds) 1 ((((d0::ds).length:Nat):Int))=some ds:=by
    unfold gF;rw [if_pos ⟨by omega,by simp;omega,by omega⟩]
    simp
   have evq: ∀(e:Ev) (p:Int×Int) (n:Int) (h:Int×Int),((e.1==p.1)&&((e.2.1==p.2)&&((e.2.2.1==n)&&((e.2.2.2.1==h.1)&&(e.2.2.2.2==h.2)))))=decide (e=(p.1,p.2,n,h)):=by
    intro e p n h;rw [Bool.eq_iff_iff,decide_eq_true_iff];simp only [Bool.and_eq_true,beq_iff_eq];constructor
    · rintro ⟨h1,h2,h3,h4,h5⟩
      exact Prod.ext h1 (Prod.ext h2 (Prod.ext h3 (Prod.ext h4 h5)))
    · intro h;rw [h];exact ⟨rfl,rfl,rfl,rfl,rfl⟩
   have evq':=evq c.agenda.heap[(c.agenda.where_[d0.2.1.toNat]!).toNat]! (bI c.field.points (c.certs.list[i]!).2 c.now).1 (c.certs.list[i]!).1 d0.2
   by_cases b5:c.agenda.heap[(c.agenda.where_[d0.2.1.toNat]!).toNat]! =((bI c.field.points (c.certs.list[i]!).2 c.now).1.1,(bI c.field.points (c.certs.list[i]!).2 c.now).1.2,(c.certs.list[i]!).1,d0.2)
   case neg=>
    refine stop (fol (d0.1=(c.certs.list[i]!).1/\_) Iff.rfl (fun h=>b5 (ea.2 h.2).2.2.2)) ?_
    unfold cK;simp only [aE,e1,cond_true,aB c.certs.list i hi',aC,hw,is,show ((0:Int) !=0)=false from rfl,cond_false,Bool.not_true,l0,g0,cI b1,aL b2,aL b3,gw,aL b4,gh];rw [evq',aL b5];rfl
   have hmem:=ea.1 ⟨by omega,by omega,by omega,b5⟩
   rw [aV (y:=(ds,c.certs.list,(c.certs.list.length:Int),((i+1:Nat):Int),c.now.1,c.now.2,c.field.points,c.certs.next_,c.certs.list,c.agenda.slots.uses,c.agenda.slots.used,c.agenda.slots.free,c.agenda.heap,c.agenda.where_,c.due)) (by
    unfold cK;simp only [aE,e1,cond_true,aB c.certs.list i hi',aC,hw,is,show ((0:Int) !=0)=false from rfl,cond_false,Bool.not_true,l0,g0,cI b1,aL b2,aL b3,gw,aL b4,gh,sl,sc];rw [evq',aN b5]
    rfl),ih (i+1) ds (by omega) (by omega) (by simp at hds;omega)]
   have same:((∀j,i<=j->j<c.certs.list.length->jT c.field.points (c.certs.list[j]!).2)/\aY c.field.points c.now c.agenda.heap (c.certs.list.drop i) (d0::ds))↔((∀j,i+1<=j->j<c.certs.list.length->jT c.field.points (c.certs.list[j]!).2)/\aY c.field.points c.now c.agenda.heap (c.certs.list.drop (i+1)) ds):=by
    rw [dr,all];constructor
    · rintro ⟨⟨_,h1⟩,h2⟩
      obtain ⟨d,ds',k1,k2,k3,k4⟩:=h2.1 is;injection k1 with k1 k5;subst k5;exact ⟨h1,k4⟩
    · rintro ⟨h1,h2⟩
      exact ⟨⟨hb,h1⟩,fun _=>⟨d0,ds,rfl,b1,hmem,h2⟩,fun h=>by rw [is] at h;cases h⟩
   simp only [same]
end Go.Proofs.YtmlghnibpjlchaaGreat
namespace Go.Proofs.YtmlghnibpjlchaaGreat
open Go.Vm Classical
theorem bF.iff {c:aP} (fit:wD c):bF c↔cE c.now/\cB c.field.points/\eQ c.certs/\eM c.agenda/\c.agenda.where_.length=200/\c.agenda.heap.length=c.due.length/\(∀i,i<c.certs.list.length->jT c.field.points (c.certs.list[i]!).2)/\aY c.field.points c.now c.agenda.heap c.certs.list c.due:=
 ⟨fun h=>⟨h.nowv,h.fld,h.crt,h.agd,h.w200,h.hd,h.known,h.fol⟩,fun ⟨h1,h2,h3,h4,h5,h6,h7,h8⟩=>⟨h1,fit.now64,h2,h3,h4,h5,h6,h7,h8⟩⟩
theorem bF.fit {c:aP} (ok:bF c):wD c:=⟨ok.now64,ok.agd.fit,by have:=ok.hd;have:=ok.agd.bd;omega⟩
theorem SP {c:aP} {n0 n1 n2 n3:Int}:
 aH eU (4,0,c.now.1,c.now.2,c.field.points,c.certs.next_,c.certs.list,c.agenda.slots.uses,c.agenda.slots.used,c.agenda.slots.free,c.agenda.heap,c.agenda.where_,c.due,[n0,n1,n2,n3])=
  if n0=0/\n1=0/\n2=0/\n3=0 then aH eU (4,4,c.now.1,c.now.2,c.field.points,c.certs.next_,c.certs.list,c.agenda.slots.uses,c.agenda.slots.used,c.agenda.slots.free,c.agenda.heap,c.agenda.where_,c.due,[n0,n1,n2,n3]) else some 8:=by
 have st: ∀(i:Nat) (n:Int),i<4->aJ [n0,n1,n2,n3] (i:Int)=some n->aH eU (4,(i:Int),c.now.1,c.now.2,c.field.points,c.certs.next_,c.certs.list,c.agenda.slots.uses,c.agenda.slots.used,c.agenda.slots.free,c.agenda.heap,c.agenda.where_,c.due,[n0,n1,n2,n3])=
  if n=0 then aH eU (4,((i+1:Nat):Int),c.now.1,c.now.2,c.field.points,c.certs.next_,c.certs.list,c.agenda.slots.uses,c.agenda.slots.used,c.agenda.slots.free,c.agenda.heap,c.agenda.where_,c.due,[n0,n1,n2,n3]) else some 8:=by
  intro i n hi hg;have e1:decide ((i:Int)<4)=true:=aN (by omega)
  by_cases h:n=0
  · rw [if_pos h]
    refine aV ?_;unfold eU;simp only [e1,cond_true,hg,aC,cI h,cond_false,bA (show i<1000000000 by omega)]
  · rw [if_neg h]
    refine aI ?_;unfold eU;simp only [e1,cond_true,hg,aC,eJ h]
 have s0:=st 0 n0 (by omega) rfl
 have s1:=st 1 n1 (by omega) rfl
 have s2:=st 2 n2 (by omega) rfl
 have s3:=st 3 n3 (by omega) rfl
 have c0:((0:Nat):Int)=0:=rfl;have c4:((3+1:Nat):Int)=4:=rfl;rw [c0] at s0;rw [c4] at s3;rw [s0]
 by_cases h0:n0=0
 · rw [if_pos h0,show ((0+1:Nat):Int)=((1:Nat):Int) from rfl,s1]
   by_cases h1:n1=0
   · rw [if_pos h1,show ((1+1:Nat):Int)=((2:Nat):Int) from rfl,s2]
     by_cases h2:n2=0
     · rw [if_pos h2,show ((2+1:Nat):Int)=((3:Nat):Int) from rfl,s3]
       by_cases h3:n3=0
       · rw [if_pos h3,if_pos ⟨h0,h1,h2,h3⟩]
       · rw [if_neg h3,if_neg (fun h=>h3 h.2.2.2)]
     · rw [if_neg h2,if_neg (fun h=>h2 h.2.2.1)]
   · rw [if_neg h1,if_neg (fun h=>h1 h.2.1)]
 · rw [if_neg h0,if_neg (fun h=>h0 h.1)]
theorem nF {c:aP} (fit:wD c):gO c=some (if bF c then 0 else 8):=by
 unfold gO;rw [gP fit.now64,iU,yD,lZ _ fit.ag];simp only [aC];have h4:Int.ofNat [if cE c.now then (0:Int) else 8,vY c.field.points,if eQ c.certs then (0:Int) else 8,if eM c.agenda then (0:Int) else 8].length=4:=rfl
 rw [h4,SP];have z: ∀(p:Prop) [Decidable p],(if p then (0:Int) else 8)=0↔p:=fun p _=>by by_cases h:p<;>simp [h]
 simp only [z,gQ];have f1:=bF.iff fit
 by_cases ok:cE c.now/\cB c.field.points/\eQ c.certs/\eM c.agenda
 case neg=>rw [if_neg ok,if_neg (c:=bF c) (fun h=>ok ⟨h.nowv,h.fld,h.crt,h.agd⟩)]
 obtain ⟨nowv,fld,crt,agd⟩:=ok;rw [if_pos ⟨nowv,fld,crt,agd⟩]
 by_cases w2:c.agenda.where_.length=200
 case neg=>
  rw [if_neg (c:=bF c) (fun h=>w2 h.w200)]
  refine aI ?_;unfold eU;simp only [aE,aL (show¬(4:Int)<4 by omega),cond_false,eJ (show¬(c.agenda.where_.length:Int)=200 by omega),cond_true]
 by_cases hd:c.agenda.heap.length=c.due.length
 case neg=>
  rw [if_neg (c:=bF c) (fun h=>hd h.hd)]
  refine aI ?_;unfold eU;simp only [aE,aL (show¬(4:Int)<4 by omega),cond_false,cI (show (c.agenda.where_.length:Int)=200 by omega),eJ (show¬(c.agenda.heap.length:Int)=(c.due.length:Int) by omega),cond_true]
 have run:=SO nowv fit.now64 fld crt agd w2 c.certs.list.length 0 c.due (by omega) (by omega) fit.du
 rw [List.drop_zero] at run;have same:((∀j,0<=j->j<c.certs.list.length->jT c.field.points (c.certs.list[j]!).2)/\aY c.field.points c.now c.agenda.heap c.certs.list c.due)↔bF c:=by
  rw [f1];constructor
  · rintro ⟨h1,h2⟩;exact ⟨nowv,fld,crt,agd,w2,hd,fun i hi=>h1 i (by omega) hi,h2⟩
  · rintro ⟨_,_,_,_,_,_,h1,h2⟩;exact ⟨fun j _ hj=>h1 j hj,h2⟩
 simp only [same] at run;refine aI ?_;unfold eU;simp only [aE,aL (show¬(4:Int)<4 by omega),cond_false,cI (show (c.agenda.where_.length:Int)=200 by omega),cI (show (c.agenda.heap.length:Int)=(c.due.length:Int) by omega)]
 exact run
theorem aHH {a:aG} (ok:eM a) (h:Int×Int):vT a h=some (if xK a.slots h then (a.heap[(a.where_[h.1.toNat]!).toNat]!,0) else ((0,0,0,0,0),6)):=by
 unfold vT;rw [CI a ok.fit,if_pos ok,XA ok.so];simp only [aC,show ((0:Int) !=0)=false from rfl,cond_false]
 by_cases lv:xK a.slots h
 · obtain ⟨i,hi,hw,hh⟩:=ok.live lv
   have:=lv.1;have:=lv.2.1;have:=ok.wl
   rw [aN lv,if_pos lv,dK (l:=a.where_) lv.1 (by omega),hw]
   simp only [Bool.not_true,cond_false,aC,aB a.heap i hi,Int.toNat_natCast]
 · rw [aL lv,if_neg lv];rfl
theorem SQ {c:aP} (now64:qK c.now) (fld:cB c.field.points) (crt:eQ c.certs) (agd:eM c.agenda) (w2:c.agenda.where_.length=200) (hdu:c.due.length<=1000000)
 (kn: ∀i,i<c.certs.list.length->jT c.field.points (c.certs.list[i]!).2):
 ∀(d i k:Nat),c.certs.list.length-i<=d->i<=c.certs.list.length->k<=c.due.length->
  aH dF ((k:Int),(i:Int),c.now.1,c.now.2,c.field.points,c.certs.next_,c.certs.list,c.agenda.slots.uses,c.agenda.slots.used,c.agenda.slots.free,c.agenda.heap,c.agenda.where_,c.due)=
   some (if aY c.field.points c.now c.agenda.heap (c.certs.list.drop i) (c.due.drop k) then 0 else 8):=by
 have hl:=crt.len;have wl:=agd.wl
 have fin: ∀k:Nat,k<=c.due.length->aH dF ((k:Int),(c.certs.list.length:Int),c.now.1,c.now.2,c.field.points,c.certs.next_,c.certs.list,c.agenda.slots.uses,c.agenda.slots.used,c.agenda.slots.free,c.agenda.heap,c.agenda.where_,c.due)=some (if aY c.field.points c.now c.agenda.heap (c.certs.list.drop c.certs.list.length) (c.due.drop k) then 0 else 8):=by
  intro k hk;rw [List.drop_length];refine aI ?_;unfold dF;have e1:decide ((c.certs.list.length:Int)<(c.certs.list.length:Int))=false:=aL (by omega)
  simp only [aE,e1,cond_false]
  have:aY c.field.points c.now c.agenda.heap [] (c.due.drop k)↔k=c.due.length:=by
   show c.due.drop k=[]↔_;rw [List.drop_eq_nil_iff];omega
  by_cases h:k=c.due.length
  · rw [if_pos (this.2 h),cI (by omega)];rfl
  · rw [if_neg (fun x=>h (this.1 x)),eJ (by omega)];rfl
 intro d
 induction d with
 |zero=>
  intro i k hd hi hk
  have:i=c.certs.list.length:=by omega
  subst this;exact fin k hk
 |succ d ih=>
  intro i k hd hi hk
  by_cases he:i=c.certs.list.length
  · subst he;exact fin k hk
  have hi':i<c.certs.list.length:=by omega
  have e1:decide ((i:Int)<(c.certs.list.length:Int))=true:=aN (by omega)
  have hw:=yF fld (x:=(c.certs.list[i]!).2) (t:=(c.now.1,c.now.2)) now64 (kn i hi');have dr:=vA hi';have sc:=bA (show i<1000000000 by omega)
  have sk:=bA (show k<1000000000 by omega)
  by_cases is:(bI c.field.points (c.certs.list[i]!).2 c.now).2=true
  case neg=>
   have is':(bI c.field.points (c.certs.list[i]!).2 c.now).2=false:=by simpa using is
   rw [aV (y:=((k:Int),((i+1:Nat):Int),c.now.1,c.now.2,c.field.points,c.certs.next_,c.certs.list,c.agenda.slots.uses,c.agenda.slots.used,c.agenda.slots.free,c.agenda.heap,c.agenda.where_,c.due)) (by
    unfold dF;simp only [aE,e1,cond_true,aB c.certs.list i hi',aC,hw,sc,is',Bool.not_false]),ih (i+1) k (by omega) (by omega) hk]
   have same:aY c.field.points c.now c.agenda.heap (c.certs.list.drop i) (c.due.drop k)↔aY c.field.points c.now c.agenda.heap (c.certs.list.drop (i+1)) (c.due.drop k):=by
    rw [dr];exact ⟨fun h=>h.2 is',fun h=>⟨fun h'=>absurd h' is,fun _=>h⟩⟩
   simp only [same]
  have stop:(¬aY c.field.points c.now c.agenda.heap (c.certs.list.drop i) (c.due.drop k))->dF ((k:Int),(i:Int),c.now.1,c.now.2,c.field.points,c.certs.next_,c.certs.list,c.agenda.slots.uses,c.agenda.slots.used,c.agenda.slots.free,c.agenda.heap,c.agenda.where_,c.due)=some (.done 8)->
   aH dF ((k:Int),(i:Int),c.now.1,c.now.2,c.field.points,c.certs.next_,c.certs.list,c.agenda.slots.uses,c.agenda.slots.used,c.agenda.slots.free,c.agenda.heap,c.agenda.where_,c.due)=some (if aY c.field.points c.now c.agenda.heap (c.certs.list.drop i) (c.due.drop k) then 0 else 8):=by
   intro h1 h2;rw [if_neg h1];exact aI h2
  by_cases hkl:k=c.due.length
  · refine stop (fun h=>?_) ?_
    · rw [dr] at h
      obtain ⟨d,ds',h1,_⟩:=h.1 is;rw [hkl,List.drop_length] at h1;cases h1
    · unfold dF
      simp only [aE,e1,cond_true,aB c.certs.list i hi',aC,hw,is,Bool.not_true,cond_false,aN (show (c.due.length:Int)<=(k:Int) by omega)]
  have hk':k<c.due.length:=by omega
  have dk:=vA hk';have e2:decide ((c.due.length:Int)<=(k:Int))=false:=aL (by omega)
  have fol: ¬((c.due[k]!).1=(c.certs.list[i]!).1/\(((bI c.field.points (c.certs.list[i]!).2 c.now).1.1,(bI c.field.points (c.certs.list[i]!).2 c.now).1.2,(c.certs.list[i]!).1,(c.due[k]!).2):Ev)∈c.agenda.heap)-> ¬aY c.field.points c.now c.agenda.heap (c.certs.list.drop i) (c.due.drop k):=by
   intro hn h;rw [dr,dk] at h;obtain ⟨d,ds',h1,h2,h3,_⟩:=h.1 is;injection h1 with h1 _;subst h1;exact hn ⟨h2,h3⟩
  by_cases b1:(c.due[k]!).1=(c.certs.list[i]!).1
  case neg=>
   refine stop (fol (fun h=>b1 h.1)) ?_
   unfold dF;simp only [aE,e1,cond_true,aB c.certs.list i hi',aC,hw,is,Bool.not_true,cond_false,e2,aB c.due k hk',eJ b1]
  have fi:=aHH agd (c.due[k]!).2;have ea:=aIj agd w2 (bI c.field.points (c.certs.list[i]!).2 c.now).1 (c.certs.list[i]!).1 (c.due[k]!).2;have fi':vT (aG.mk (aQ.mk c.agenda.slots.uses c.agenda.slots.used c.agenda.slots.free) c.agenda.heap c.agenda.where_) (c.due[k]!).2=_:=fi
  by_cases lv:xK c.agenda.slots (c.due[k]!).2
  case neg=>
   rw [if_neg lv] at fi';refine stop (fol (fun h=>lv ?_)) ?_
   · obtain ⟨w,hw',hev⟩:=aZ.1 h.2
     have:=(agd.handle hw').1
     rwa [hev] at this
   · unfold dF
     simp only [aE,e1,cond_true,aB c.certs.list i hi',aC,hw,is,Bool.not_true,cond_false,e2,aB c.due k hk',cI b1,fi',show ((6:Int) !=0)=true from rfl]
  rw [if_pos lv] at fi';obtain ⟨w,hw1,hw2,hw3⟩:=agd.live lv;rw [hw2,Int.toNat_natCast] at fi';have q1:(0<=(c.due[k]!).2.1/\(c.due[k]!).2.1<200/\0<=c.agenda.where_[(c.due[k]!).2.1.toNat]!):=⟨lv.1,by have:=lv.2.1;omega,by rw [hw2];omega⟩
  by_cases b2:(c.agenda.heap[w]!).2.2.1=(c.certs.list[i]!).1
  case neg=>
   refine stop (fol (fun h=>b2 ?_)) ?_
   · have:=(ea.2 h.2).2.2.2
     rw [hw2,Int.toNat_natCast] at this;rw [this]
   · unfold dF
     simp only [aE,e1,cond_true,aB c.certs.list i hi',aC,hw,is,Bool.not_true,cond_false,e2,aB c.due k hk',cI b1,fi',show ((0:Int) !=0)=false from rfl,eJ b2]
  have teq:((c.agenda.heap[w]!).1==(bI c.field.points (c.certs.list[i]!).2 c.now).1.1&&(c.agenda.heap[w]!).2.1==(bI c.field.points (c.certs.list[i]!).2 c.now).1.2)=decide (((c.agenda.heap[w]!).1,(c.agenda.heap[w]!).2.1)=(bI c.field.points (c.certs.list[i]!).2 c.now).1):=by
   rw [Bool.eq_iff_iff,decide_eq_true_iff];simp only [Bool.and_eq_true,beq_iff_eq];constructor
   · rintro ⟨h1,h2⟩;exact Prod.ext h1 h2
   · intro h;rw [<- h];exact ⟨rfl,rfl⟩
  by_cases b3:((c.agenda.heap[w]!).1,(c.agenda.heap[w]!).2.1)=(bI c.field.points (c.certs.list[i]!).2 c.now).1
  case neg=>
   refine stop (fol (fun h=>b3 ?_)) ?_
   · have:=(ea.2 h.2).2.2.2
     rw [hw2,Int.toNat_natCast] at this;rw [this]
   · unfold dF
     simp only [aE,e1,cond_true,aB c.certs.list i hi',aC,hw,is,Bool.not_true,cond_false,e2,aB c.due k hk',cI b1,fi',show ((0:Int) !=0)=false from rfl,cI b2];rw [teq,aL b3];rfl
  have hmem:=ea.1 ⟨q1.1,q1.2.1,q1.2.2,by
   rw [hw2,Int.toNat_natCast];have t1:=congrArg Prod.fst b3;have t2:=congrArg Prod.snd b3;exact Prod.ext t1 (Prod.ext t2 (Prod.ext b2 hw3))⟩
  rw [aV (y:=(((k+1:Nat):Int),((i+1:Nat):Int),c.now.1,c.now.2,c.field.points,c.certs.next_,c.certs.list,c.agenda.slots.uses,c.agenda.slots.used,c.agenda.slots.free,c.agenda.heap,c.agenda.where_,c.due)) (by
   unfold dF;simp only [aE,e1,cond_true,aB c.certs.list i hi',aC,hw,is,Bool.not_true,cond_false,e2,aB c.due k hk',cI b1,fi',show ((0:Int) !=0)=false from rfl,cI b2,sc,sk];rw [teq,aN b3]
   rfl),ih (i+1) (k+1) (by omega) (by omega) (by omega)]
  have same:aY c.field.points c.now c.agenda.heap (c.certs.list.drop i) (c.due.drop k)↔aY c.field.points c.now c.agenda.heap (c.certs.list.drop (i+1)) (c.due.drop (k+1)):=by
   rw [dr,dk];constructor
   · intro h2
     obtain ⟨d,ds',k1,k2,k3,k4⟩:=h2.1 is;injection k1 with k1 k5;subst k5;exact k4
   · intro h2
     exact ⟨fun _=>⟨_,_,rfl,b1,hmem,h2⟩,fun h=>by rw [is] at h;cases h⟩
  simp only [same]
theorem L3 {c:aP} (fit:wD c):xE c=some (if bF c then 0 else 8):=by
 unfold xE;rw [CE fit.now64,vZ,CN,CI _ fit.ag];simp only [aC]
 by_cases nowv:cE c.now
 case neg=>rw [if_neg nowv,if_neg (c:=bF c) (fun h=>nowv h.nowv)];rfl
 rw [if_pos nowv]
 by_cases fld:cB c.field.points
 case neg=>rw [eJ (fun h=>fld (gQ.1 h)),if_neg (c:=bF c) (fun h=>fld h.fld)];rfl
 rw [cI (gQ.2 fld)]
 by_cases crt:eQ c.certs
 case neg=>rw [if_neg crt,if_neg (c:=bF c) (fun h=>crt h.crt)];rfl
 rw [if_pos crt];have kn:=aBe c.certs fld crt.len;simp only [show ((0:Int) !=0)=false from rfl,cond_false,kn,aC]
 by_cases known: ∀i,i<c.certs.list.length->jT c.field.points (c.certs.list[i]!).2
 case neg=>rw [aL known,if_neg (c:=bF c) (fun h=>known h.known)];rfl
 rw [aN known]
 by_cases agd:eM c.agenda
 case neg=>rw [if_neg agd,if_neg (c:=bF c) (fun h=>agd h.agd)];rfl
 rw [if_pos agd];simp only [aE,show ((0:Int) !=0)=false from rfl,cond_false,Bool.not_true]
 by_cases w2:c.agenda.where_.length=200
 case neg=>rw [eJ (by omega),if_neg (c:=bF c) (fun h=>w2 h.w200)];rfl
 rw [cI (by omega)]
 by_cases hd:c.agenda.heap.length=c.due.length
 case neg=>rw [eJ (by omega),if_neg (c:=bF c) (fun h=>hd h.hd)];rfl
 rw [cI (by omega)]
 have run:=SQ fit.now64 fld crt agd w2 fit.du known c.certs.list.length 0 0 (by omega) (by omega) (by omega)
 rw [List.drop_zero,List.drop_zero] at run;have same:aY c.field.points c.now c.agenda.heap c.certs.list c.due↔bF c:=by
  rw [bF.iff fit];exact ⟨fun h=>⟨nowv,fld,crt,agd,w2,hd,known,h⟩,fun h=>h.2.2.2.2.2.2.2⟩
 simp only [same] at run;simp only [cond_false];exact run
end Go.Proofs.YtmlghnibpjlchaaGreat
namespace Go.Proofs.YtmlghnibpjlchaaGreat
open Go.Vm Classical
section
variable {l : List Pt} {t : Int × Int}
theorem aY.cons_true {H:List Ev} {x:uB} {cs ds:List uB} (h:(bI l x.2 t).2=true):aY l t H (x::cs) ds↔ ∃d ds',ds=d::ds'/\d.1=x.1/\(((bI l x.2 t).1.1,(bI l x.2 t).1.2,x.1,d.2):Ev)∈H/\aY l t H cs ds':=
 ⟨fun k=>k.1 h,fun k=>⟨fun _=>k,fun k'=>(by rw [h] at k';cases k')⟩⟩
theorem aY.cons_false {H:List Ev} {x:uB} {cs ds:List uB} (h:(bI l x.2 t).2=false):aY l t H (x::cs) ds↔aY l t H cs ds:=
 ⟨fun k=>k.2 h,fun k=>⟨fun k'=>(by rw [h] at k';cases k'),fun _=>k⟩⟩
theorem aY.mono {H H':List Ev}: ∀{cs ds:List uB},(∀x∈cs,∀e:Ev,e.num=x.1->e∈H->e∈H')->aY l t H cs ds->aY l t H' cs ds
 | [],_,_,h=>h
 |x::cs,ds,hm,h=>by
  have hm': ∀y∈cs,∀e:Ev,e.num=y.1->e∈H->e∈H':=fun y hy=>hm y (by simp [hy])
  cases hx:(bI l x.2 t).2 with
  |true=>
   rw [aY.cons_true hx] at h ⊢;obtain ⟨d,ds',h1,h2,h3,h4⟩:=h;exact ⟨d,ds',h1,h2,hm x (by simp) _ rfl h3,aY.mono hm' h4⟩
  |false=>
   rw [aY.cons_false hx] at h ⊢;exact aY.mono hm' h
theorem aY.due {H:List Ev}: ∀{cs ds:List uB},aY l t H cs ds-> ∀d∈ds,∃x∈cs,d.1=x.1/\(bI l x.2 t).2=true/\(((bI l x.2 t).1.1,(bI l x.2 t).1.2,x.1,d.2):Ev)∈H
 | [],ds,h,d,hd=>by
  have:ds=[]:=h
  subst this;cases hd
 |x::cs,ds,h,d,hd=>by
  cases hx:(bI l x.2 t).2 with
  |true=>
   rw [aY.cons_true hx] at h;obtain ⟨e,ds',h1,h2,h3,h4⟩:=h;subst h1;rcases List.mem_cons.1 hd with rfl|hd
   · exact ⟨x,by simp,h2,hx,h3⟩
   · obtain ⟨y,hy,k⟩:=aY.due h4 d hd
     exact ⟨y,by simp [hy],k⟩
  |false=>
   rw [aY.cons_false hx] at h;obtain ⟨y,hy,k⟩:=aY.due h d hd;exact ⟨y,by simp [hy],k⟩
theorem aY.has {H:List Ev}: ∀{cs ds:List uB},aY l t H cs ds-> ∀x∈cs,(bI l x.2 t).2=true-> ∃d∈ds,d.1=x.1/\(((bI l x.2 t).1.1,(bI l x.2 t).1.2,x.1,d.2):Ev)∈H
 | [],_,_,x,hx,_=>by cases hx
 |y::cs,ds,h,x,hx,hf=>by
  cases hy:(bI l y.2 t).2 with
  |true=>
   rw [aY.cons_true hy] at h;obtain ⟨e,ds',h1,h2,h3,h4⟩:=h;subst h1;rcases List.mem_cons.1 hx with rfl|hx
   · exact ⟨e,by simp,h2,h3⟩
   · obtain ⟨d,hd,k⟩:=aY.has h4 x hx hf
     exact ⟨d,by simp [hd],k⟩
  |false=>
   rw [aY.cons_false hy] at h;rcases List.mem_cons.1 hx with rfl|hx
   · rw [hf] at hy;cases hy
   · exact aY.has h x hx hf
def Up (cs:List uB):Prop:=cs.Pairwise fun x y=>x.1<y.1
theorem sQ {cs:List uB}:Up cs↔ ∀i j,i<j->j<cs.length->(cs[i]!).1<(cs[j]!).1:=by
 unfold Up;rw [List.pairwise_iff_getElem];constructor
 · intro h i j hij hj
   rw [getElem!_pos cs i (by omega),getElem!_pos cs j hj]
   exact h i j (by omega) hj hij
 · intro h i j hi hj hij
   have:=h i j hij hj
   rwa [getElem!_pos cs i hi,getElem!_pos cs j hj] at this
theorem aY.up {H:List Ev}: ∀{cs ds:List uB},aY l t H cs ds->Up cs->Up ds
 | [],ds,h,_=>by
  have:ds=[]:=h
  subst this;exact List.Pairwise.nil
 |x::cs,ds,h,hu=>by
  have hu':=List.pairwise_cons.1 hu;cases hx:(bI l x.2 t).2 with
  |true=>
   rw [aY.cons_true hx] at h;obtain ⟨e,ds',h1,h2,h3,h4⟩:=h;subst h1;refine List.pairwise_cons.2 ⟨fun d hd=>?_,aY.up h4 hu'.2⟩
   obtain ⟨y,hy,k,_⟩:=aY.due h4 d hd
   have:=hu'.1 y hy
   omega
  |false=>
   rw [aY.cons_false hx] at h;exact aY.up h hu'.2
theorem aY.snoc {H:List Ev}: ∀{cs ds:List uB} {x:uB},aY l t H cs ds->((bI l x.2 t).2=false->aY l t H (cs++[x]) ds)/\
 (∀d:uB,(bI l x.2 t).2=true->d.1=x.1->(((bI l x.2 t).1.1,(bI l x.2 t).1.2,x.1,d.2):Ev)∈H->aY l t H (cs++[x]) (ds++[d]))
 | [],ds,x,h=>by
  have:ds=[]:=h
  subst this;refine ⟨fun hx=>(aY.cons_false hx).2 rfl,fun d hx h1 h2=>(aY.cons_true hx).2 ⟨d,[],rfl,h1,h2,rfl⟩⟩
 |y::cs,ds,x,h=>by
  cases hy:(bI l y.2 t).2 with
  |true=>
   rw [aY.cons_true hy] at h;obtain ⟨e,ds',h1,h2,h3,h4⟩:=h;subst h1;have ih:=aY.snoc (x:=x) h4;refine ⟨fun hx=>(aY.cons_true hy).2 ⟨e,ds',rfl,h2,h3,ih.1 hx⟩,fun d hx k1 k2=>(aY.cons_true hy).2 ⟨e,ds'++[d],rfl,h2,h3,ih.2 d hx k1 k2⟩⟩
  |false=>
   rw [aY.cons_false hy] at h;have ih:=aY.snoc (x:=x) h;exact ⟨fun hx=>(aY.cons_false hy).2 (ih.1 hx),fun d hx k1 k2=>(aY.cons_false hy).2 (ih.2 d hx k1 k2)⟩
theorem aY.erase {H:List Ev}: ∀{cs ds:List uB} {i:Nat},aY l t H cs ds->i<cs.length->((bI l (cs[i]!).2 t).2=false->aY l t H (cs.eraseIdx i) ds)/\
 ((bI l (cs[i]!).2 t).2=true-> ∃k,k<ds.length/\(ds[k]!).1=(cs[i]!).1/\(((bI l (cs[i]!).2 t).1.1,(bI l (cs[i]!).2 t).1.2,(cs[i]!).1,(ds[k]!).2):Ev)∈H/\aY l t H (cs.eraseIdx i) (ds.eraseIdx k))
 | [],_,i,_,hi=>by cases hi
 |y::cs,ds,0,h,_=>by
  show ((bI l y.2 t).2=false->aY l t H cs ds)/\((bI l y.2 t).2=true-> ∃k,k<ds.length/\(ds[k]!).1=y.1/\(((bI l y.2 t).1.1,(bI l y.2 t).1.2,y.1,(ds[k]!).2):Ev)∈H/\aY l t H cs (ds.eraseIdx k));refine ⟨fun hy=>(aY.cons_false hy).1 h,fun hy=>?_⟩
  obtain ⟨e,ds',h1,h2,h3,h4⟩:=(aY.cons_true hy).1 h;subst h1;exact ⟨0,by simp,h2,h3,h4⟩
 |y::cs,ds,i+1,h,hi=>by
  have hi':i<cs.length:=by simpa using hi
  show ((bI l (cs[i]!).2 t).2=false->aY l t H (y::cs.eraseIdx i) ds)/\((bI l (cs[i]!).2 t).2=true-> ∃k,k<ds.length/\(ds[k]!).1=(cs[i]!).1/\(((bI l (cs[i]!).2 t).1.1,(bI l (cs[i]!).2 t).1.2,(cs[i]!).1,(ds[k]!).2):Ev)∈H/\aY l t H (y::cs.eraseIdx i) (ds.eraseIdx k));cases hy:(bI l y.2 t).2 with
  |true=>
   obtain ⟨e,ds',h1,h2,h3,h4⟩:=(aY.cons_true hy).1 h;subst h1;have ih:=aY.erase (i:=i) h4 hi';refine ⟨fun hx=>(aY.cons_true hy).2 ⟨e,ds',rfl,h2,h3,ih.1 hx⟩,fun hx=>?_⟩
   obtain ⟨k,k1,k2,k3,k4⟩:=ih.2 hx;exact ⟨k+1,by simp;omega,k2,k3,(aY.cons_true hy).2 ⟨e,ds'.eraseIdx k,rfl,h2,h3,k4⟩⟩
  |false=>
   have h:=(aY.cons_false hy).1 h;have ih:=aY.erase (i:=i) h hi';refine ⟨fun hx=>(aY.cons_false hy).2 (ih.1 hx),fun hx=>?_⟩
   obtain ⟨k,k1,k2,k3,k4⟩:=ih.2 hx;exact ⟨k,k1,k2,k3,(aY.cons_false hy).2 k4⟩
end
theorem IL {H:List Ev} {ns:List Int} (hd:ns.Nodup) (hl:H.length<=ns.length) (he: ∀n∈ns,∃e∈H,Ev.num e=n): ∀e∈H,Ev.num e∈ns:=by
 have pos: ∀n,n∈ns-> ∃w,w<H.length/\Ev.num H[w]! =n:=fun n hn=>by
  obtain ⟨e,he,h2⟩:=he n hn;obtain ⟨w,hw,rfl⟩:=aZ.1 he;exact ⟨w,hw,h2⟩
 let f:Int->Nat:=fun n=>if h: ∃w,w<H.length/\Ev.num H[w]! =n then h.choose else 0
 have hf: ∀n∈ns,f n<H.length/\Ev.num H[f n]! =n:=fun n hn=>by
  have h:=pos n hn;show (if h: ∃w,w<H.length/\Ev.num H[w]! =n then h.choose else 0)<_/\Ev.num H[(if h: ∃w,w<H.length/\Ev.num H[w]! =n then h.choose else 0)]! =n
  rw [dif_pos h];exact h.choose_spec
 have full:=IH (n:=H.length) (l:=ns.map f) (DJ hd fun x hx y hy h=>by
  have h1:=(hf x hx).2;have h2:=(hf y hy).2;rw [h] at h1
  omega) (fun x hx=>by
  obtain ⟨n,hn,rfl⟩:=List.mem_map.1 hx;exact (hf n hn).1) (by rw [List.length_map];exact hl)
 intro e hm;obtain ⟨w,hw,rfl⟩:=aZ.1 hm;obtain ⟨n,hn,h⟩:=List.mem_map.1 (full w hw);rw [<- h,(hf n hn).2];exact hn
theorem SS {cs:List uB} (h:Up cs):(cs.map fun x=>x.1).Nodup:=by
 refine DJ ?_ ?_
 · unfold Up at h
   exact h.imp fun hab he=>by rw [he] at hab;omega
 · intro x hx y hy he
   obtain ⟨i,hi,rfl⟩:=aZ.1 hx;obtain ⟨j,hj,rfl⟩:=aZ.1 hy;rcases Nat.lt_trichotomy i j with h1|h1|h1
   · have:=sQ.1 h i j h1 hj;omega
   · rw [h1]
   · have:=sQ.1 h j i h1 hi;omega
theorem bF.crt_up {c:aP} (ok:bF c):Up c.certs.list:=sQ.2 ok.crt.up
theorem bF.due_up {c:aP} (ok:bF c):Up c.due:=ok.fol.up ok.crt_up
theorem bF.nums {c:aP} (ok:bF c): ∀e∈c.agenda.heap,∃d∈c.due,d.1=Ev.num e:=by
 have:=IL (H:=c.agenda.heap) (SS ok.due_up) (by rw [List.length_map,ok.hd];exact Nat.le_refl _) (fun n hn=>by
  obtain ⟨d,hd,rfl⟩:=List.mem_map.1 hn;obtain ⟨x,hx,h1,h2,h3⟩:=ok.fol.due d hd;exact ⟨_,h3,h1.symm⟩)
 intro e he;obtain ⟨d,hd,h⟩:=List.mem_map.1 (this e he);exact ⟨d,hd,h⟩
end Go.Proofs.YtmlghnibpjlchaaGreat
