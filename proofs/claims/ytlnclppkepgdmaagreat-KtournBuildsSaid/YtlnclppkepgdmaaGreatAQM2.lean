/- Plain laws (2). -/
import Derived.Test.YtlnclppkepgdmaaGreatAQM1
namespace Go.Proofs.YtlnclppkepgdmaaGreat
open Go.Vm Classical
theorem U6 (a:aO) (fit:E4 a) (so:fB a.slots) (wl:a.where_.length=a.slots.uses.length):
 aH mV (a.where_,(a.where_.length:Int),0,a.slots.uses,a.slots.used,a.slots.free,a.heap,a.where_)=some (if (∀i,i<a.slots.uses.length->PM a i)/\(∀k,k<a.heap.length->Q4 a.heap k) then 0 else 8):=by
 have hu:=so.ul;have hn:=so.n2;have hh:=fit.hp;have inner:=U5 a.heap a.slots.uses a.slots.free a.where_ a.slots.used fit.hp fit.at64
 have key:=dK (body:=mV) (fun i=>(a.where_,(a.where_.length:Int),(i:Int),a.slots.uses,a.slots.used,a.slots.free,a.heap,a.where_)) a.where_.length (fun i=> ¬PM a i) (r:=8) (e:=if (∀k,k<a.heap.length->Q4 a.heap k) then 0 else 8) (fun i hi=>by
  have e1:decide ((i:Int)<(a.where_.length:Int))=true:=aK (by omega)
  unfold mV;simp only [aF,e1,cond_true,aE a.where_ i hi,aE a.slots.used i (by omega),aE a.slots.uses i (by omega),aD,aT (show i<1000000000 by omega)]
  unfold PM;generalize a.where_[i]! =w at*;cases hb:a.slots.used[i]! with
  |false=>
   simp only [Bool.not_false,cond_true]
   by_cases hw:w= -1
   · rw [bS hw]
     exact ⟨fun h=>absurd ⟨fun h=>(by cases h),fun _=>hw⟩ h,fun _=>rfl⟩
   · rw [cQ hw]
     exact ⟨fun _=>rfl,fun h=>absurd ((Classical.not_not.1 h).2 trivial) hw⟩
  |true=>
   simp only [Bool.not_true,cond_false]
   by_cases b1:w<0
   · rw [aK b1]
     exact ⟨fun _=>rfl,fun h=>absurd ((Classical.not_not.1 h).1 trivial).1 (by omega)⟩
   by_cases b2:(a.heap.length:Int)<=w
   · rw [dec_f b1,aK b2]
     exact ⟨fun _=>rfl,fun h=>absurd ((Classical.not_not.1 h).1 trivial).2.1 (by omega)⟩
   rw [dec_f b1,dec_f b2];simp only [cond_false,dX (l:=a.heap) (i:=w) (by omega) (by omega),aD]
   by_cases b3:(a.heap[w.toNat]!).2.2.2.1=i
   · by_cases b4:(a.heap[w.toNat]!).2.2.2.2=a.slots.uses[i]!
     · rw [eV b3,eV b4]
       exact ⟨fun h=>absurd ⟨fun _=>⟨by omega,by omega,b3,b4⟩,fun h=>(by cases h)⟩ h,fun _=>rfl⟩
     · rw [eV b3,eJ b4]
       exact ⟨fun _=>rfl,fun h=>absurd ((Classical.not_not.1 h).1 trivial).2.2.2 b4⟩
   · rw [eJ b3]
     exact ⟨fun _=>rfl,fun h=>absurd ((Classical.not_not.1 h).1 trivial).2.2.1 b3⟩) (by
  unfold mV
  have:decide ((a.where_.length:Int)<(a.where_.length:Int))=false:=dec_f (by omega)
  simp only [aF,this,cond_false]
  by_cases hx: ∀k,k<a.heap.length->Q4 a.heap k
  · rw [if_pos hx];exact inner.1 hx
  · rw [if_neg hx];exact inner.2 hx)
 by_cases hw: ∀i,i<a.slots.uses.length->PM a i
 · refine (key.2 fun i hi=>Classical.not_not.2 (hw i (by omega))).trans ?_
   by_cases hx: ∀k,k<a.heap.length->Q4 a.heap k
   · rw [if_pos hx,if_pos ⟨hw,hx⟩]
   · rw [if_neg hx,if_neg (fun h=>hx h.2)]
 · rw [if_neg (fun h=>hw h.1)]
   obtain ⟨i,h⟩:=Classical.not_forall.1 hw;obtain ⟨hi,hx⟩:=Classical.not_imp.1 h;exact key.1 ⟨i,by omega,hx⟩
theorem mX (a:aO) (fit:E4 a):mH a=some (if fE a then 0 else 8):=by
 have hh:=fit.hp;unfold mH;rw [AU _ fit.fr];simp only [aF]
 by_cases so:fB a.slots
 case neg=>rw [if_neg so,if_neg (fun h=>so h.so)];rfl
 have hu:=so.ul;have hn:=so.n2;have hf:=so.fl;rw [if_pos so];simp only [aD,show ((0:Int) !=0)=false from rfl,cond_false]
 by_cases wl:a.where_.length=a.slots.uses.length
 case neg=>
  rw [cQ (by omega),if_neg (fun h=>wl h.wl)];rfl
 rw [bS (by omega)]
 have e:aA .i64 ((a.slots.used.length:Int) - (a.slots.free.length:Int))=((a.slots.uses.length-a.slots.free.length:Nat):Int):=by rw [wi];omega
 rw [e]
 by_cases hl:a.heap.length+a.slots.free.length=a.slots.uses.length
 case neg=>
  rw [cQ (by omega),if_neg (fun h=>hl h.hl)];rfl
 rw [bS (by omega)]
 simp only [cond_false];rw [U6 a fit so wl]
 by_cases ok:fE a
 · rw [if_pos ok,if_pos ok.to]
 · rw [if_neg ok,if_neg]
   intro h;exact ok (fE.of fit so wl hl h.1 h.2)
theorem aFK {x y:Ev} (hx:rE (x.1,x.2.1)) (hy:rE (y.1,y.2.1)):eS x y=some (decide (dW x y)):=by
 unfold eS dW;rw [O7 hx hy];simp only [aD];generalize HU (x.1,x.2.1) (y.1,y.2.1)=c
 by_cases h1:c<0
 · simp [h1]
 · by_cases h2:c=0
   · subst h2;simp
   · simp only [h1,eJ h2,h2,decide_false,cond_false,false_or,false_and]
theorem aCt {s:aV} (ok:fB s) (h:Int×Int):yI s h=some (decide (AD s h)):=by
 have hu:=ok.ul;unfold yI AD;simp only [aF]
 by_cases a1:0<=h.1
 · by_cases a2:h.1<s.uses.length
   · simp only [a1,a2,decide_true,cond_true,dX (l:=s.used) a1 (by omega),dX (l:=s.uses) a1 a2,aD,true_and]
     generalize s.uses[h.1.toNat]! =u;cases s.used[h.1.toNat]!<;>simp [aCq]
   · simp [a1,a2]
 · simp [a1]
theorem aDx (a:aO) (so:fB a.slots):xD a=some (decide (a.where_.length=a.slots.uses.length/\a.heap.length+a.slots.free.length=a.slots.uses.length/\ ∀i,i<a.slots.uses.length->PM a i)):=by
 have hu:=so.ul;have hn:=so.n2;have hf:=so.fl;unfold xD;simp only [aF]
 by_cases wl:a.where_.length=a.slots.uses.length
 case neg=>
  rw [cQ (by omega),dec_f (fun h=>wl h.1)];rfl
 rw [bS (by omega)]
 have e:aA .i64 ((a.slots.uses.length:Int) - (a.slots.free.length:Int))=((a.slots.uses.length-a.slots.free.length:Nat):Int):=by rw [wi];omega
 rw [e]
 by_cases hl:a.heap.length+a.slots.free.length=a.slots.uses.length
 case neg=>
  rw [cQ (by omega),dec_f (fun h=>hl h.2.1)];rfl
 rw [bS (by omega)]
 simp only [cond_false];have key:=dK (body:=pX) (fun i=>((a.slots.uses.length:Int),(i:Int),a.slots.uses,a.slots.used,a.slots.free,a.heap,a.where_)) a.slots.uses.length (fun i=> ¬PM a i) (r:=false) (e:=true) (fun i hi=>by
  have e1:decide ((i:Int)<(a.slots.uses.length:Int))=true:=aK (by omega)
  unfold pX;simp only [aF,e1,cond_true,aE a.where_ i (by omega),aE a.slots.used i (by omega),aD,aT (show i<1000000000 by omega)]
  unfold PM;generalize a.where_[i]! =w at*;cases hb:a.slots.used[i]! with
  |false=>
   simp only [Bool.not_false,cond_true]
   by_cases hw:w= -1
   · rw [bS hw]
     exact ⟨fun h=>absurd ⟨fun h=>(by cases h),fun _=>hw⟩ h,fun _=>rfl⟩
   · rw [cQ hw]
     exact ⟨fun _=>rfl,fun h=>absurd ((Classical.not_not.1 h).2 trivial) hw⟩
  |true=>
   simp only [Bool.not_true,cond_false]
   by_cases b1:w<0
   · rw [aK b1]
     exact ⟨fun _=>rfl,fun h=>absurd ((Classical.not_not.1 h).1 trivial).1 (by omega)⟩
   by_cases b2:(a.heap.length:Int)<=w
   · rw [dec_f b1,aK b2]
     exact ⟨fun _=>rfl,fun h=>absurd ((Classical.not_not.1 h).1 trivial).2.1 (by omega)⟩
   rw [dec_f b1,dec_f b2];simp only [cond_false,dX (l:=a.heap) (i:=w) (by omega) (by omega),aD]
   by_cases b3:(a.heap[w.toNat]!).2.2.2.1=i
   · rw [bS b3]
     simp only [cond_false];rw [aCt (s:=⟨a.slots.uses,a.slots.used,a.slots.free⟩) so];have lv:AD ⟨a.slots.uses,a.slots.used,a.slots.free⟩ (a.heap[w.toNat]!).2.2.2↔(a.heap[w.toNat]!).2.2.2.2=a.slots.uses[i]!:=by
      unfold AD;dsimp only;rw [b3];constructor
      · intro h;exact h.2.2.2.symm
      · intro h;exact ⟨by omega,by omega,by rw [Int.toNat_natCast];exact hb,by rw [Int.toNat_natCast];exact h.symm⟩
     simp only [aD,lv]
     by_cases b4:(a.heap[w.toNat]!).2.2.2.2=a.slots.uses[i]!
     · rw [aK b4]
       exact ⟨fun h=>absurd ⟨fun _=>⟨by omega,by omega,b3,b4⟩,fun h=>(by cases h)⟩ h,fun _=>rfl⟩
     · rw [dec_f b4]
       exact ⟨fun _=>rfl,fun h=>absurd ((Classical.not_not.1 h).1 trivial).2.2.2 b4⟩
   · rw [cQ b3]
     exact ⟨fun _=>rfl,fun h=>absurd ((Classical.not_not.1 h).1 trivial).2.2.1 b3⟩) (by
  unfold pX
  have:decide ((a.slots.uses.length:Int)<(a.slots.uses.length:Int))=false:=dec_f (by omega)
  simp only [this,cond_false])
 by_cases hw: ∀i,i<a.slots.uses.length->PM a i
 · rw [aK ⟨wl,hl,hw⟩]
   exact key.2 fun i hi=>Classical.not_not.2 (hw i hi)
 · rw [dec_f (fun h=>hw h.2.2)]
   obtain ⟨i,h⟩:=Classical.not_forall.1 hw;obtain ⟨hi,hx⟩:=Classical.not_imp.1 h;exact key.1 ⟨i,hi,hx⟩
theorem YM (H:List Ev) (u fr W:List Int) (us:List Bool) (k:Nat) (hk:k<H.length) (hl:H.length<=1000000) (x:Ev):
 ((∃j,j<k/\(H[j]!).2.2.1=x.2.2.1)->aH lP ((k:Int),0,u,us,fr,H,W,x)=some (.done 8))/\
 ((∀j,j<k-> ¬(H[j]!).2.2.1=x.2.2.1)->aH lP ((k:Int),0,u,us,fr,H,W,x)=some (.next (((k+1:Nat):Int),u,us,fr,H,W))):=by
 refine dK (body:=lP) (fun j=>((k:Int),(j:Int),u,us,fr,H,W,x)) k (fun j=>(H[j]!).2.2.1=x.2.2.1) (r:= .done 8) (e:= .next (((k+1:Nat):Int),u,us,fr,H,W)) (fun j hj=>?_) ?_
 · have e1:decide ((j:Int)<(k:Int))=true:=aK (by omega)
   unfold lP;simp only [e1,cond_true,aE H j (by omega),aD,aT (show j<1000000000 by omega)]
   constructor
   · intro h;rw [eV h];rfl
   · intro h;rw [eJ h];rfl
 · unfold lP
   have:decide ((k:Int)<(k:Int))=false:=dec_f (by omega)
   simp only [this,cond_false,aT (show k<1000000000 by omega)]
theorem YN (H:List Ev) (u fr W:List Int) (us:List Bool) (hl:H.length<=1000000) (r64: ∀w,w<H.length->rE ((H[w]!).1,(H[w]!).2.1)):
 aH lQ (1,u,us,fr,H,W)=some (.done (if∀k,0<k->k<H.length-> ¬dW H[k]! H[(k-1) / 2]! then 0 else 8)):=by
 by_cases h0:H.length=0
 · rw [if_pos (fun k _ hk=>by omega)]
   refine aL ?_;unfold lQ
   have:decide ((1:Int)<(H.length:Int))=false:=dec_f (by omega)
   simp only [aF,this,cond_false]
 have key:=dK (body:=lQ) (fun i=>(((i+1:Nat):Int),u,us,fr,H,W)) (H.length-1) (fun i=>dW H[i+1]! H[i / 2]!) (r:= .done 8) (e:= .done 0) (fun i hi=>by
  have e1:decide (((i+1:Nat):Int)<(H.length:Int))=true:=aK (by omega)
  unfold lQ;simp only [aF,e1,cond_true,wN (show i<1000000000 by omega),aE H (i+1) (by omega),aE H (i / 2) (by omega),aD,aFK (r64 (i+1) (by omega)) (r64 (i / 2) (by omega)),aT (show i+1<1000000000 by omega)]
  constructor
  · intro h;rw [aK h];rfl
  · intro h;rw [dec_f h];rfl) (by
  unfold lQ
  have:decide (((H.length-1+1:Nat):Int)<(H.length:Int))=false:=dec_f (by omega)
  simp only [aF,this,cond_false])
 by_cases ho: ∀k,0<k->k<H.length-> ¬dW H[k]! H[(k-1) / 2]!
 · rw [if_pos ho]
   refine key.2 fun i hi hc=>ho (i+1) (by omega) (by omega) ?_
   rwa [show (i+1-1) / 2=i / 2 by omega]
 · rw [if_neg ho]
   obtain ⟨k,h⟩:=Classical.not_forall.1 ho;obtain ⟨k0,h⟩:=Classical.not_imp.1 h;obtain ⟨hk,hx⟩:=Classical.not_imp.1 h;refine key.1 ⟨k-1,by omega,?_⟩
   rw [show k-1+1=k by omega]
   exact Classical.not_not.1 hx
def U7 (H:List Ev) (k:Nat):Prop:=cH ((H[k]!).1,(H[k]!).2.1)/\0<=(H[k]!).2.2.1/\(H[k]!).2.2.1<=1000000/\(∀j,j<k-> ¬(H[j]!).2.2.1=(H[k]!).2.2.1)
theorem E5 (a:aO) (fit:E4 a):vY a=some (if fE a then 0 else 8):=by
 have hh:=fit.hp;unfold vY;rw [PL _ fit.fr]
 by_cases so:fB a.slots
 case neg=>rw [if_neg so,if_neg (fun h=>so h.so)];rfl
 rw [if_pos so];simp only [aD,show ((0:Int) !=0)=false from rfl,cond_false,aDx a so]
 by_cases pl:a.where_.length=a.slots.uses.length/\a.heap.length+a.slots.free.length=a.slots.uses.length/\ ∀i,i<a.slots.uses.length->PM a i
 case neg=>
  rw [dec_f pl,if_neg (fun h=>pl ⟨h.wl,h.hl,h.to.1⟩)];rfl
 rw [aK pl];obtain ⟨wl,hl,hw⟩:=pl;simp only [Bool.not_true,cond_false];have key:=dK (body:=sL) (fun k=>((k:Int),a.slots.uses,a.slots.used,a.slots.free,a.heap,a.where_)) a.heap.length (fun k=> ¬U7 a.heap k) (r:=8) (e:=if∀k,0<k->k<a.heap.length-> ¬dW a.heap[k]! a.heap[(k-1) / 2]! then 0 else 8) (fun k hk=>by
  have e1:decide ((k:Int)<(a.heap.length:Int))=true:=aK (by omega)
  have l1:=YM a.heap a.slots.uses a.slots.free a.where_ a.slots.used k hk hh a.heap[k]!;unfold sL;simp only [aF,e1,cond_true,aE a.heap k hk,aD,sS (fit.at64 k hk)];unfold U7
  by_cases b1:cH ((a.heap[k]!).1,(a.heap[k]!).2.1)
  case neg=>
   rw [if_neg b1];exact ⟨fun _=>rfl,fun h=>absurd (Classical.not_not.1 h).1 b1⟩
  rw [if_pos b1]
  by_cases b2:(a.heap[k]!).2.2.1<0
  · rw [aK b2]
    exact ⟨fun _=>rfl,fun h=>absurd (Classical.not_not.1 h).2.1 (by omega)⟩
  by_cases b3:1000000<(a.heap[k]!).2.2.1
  · rw [dec_f b2,aK b3]
    exact ⟨fun _=>rfl,fun h=>absurd (Classical.not_not.1 h).2.2.1 (by omega)⟩
  rw [dec_f b2,dec_f b3];simp only [show ((0:Int) !=0)=false from rfl,cond_false]
  by_cases b4: ∃j,j<k/\(a.heap[j]!).2.2.1=(a.heap[k]!).2.2.1
  · refine ⟨fun _=>l1.1 b4,fun h=>?_⟩
    obtain ⟨j,j1,j2⟩:=b4;exact absurd j2 ((Classical.not_not.1 h).2.2.2 j j1)
  · have b4': ∀j,j<k-> ¬(a.heap[j]!).2.2.1=(a.heap[k]!).2.2.1:=fun j h1 h2=>b4 ⟨j,h1,h2⟩
    exact ⟨fun h=>absurd ⟨b1,by omega,by omega,b4'⟩ h,fun _=>l1.2 b4'⟩) (by
  unfold sL
  have:decide ((a.heap.length:Int)<(a.heap.length:Int))=false:=dec_f (by omega)
  simp only [aF,this,cond_false];exact YN a.heap _ _ _ _ hh fit.at64)
 have same:fE a↔(∀k,k<a.heap.length->U7 a.heap k)/\ ∀k,0<k->k<a.heap.length-> ¬dW a.heap[k]! a.heap[(k-1) / 2]!:=by
  constructor
  · intro ok
    refine ⟨fun k hk=>?_,ok.ord⟩
    have:=ok.to.2 k hk
    exact ⟨this.1,this.2.1,this.2.2.1,this.2.2.2.1⟩
  · rintro ⟨h1,h2⟩
    refine fE.of fit so wl hl hw fun k hk=>?_
    obtain ⟨c1,c2,c3,c4⟩:=h1 k hk;refine ⟨c1,c2,c3,c4,fun k0=>?_⟩
    unfold aAT;rw [if_pos ⟨c1,(h1 ((k-1) / 2) (by omega)).1⟩,JO]
    exact h2 k k0 hk
 by_cases he: ∀k,k<a.heap.length->U7 a.heap k
 · refine (key.2 fun i hi=>Classical.not_not.2 (he i hi)).trans ?_
   by_cases ho: ∀k,0<k->k<a.heap.length-> ¬dW a.heap[k]! a.heap[(k-1) / 2]!
   · rw [if_pos ho,if_pos (same.2 ⟨he,ho⟩)]
   · rw [if_neg ho,if_neg (fun h=>ho (same.1 h).2)]
 · rw [if_neg (fun h=>he (same.1 h).1)]
   obtain ⟨i,h⟩:=Classical.not_forall.1 he;obtain ⟨hi,hx⟩:=Classical.not_imp.1 h;exact key.1 ⟨i,hi,hx⟩
theorem GX {l:List Ev} {n:Nat} {e:Ev} (hn:n<=l.length):e∈l.take n↔ ∃w,w<n/\l[w]! =e:=by
 rw [cD];constructor
 · rintro ⟨i,h1,_,h3⟩;exact ⟨i,h1,h3⟩
 · rintro ⟨i,h1,h3⟩;exact ⟨i,h1,by omega,h3⟩
theorem aN2 {s:aV} (so:fB s) {n:Nat} {H:List Ev} {W:List Int} (E:Ev->Prop) (hn:n<=H.length) (wl:W.length=s.uses.length) (hl:n+s.free.length=s.uses.length)
 (ix: ∀w,w<n->0<=(H[w]!).ix/\(H[w]!).ix<W.length/\W[(H[w]!).n]! =(w:Int)) (mem: ∀e,(∃w,w<n/\H[w]! =e)↔E e) (ord: ∀k,0<k->k<n-> ¬dW H[k]! H[(k-1) / 2]!)
 (ue: ∀i,i<s.uses.length->s.used[i]! =true-> ∃e:Ev,E e/\e.ix=i/\e.2.2.2.2=s.uses[i]!) (un: ∀i,i<s.uses.length->s.used[i]! =false->W[i]! = -1)
 (ev: ∀e,E e->uB e) (nums: ∀e f:Ev,E e->E f->e.num=f.num->e.ix=f.ix):fE ⟨s,H.take n,W⟩:=by
 have len:(H.take n).length=n:=by rw [List.length_take];omega
 have cell: ∀w,w<n->(H.take n)[w]! =H[w]!:=fun w hw=>nG hw
 refine ⟨so,wl,by show (H.take n).length+_=_;rw [len];exact hl,?_,un,?_,?_,?_⟩
 · intro i hi hu
   dsimp only at hi hu ⊢;rw [len];obtain ⟨e,he,e1,e2⟩:=ue i hi hu;obtain ⟨w,hw,rfl⟩:=(mem e).2 he;obtain ⟨a1,a2,a3⟩:=ix w hw;have hn':(H[w]!).n=i:=by show ((H[w]!).ix).toNat=i;omega
   rw [hn'] at a3;rw [a3,Int.toNat_natCast,cell w hw];exact ⟨by omega,by omega,e1,e2⟩
 · intro w hw
   dsimp only at hw ⊢;rw [len] at hw;rw [cell w hw];exact ev _ ((mem _).1 ⟨w,hw,rfl⟩)
 · intro v w hv hw
   dsimp only at hw ⊢;rw [len] at hw;rw [cell v (by omega),cell w hw]
   intro hc
   have:=nums _ _ ((mem _).1 ⟨v,by omega,rfl⟩) ((mem _).1 ⟨w,hw,rfl⟩) hc
   obtain ⟨a1,a2,a3⟩:=ix v (by omega)
   obtain ⟨b1,b2,b3⟩:=ix w hw;have hn':(H[v]!).n=(H[w]!).n:=by show ((H[v]!).ix).toNat=((H[w]!).ix).toNat;rw [this]
   rw [hn'] at a3;omega
 · intro k k0 hk
   dsimp only at hk ⊢;rw [len] at hk;rw [cell k hk,cell _ (by omega)]
   exact ord k k0 hk
theorem AX {s:aV} (so:fB s) {n:Nat} {x:Ev} {M:Ev->Prop} {K:Nat->Prop} {H H1:List Ev} {W W1:List Int} (st:F7 n x M K H W H1 W1) (hn:n<=H.length) (wl:W.length=s.uses.length) (hl:n+s.free.length=s.uses.length)
 (ue: ∀i,i<s.uses.length->s.used[i]! =true-> ∃e:Ev,(e=x\/M e)/\e.ix=i/\e.2.2.2.2=s.uses[i]!) (un: ∀i,i<s.uses.length->s.used[i]! =false->K i/\W[i]! = -1)
 (ev: ∀e,(e=x\/M e)->uB e) (nums: ∀e f:Ev,(e=x\/M e)->(f=x\/M f)->e.num=f.num->e.ix=f.ix):fE ⟨s,H1.take n,W1⟩:=by
 refine aN2 so (fun e=>e=x\/M e) (by rw [st.hl];exact hn) (by rw [st.wl];exact wl) hl (by rw [st.wl];exact st.ix) st.mem st.ord ue ?_ ev nums
 intro i hi hu;rw [st.out i (un i hi hu).1];exact (un i hi hu).2
theorem fE.bd {a:aO} (ok:fE a):a.heap.length<=200/\a.where_.length<=200:=by
 have:=ok.hl;have:=ok.wl;have:=ok.so.n2
 omega
theorem fE.cells {a:aO} (ok:fE a):oJ a.heap.length a.heap a.where_:=by
 have:=ok.bd
 refine ⟨Nat.le_refl _,by omega,fun w hw=>?_⟩
 obtain ⟨b1,b2,b3,b4,b5⟩:=ok.back hw;exact ⟨ok.ev w hw,b1,by rw [ok.wl];exact b2⟩
theorem fE.inj {a:aO} (ok:fE a) {v w:Nat} (hv:v<a.heap.length) (hw:w<a.heap.length) (h:Ev.ix a.heap[v]! =Ev.ix a.heap[w]!):v=w:=by
 have h1:=(ok.back hv).2.2.2.2;have h2:=(ok.back hw).2.2.2.2
 have:Ev.n a.heap[v]! =Ev.n a.heap[w]!:=by show (Ev.ix a.heap[v]!).toNat=(Ev.ix a.heap[w]!).toNat;rw [h]
 rw [this] at h1;omega
theorem fE.grand {a:aO} (ok:fE a) {i k:Nat} (i0:0<i) (k0:0<k) (hk:k<a.heap.length) (hp:(k-1) / 2=i): ¬dW a.heap[k]! a.heap[(i-1) / 2]!:=by
 have h1:=ok.ord k k0 hk;rw [hp] at h1;exact F6 (ok.ev _ (by omega)).den (ok.ev _ (by omega)).den (ok.ev _ hk).den (ok.ord i i0 (by omega)) h1
theorem fE.live {a:aO} (ok:fE a) {h:Int×Int} (lv:AD a.slots h): ∃i,i<a.heap.length/\a.where_[h.1.toNat]! =(i:Int)/\(a.heap[i]!).2.2.2=h:=by
 obtain ⟨l1,l2,l3,l4⟩:=lv;obtain ⟨f1,f2,f3,f4⟩:=ok.fwd h.1.toNat (by omega) l3
 refine ⟨(a.where_[h.1.toNat]!).toNat,by omega,by omega,?_⟩
 have e1:(a.heap[(a.where_[h.1.toNat]!).toNat]!).2.2.2.1=h.1:=by
  have:Ev.ix a.heap[(a.where_[h.1.toNat]!).toNat]! =(h.1.toNat:Int):=f3
  have h2:Ev.ix a.heap[(a.where_[h.1.toNat]!).toNat]! =(a.heap[(a.where_[h.1.toNat]!).toNat]!).2.2.2.1:=rfl;omega
 exact Prod.ext e1 (by rw [f4,l4])
theorem fE.handle {a:aO} (ok:fE a) {i:Nat} (hi:i<a.heap.length):AD a.slots (a.heap[i]!).2.2.2/\a.where_[((a.heap[i]!).2.2.2.1).toNat]! =(i:Int):=by
 obtain ⟨b1,b2,b3,b4,b5⟩:=ok.back hi;exact ⟨⟨b1,b2,b3,b4⟩,b5⟩
theorem fE.used_ev {a:aO} (ok:fE a) {i:Nat} (hi:i<a.slots.uses.length) (hu:a.slots.used[i]! =true): ∃w,w<a.heap.length/\Ev.ix a.heap[w]! =i/\(a.heap[w]!).2.2.2.2=a.slots.uses[i]!:=by
 obtain ⟨f1,f2,f3,f4⟩:=ok.fwd i hi hu;exact ⟨(a.where_[i]!).toNat,by omega,f3,f4⟩
theorem fE.no_ev {a:aO} (ok:fE a) {i:Nat} (hu:a.slots.used[i]! =false) {w:Nat} (hw:w<a.heap.length):Ev.n a.heap[w]!≠i:=by
 intro h
 have:=(ok.back hw).2.2.1
 rw [h,hu] at this;cases this
theorem fE.nums {a:aO} (ok:fE a) {v w:Nat} (hv:v<a.heap.length) (hw:w<a.heap.length) (h:Ev.num a.heap[v]! =Ev.num a.heap[w]!):v=w:=by
 rcases Nat.lt_trichotomy v w with h1|h1|h1
 · exact absurd h (ok.nd v w h1 hw)
 · exact h1
 · exact absurd h.symm (ok.nd w v h1 hv)
theorem set_same {α:Type} [Inhabited α] {l:List α} {k:Nat} {v:α} (h:l[k]! =v):l.set k v=l:=by
 by_cases hk:k<l.length
 · apply wC (by rw [List.length_set])
   intro i hi;rw [bB];split
   · rename_i e;rw [e.1];exact h.symm
   · rfl
 · exact List.set_eq_of_length_le (by omega)
def uC (x:Ev) (t:Int×Int):Ev:=(t.1,t.2,x.2.2)
noncomputable def lC (a:aO) (i:Nat) (t:Int×Int):aO:=⟨a.slots,(cS a.heap.length (uC a.heap[i]! t) i a.heap a.where_).1,(cS a.heap.length (uC a.heap[i]! t) i a.heap a.where_).2⟩
theorem PN {a:aO} (ok:fE a) {i:Nat} (hi:i<a.heap.length) {t:Int×Int} (ht:cH t) (h64:rE t):uB (uC a.heap[i]! t):=by
 have:=ok.ev i hi
 exact ⟨ht,h64,this.2.2.1,this.2.2.2⟩
theorem PO {a:aO} (ok:fE a) {i:Nat} (hi:i<a.heap.length) (t:Int×Int):HW a.heap.length (uC a.heap[i]! t) (fun e=> ∃w,w<a.heap.length/\w≠i/\a.heap[w]! =e) a.heap a.where_ i:=by
 obtain ⟨b1,b2,b3,b4,b5⟩:=ok.back hi;refine ⟨hi,Nat.le_refl _,fun w hw hwi=>?_,b1,by rw [ok.wl];exact b2,fun e=>Iff.rfl⟩
 obtain ⟨c1,c2,c3,c4,c5⟩:=ok.back hw;exact ⟨c1,by rw [ok.wl];exact c2,c5,fun h=>hwi (ok.inj hw hi h)⟩
theorem SQ {a:aO} (ok:fE a) (i:Nat):IF a.heap.length a.heap i:=
 ⟨fun w hw=>(ok.ev w hw).den,fun k k0 hk _ _=>ok.ord k k0 hk,fun i0 _k k0 hk hp=>ok.grand i0 k0 hk hp⟩
theorem pN {a:aO} (ok:fE a) {i:Nat} (hi:i<a.heap.length) {t:Int×Int} (ht:cH t):
 F7 a.heap.length (uC a.heap[i]! t) (fun e=> ∃w,w<a.heap.length/\w≠i/\a.heap[w]! =e) (fun k=>k≠Ev.n (uC a.heap[i]! t)/\ ∀w,w<a.heap.length->w≠i->Ev.n a.heap[w]!≠k) a.heap a.where_ (lC a i t).heap (lC a i t).where_:=
 E2 (x:=uC a.heap[i]! t) ht.1 (PO ok hi t) (SQ ok i)
theorem K7 {a:aO} (ok:fE a) {i:Nat} (hi:i<a.heap.length) {t:Int×Int} (ht:cH t):(lC a i t).heap.length=a.heap.length/\(lC a i t).where_.length=a.where_.length:=
 ⟨(pN ok hi ht).hl,(pN ok hi ht).wl⟩
theorem aDy {a:aO} (ok:fE a) {i:Nat} (hi:i<a.heap.length) {t:Int×Int} (ht:cH t) (e:Ev):e∈(lC a i t).heap↔(e=uC a.heap[i]! t\/(e∈a.heap/\e≠a.heap[i]!)):=by
 have st:=pN ok hi ht;have h1:e∈(lC a i t).heap↔ ∃w,w<a.heap.length/\((lC a i t).heap)[w]! =e:=by
  rw [aW,(K7 ok hi ht).1]
 rw [h1];refine (st.mem e).trans ?_;constructor
 · rintro (h|⟨w,hw,hwi,rfl⟩)
   · exact .inl h
   · exact .inr ⟨bJ hw,fun h=>hwi (ok.inj hw hi (by rw [h]))⟩
 · rintro (h|⟨h,hne⟩)
   · exact .inl h
   · obtain ⟨w,hw,rfl⟩:=aW.1 h
     exact .inr ⟨w,hw,fun h=>hne (by rw [h]),rfl⟩
theorem aFL {a:aO} (ok:fE a) {i:Nat} (hi:i<a.heap.length) {t:Int×Int} (ht:cH t) (h64:rE t):fE (lC a i t):=by
 have st:=pN ok hi ht;have len:=(K7 ok hi ht).1;have hx:Ev.ix (uC a.heap[i]! t)=Ev.ix a.heap[i]!:=rfl;have key:=AX ok.so st (Nat.le_refl _) ok.wl ok.hl (fun j hj hu=>by
  obtain ⟨w,hw,e1,e2⟩:=ok.used_ev hj hu
  by_cases e:w=i
  · subst e;exact ⟨uC a.heap[w]! t,.inl rfl,e1,e2⟩
  · exact ⟨a.heap[w]!,.inr ⟨w,hw,e,rfl⟩,e1,e2⟩) (fun j hj hu=>⟨⟨(ok.no_ev hu hi).symm,fun w hw _=>ok.no_ev hu hw⟩,ok.un j hj hu⟩) (by
  rintro e (rfl|⟨w,hw,_,rfl⟩)
  · exact PN ok hi ht h64
  · exact ok.ev w hw) (by
  rintro e f (rfl|⟨v,hv,hvi,rfl⟩) (rfl|⟨w,hw,hwi,rfl⟩) he
  · rfl
  · exact absurd (ok.nums hi hw he).symm hwi
  · exact absurd (ok.nums hv hi he) hvi
  · rw [ok.nums hv hw he])
 have:(lC a i t).heap.take a.heap.length=(lC a i t).heap:=List.take_of_length_le (by rw [len];exact Nat.le_refl _)
 show fE ⟨a.slots,(lC a i t).heap,(lC a i t).where_⟩;rw [<- this];exact key
theorem YO {a:aO} (ok:fE a) (fit:E4 a) {h:Int×Int} {i:Nat} (hi:i<a.heap.length) (hh:(a.heap[i]!).2.2.2=h):sB a h=some ((i:Int),0):=by
 obtain ⟨lv,wv⟩:=ok.handle hi;rw [hh] at lv;unfold sB;rw [mX a fit,if_pos ok];simp only [aD,show ((0:Int) !=0)=false from rfl,cond_false,L5 ok.so,aK lv,Bool.not_true]
 have:=lv.2.1;have:=lv.1;have:=ok.wl
 have e:(a.heap[i]!).2.2.2.1=h.1:=by rw [hh]
 rw [dX (l:=a.where_) lv.1 (by omega),<- e,wv]
 rfl
theorem MM {a:aO} (ok:fE a) (fit:E4 a) {h t:Int×Int} {i:Nat} (hi:i<a.heap.length) (hh:(a.heap[i]!).2.2.2=h) (ht:cH t) (h64:rE t):xB a h t=some (lC a i t,0):=by
 have bd:=ok.bd;obtain ⟨b1,b2,b3,b4,b5⟩:=ok.back hi;unfold xB;rw [mX a fit,if_pos ok,fP h64,if_pos ht];have pl:=YO ok fit hi hh;have se:=PH (u:=a.slots.uses) (us:=a.slots.used) (fr:=a.slots.free) (PN ok hi ht h64) (show 0<=Ev.ix (uC a.heap[i]! t) from b1) ok.cells rfl hi (show Ev.ix (uC a.heap[i]! t)<a.where_.length by rw [ok.wl];exact b2)
 have se':fG (a.slots.uses,a.slots.used,a.slots.free,(i:Int),t.1,t.2,(a.heap[i]!).2.2.1,(a.heap[i]!).2.2.2.1,(a.heap[i]!).2.2.2.2,a.heap,a.where_)=some (cS a.heap.length (uC a.heap[i]! t) i a.heap a.where_):=se
 simp only [aD,gt_iff_lt,Int.lt_irrefl,if_false,show ((0:Int) !=0)=false from rfl,cond_false,pl,bC (show a.heap.length<=1048576 by omega),bC (show a.where_.length<=1048576 by omega),aE a.heap i hi,se']
 rfl
theorem vB {a:aO} (ok:fE a):oD a=some a:=by
 have bd:=ok.bd;unfold oD;simp only [AV ok.so,aD,bC (show a.heap.length<=1048576 by omega),bC (show a.where_.length<=1048576 by omega)]
theorem K8 {a:aO} (ok:fE a) {h t:Int×Int} {i:Nat} (hi:i<a.heap.length) (hh:(a.heap[i]!).2.2.2=h) (ht:cH t) (h64:rE t):uU a h t=some (lC a i t):=by
 have bd:=ok.bd;obtain ⟨b1,b2,b3,b4,b5⟩:=ok.back hi;obtain ⟨lv,wv⟩:=ok.handle hi;have hx:=PN ok hi ht h64;have x1:Ev.ix (uC a.heap[i]! t)<a.where_.length:=by rw [ok.wl];exact b2
 have st:=pN ok hi ht;obtain ⟨j,H1,W1,e1,e3,e4,e5,e6,e7,e8,e9,e10⟩:=M4 (x:=uC a.heap[i]! t) ht.1 i a.heap a.where_ (PO ok hi t) (SQ ok i);have w1:a.where_.set (Ev.n (uC a.heap[i]! t)) (i:Int)=a.where_:=set_same b5;unfold uU;rw [vB ok];have g1:aN a.where_ h.1=some (i:Int):=by
  have e:(a.heap[i]!).2.2.2.1=h.1:=by rw [hh]
  rw [dX (l:=a.where_) (i:=h.1) (by rw [<- e];exact b1) (by rw [<- e,ok.wl];exact b2),<- e,wv]
 have u1:sG ((i:Int),a.slots.uses,a.slots.used,a.slots.free,a.heap.set i (uC a.heap[i]! t),a.where_)=some ((j:Int),a.slots.uses,a.slots.used,a.slots.free,H1.set j (uC a.heap[i]! t),W1.set (Ev.n (uC a.heap[i]! t)) (j:Int)):=by
  unfold sG
  have:=aFH (c0:=((i:Int),a.slots.uses,a.slots.used,a.slots.free,a.heap.set i (uC a.heap[i]! t),a.where_)) (u:=a.slots.uses) (us:=a.slots.used) (fr:=a.slots.free) hx b1 rfl rfl rfl i a.heap a.where_ ok.cells hi rfl x1 List.length_set rfl
  rw [w1,e1] at this;exact this
 have cells1:oJ a.heap.length H1 W1:=by
  refine ⟨by rw [e5];exact Nat.le_refl _,by omega,fun w hw=>?_⟩
  exact ⟨(E3 ok.cells hi e1 w hw).1,(E3 ok.cells hi e1 w hw).2.1,by rw [e6];exact (E3 ok.cells hi e1 w hw).2.2⟩
 have d1:oU ((j:Int),a.slots.uses,a.slots.used,a.slots.free,H1.set j (uC a.heap[i]! t),W1.set (Ev.n (uC a.heap[i]! t)) (j:Int))=some (a.slots.uses,a.slots.used,a.slots.free,(cS a.heap.length (uC a.heap[i]! t) i a.heap a.where_).1,(cS a.heap.length (uC a.heap[i]! t) i a.heap a.where_).2):=by
  unfold oU
  have:=YK (c0:=((j:Int),a.slots.uses,a.slots.used,a.slots.free,H1.set j (uC a.heap[i]! t),W1.set (Ev.n (uC a.heap[i]! t)) (j:Int))) (n:=a.heap.length) (u:=a.slots.uses) (us:=a.slots.used) (fr:=a.slots.free) hx b1 rfl rfl rfl a.heap.length j H1 W1 (by omega) cells1 e3.lt e5 (by rw [e6];exact x1) List.length_set List.length_set
  rw [this];unfold cS;rw [e1]
 have s1:cO a.heap (i:Int) (t.1,t.2,(a.heap[i]!).2.2)=a.heap.set i (uC a.heap[i]! t):=rfl;simp only [aD,g1,aE a.heap i hi,s1,u1,d1];rfl
theorem SS (H:List Ev) (n:Int) (hl:H.length<=1000000):dB H n=some (decide (∃w,w<H.length/\(H[w]!).2.2.1=n)):=by
 unfold dB eZ;have key:=oI (body:=dA) (fun i=>(H,n,(H.length:Int),(i:Int))) H.length (fun i=>(H[i]!).2.2.1=n) (fun i=>(i:Int)) (e:= -1) (fun i hi=>by
  have e1:decide ((i:Int)<(H.length:Int))=true:=aK (by omega)
  unfold dA AS;simp only [e1,cond_true,aE H i hi,aD,aT (show i<1000000000 by omega)]
  constructor
  · intro h;rw [eV h];rfl
  · intro h;rw [eJ h];rfl) (by
  unfold dA
  have:decide ((H.length:Int)<(H.length:Int))=false:=dec_f (by omega)
  simp only [this,cond_false])
 rw [aF]
 by_cases hx: ∃w,w<H.length/\(H[w]!).2.2.1=n
 · obtain ⟨k,h1,h2,h3⟩:=JK hx
   have:=key.1 k h1 h2 h3
   rw [show ((0:Nat):Int)=0 from rfl] at this;rw [this,aK hx];simp only [aD,aK (show (0:Int)<=(k:Int) by omega)]
 · have:=key.2 fun i hi he=>hx ⟨i,hi,he⟩
   rw [show ((0:Nat):Int)=0 from rfl] at this;rw [this,dec_f hx];rfl
noncomputable def dN (a:aO) (t:Int×Int) (n:Int):Ev:=(t.1,t.2,n,mN a.slots)
noncomputable def mO (a:aO) (t:Int×Int) (n:Int):aO:=
 ⟨iE a.slots,(cS (a.heap.length+1) (dN a t n) a.heap.length (a.heap++[dN a t n]) a.where_).1,(cS (a.heap.length+1) (dN a t n) a.heap.length (a.heap++[dN a t n]) a.where_).2⟩
section
variable {a : aO} (ok : fE a) (op : DU a.slots) {t : Int × Int} (ht : cH t) (h64 : rE t) {n : Int} (n0 : 0 <= n) (n1 : n <= 1000000)
include ok op
theorem JQ:Ev.ix (dN a t n)=(dH a.slots:Int)/\dH a.slots<a.slots.uses.length/\a.slots.used[dH a.slots]! =false/\a.slots.free.length=(iE a.slots).free.length+1:=by
 obtain ⟨h1,h2,h3⟩:=F5 ok.so op.1;refine ⟨rfl,h1,?_,?_⟩
 · have:=ok.so.uf (dH a.slots) h1
   cases h:a.slots.used[dH a.slots]! with
   |false=>rfl
   |true=>exact absurd h3 (this.1 h)
 · show _=(a.slots.free.take (a.slots.free.length-1)).length+1
   have:=op.1
   rw [List.length_take];omega
theorem ST:HW (a.heap.length+1) (dN a t n) (fun e=>e∈a.heap) (a.heap++[dN a t n]) a.where_ a.heap.length:=by
 obtain ⟨h1,h2,h3,h4⟩:=JQ (t:=t) (n:=n) ok op;have cell: ∀w,w<a.heap.length->(a.heap++[dN a t n])[w]! =a.heap[w]!:=fun w hw=>eA hw
 refine ⟨by omega,by simp,fun w hw hwi=>?_,by rw [h1];omega,by rw [h1,ok.wl];omega,fun e=>?_⟩
 · have hw':w<a.heap.length:=by omega
   rw [cell w hw'];obtain ⟨c1,c2,c3,c4,c5⟩:=ok.back hw';refine ⟨c1,by rw [ok.wl];exact c2,c5,fun h=>?_⟩
   rw [h1] at h
   have:Ev.n a.heap[w]! =dH a.slots:=by show (Ev.ix a.heap[w]!).toNat=_;omega
   exact ok.no_ev h3 hw' this
 · constructor
   · rintro ⟨w,hw,hwi,rfl⟩
     rw [cell w (by omega)]
     exact bJ (by omega)
   · intro h
     obtain ⟨w,hw,rfl⟩:=aW.1 h;exact ⟨w,by omega,by omega,cell w hw⟩
theorem YP (ht:cH t):IF (a.heap.length+1) (a.heap++[dN a t n]) a.heap.length:=by
 have _:=op;have cell: ∀w,w<a.heap.length->(a.heap++[dN a t n])[w]! =a.heap[w]!:=fun w hw=>eA hw
 refine ⟨fun w hw=>?_,fun k k0 hk k1 k2=>?_,fun i0 k k0 hk hp=>by omega⟩
 · by_cases h:w<a.heap.length
   · rw [cell w h];exact (ok.ev w h).den
   · have:w=a.heap.length:=by omega
     subst this;rw [gQ (Nat.le_refl _),Nat.sub_self];exact ht.1
 · rw [cell k (by omega),cell _ (by omega)]
   exact ok.ord k k0 (by omega)
theorem C4 (ht:cH t):F7 (a.heap.length+1) (dN a t n) (fun e=>e∈a.heap) (fun k=>k≠Ev.n (dN a t n)/\ ∀w,w<a.heap.length+1->w≠a.heap.length->Ev.n (a.heap++[dN a t n])[w]!≠k) (a.heap++[dN a t n]) a.where_ (mO a t n).heap (mO a t n).where_:=
 E2 (x:=dN a t n) ht.1 (ST ok op) (YP ok op ht)
theorem JR (ht:cH t):(mO a t n).heap.length=a.heap.length+1:=by
 have:=(C4 (n:=n) ok op ht).hl
 rw [this];simp
theorem YQ (ht:cH t) (e:Ev):e∈(mO a t n).heap↔(e=dN a t n\/e∈a.heap):=by
 have st:=C4 (n:=n) ok op ht;rw [aW,JR ok op ht];exact st.mem e
theorem U8 (ht:cH t) (h64:rE t) (n0:0<=n) (n1:n<=1000000):uB (dN a t n):=by
 have _:=ok;have _:=op;exact ⟨ht,h64,n0,n1⟩
theorem aCu (ht:cH t) (h64:rE t) (n0:0<=n) (n1:n<=1000000) (nn: ∀e∈a.heap,Ev.num e≠n):fE (mO a t n):=by
 have st:=C4 (n:=n) ok op ht;have len:=JR (n:=n) ok op ht;obtain ⟨h1,h2,h3,h4⟩:=JQ (t:=t) (n:=n) ok op;have hu:=ok.so.ul;have ul:(iE a.slots).uses.length=a.slots.uses.length:=List.length_set;have key:=AX (aFF ok.so op) st (by simp) (by rw [ul];exact ok.wl) (by rw [ul];have:=ok.hl;omega) (fun j hj hu'=>by
  rw [ul] at hj;change (a.slots.used.set (dH a.slots) true)[j]! =true at hu';rw [bB] at hu'
  show∃e:Ev,_/\_/\_=(a.slots.uses.set (dH a.slots) (a.slots.uses[dH a.slots]!+1))[j]!
  rw [bB]
  by_cases e:j=dH a.slots
  · rw [if_pos ⟨e,h2⟩]
    exact ⟨dN a t n,.inl rfl,by rw [h1,e],rfl⟩
  · rw [if_neg (fun k=>e k.1)]
    rw [if_neg (fun k=>e k.1)] at hu'
    obtain ⟨w,hw,e1,e2⟩:=ok.used_ev hj hu';exact ⟨a.heap[w]!,.inr (bJ hw),e1,e2⟩) (fun j hj hu'=>by
  rw [ul] at hj;change (a.slots.used.set (dH a.slots) true)[j]! =false at hu';rw [bB] at hu'
  by_cases e:j=dH a.slots
  · rw [if_pos ⟨e,by omega⟩] at hu';cases hu'
  · rw [if_neg (fun k=>e k.1)] at hu'
    refine ⟨⟨?_,fun w hw hwi=>?_⟩,ok.un j hj hu'⟩
    · show j≠(Ev.ix (dN a t n)).toNat
      omega
    · rw [eA (by omega)]
      exact ok.no_ev hu' (by omega)) (by
  rintro e (rfl|h)
  · exact U8 ok op ht h64 n0 n1
  · obtain ⟨w,hw,rfl⟩:=aW.1 h
    exact ok.ev w hw) (by
  rintro e f (rfl|he) (rfl|hf) hn
  · rfl
  · exact absurd hn.symm (nn f hf)
  · exact absurd hn (nn e he)
  · obtain ⟨v,hv,rfl⟩:=aW.1 he
    obtain ⟨w,hw,rfl⟩:=aW.1 hf;rw [ok.nums hv hw hn])
 have:(mO a t n).heap.take (a.heap.length+1)=(mO a t n).heap:=List.take_of_length_le (by rw [len];exact Nat.le_refl _)
 show fE ⟨iE a.slots,(mO a t n).heap,(mO a t n).where_⟩;rw [<- this];exact key
theorem PP (ht:cH t) (h64:rE t) (n0:0<=n) (n1:n<=1000000):oJ (a.heap.length+1) (a.heap++[dN a t n]) a.where_:=by
 have bd:=ok.bd;obtain ⟨h1,h2,h3,h4⟩:=JQ (t:=t) (n:=n) ok op;refine ⟨by simp,by simp;omega,fun w hw=>?_⟩
 by_cases h:w<a.heap.length
 · rw [eA h];exact ok.cells.ev w h
 · have:w=a.heap.length:=by omega
   subst this;rw [gQ (Nat.le_refl _),Nat.sub_self];exact ⟨U8 ok op ht h64 n0 n1,by show 0<=Ev.ix (dN a t n);omega,by show Ev.ix (dN a t n)<_;rw [ok.wl];omega⟩
theorem BO (fit:E4 a) (ht:cH t) (h64:rE t) (n0:0<=n) (n1:n<=1000000) (nn: ∀e∈a.heap,Ev.num e≠n):mC a t n=some (mO a t n,mN a.slots,0):=by
 have bd:=ok.bd;obtain ⟨h1,h2,h3,h4⟩:=JQ (t:=t) (n:=n) ok op;have hn: ¬ ∃w,w<a.heap.length/\(a.heap[w]!).2.2.1=n:=by
  rintro ⟨w,hw,e⟩;exact nn _ (bJ hw) e
 unfold mC;rw [mX a fit,if_pos ok,fP h64,if_pos ht,SS _ _ (by omega),dec_f hn,JN ok.so,if_pos op]
 have se:=PH (u:=(iE a.slots).uses) (us:=(iE a.slots).used) (fr:=(iE a.slots).free) (U8 ok op ht h64 n0 n1) (show 0<=Ev.ix (dN a t n) by omega) (PP ok op ht h64 n0 n1) (by simp) (show a.heap.length<a.heap.length+1 by omega) (show Ev.ix (dN a t n)<a.where_.length by rw [ok.wl];omega)
 have e1:aA .i64 (((a.heap++[dN a t n]).length:Int) -1)=(a.heap.length:Int):=by rw [wi,List.length_append];simp;omega
 have ap:bT a.heap [(t.1,t.2,n,mN a.slots)]=some (a.heap++[dN a t n]):=eC (by simp;omega)
 have se':fG ((iE a.slots).uses,(iE a.slots).used,(iE a.slots).free,(a.heap.length:Int),t.1,t.2,n,(mN a.slots).1,(mN a.slots).2,a.heap++[dN a t n],a.where_)=some (cS (a.heap.length+1) (dN a t n) a.heap.length (a.heap++[dN a t n]) a.where_):=se
 simp only [aD,gt_iff_lt,Int.lt_irrefl,if_false,show ((0:Int) !=0)=false from rfl,cond_false,dec_f (show¬n<0 by omega),dec_f (show¬1000000<n by omega),bC (show a.heap.length<=1048576 by omega),bC (show a.where_.length<=1048576 by omega),ap,aF,e1,se']
 rfl
theorem DV (ht:cH t) (h64:rE t) (n0:0<=n) (n1:n<=1000000):fA a t n=some (mO a t n,mN a.slots):=by
 have bd:=ok.bd;obtain ⟨h1,h2,h3,h4⟩:=JQ (t:=t) (n:=n) ok op;unfold fA;rw [vB ok];have e1:aA .i64 (((a.heap++[dN a t n]).length:Int) -1)=(a.heap.length:Int):=by rw [wi,List.length_append];simp;omega
 have ap:bT a.heap [(t.1,t.2,n,mN a.slots)]=some (a.heap++[dN a t n]):=eC (by simp;omega)
 have hx:=U8 (n:=n) ok op ht h64 n0 n1;have last:cS (a.heap.length+1) (dN a t n) a.heap.length (a.heap++[dN a t n]) a.where_=_:=YI (x:=dN a t n) ht.1 (ST ok op) (YP ok op ht) (fun k k0 hk hp=>by omega)
 have hs:(a.heap++[dN a t n]).set a.heap.length (dN a t n)=a.heap++[dN a t n]:=set_same (by rw [gQ (Nat.le_refl _),Nat.sub_self];rfl)
 have ws:cO a.where_ (mN a.slots).1 (a.heap.length:Int)=a.where_.set (Ev.n (dN a t n)) (a.heap.length:Int):=rfl
 have u1:sH ((iE a.slots).uses,(iE a.slots).used,(iE a.slots).free,(a.heap.length:Int),a.heap++[dN a t n],a.where_.set (Ev.n (dN a t n)) (a.heap.length:Int))=some (((jX (dN a t n) a.heap.length (a.heap++[dN a t n]) a.where_).1:Int),(jX (dN a t n) a.heap.length (a.heap++[dN a t n]) a.where_).2.1.set (jX (dN a t n) a.heap.length (a.heap++[dN a t n]) a.where_).1 (dN a t n),(jX (dN a t n) a.heap.length (a.heap++[dN a t n]) a.where_).2.2.set (Ev.n (dN a t n)) ((jX (dN a t n) a.heap.length (a.heap++[dN a t n]) a.where_).1:Int)):=by
  unfold sH
  have:=aFJ (c0:=((iE a.slots).uses,(iE a.slots).used,(iE a.slots).free,(a.heap.length:Int),a.heap++[dN a t n],a.where_.set (Ev.n (dN a t n)) (a.heap.length:Int))) (u:=(iE a.slots).uses) (us:=(iE a.slots).used) (fr:=(iE a.slots).free) hx (show 0<=Ev.ix (dN a t n) by omega) a.heap.length (a.heap++[dN a t n]) a.where_ (PP ok op ht h64 n0 n1) (by omega) (by simp) (by rw [ok.wl];omega) rfl List.length_set
  rw [hs] at this;exact this
 have g1:aN a.where_ (mN a.slots).1=some a.where_[dH a.slots]!:=aE a.where_ (dH a.slots) (by rw [ok.wl];exact h2)
 simp only [aD,PD ok.so op,ap,g1,aF,e1,ws,u1];unfold mO;rw [last]
end
theorem BP {a:aO} (ok:fE a) (op: ¬DU a.slots) (fit:E4 a) {t:Int×Int} (ht:cH t) (h64:rE t) {n:Int} (n0:0<=n) (n1:n<=1000000) (nn: ∀e∈a.heap,Ev.num e≠n):mC a t n=some (⟨⟨[],[],[]⟩,[],[]⟩,(0,0),18):=by
 have bd:=ok.bd;have hn: ¬ ∃w,w<a.heap.length/\(a.heap[w]!).2.2.1=n:=by
  rintro ⟨w,hw,e⟩;exact nn _ (bJ hw) e
 unfold mC;rw [mX a fit,if_pos ok,fP h64,if_pos ht,SS _ _ (by omega),dec_f hn,JN ok.so,if_neg op]
 simp only [aD,gt_iff_lt,Int.lt_irrefl,if_false,show ((0:Int) !=0)=false from rfl,cond_false,dec_f (show¬n<0 by omega),dec_f (show¬1000000<n by omega),show ((18:Int) !=0)=true from rfl,cond_true]
theorem AE {l:List Ev} {n i:Nat} {v:Ev}:(l.set i v).take n=(l.take n).set i v:=by
 apply List.ext_getElem?;intro j;rw [List.getElem?_take,List.getElem?_set,List.getElem?_set,List.getElem?_take,List.length_take]
 by_cases h1:j<n
 · rw [if_pos h1]
   by_cases h2:i=j
   · subst h2
     by_cases h3:i<l.length
     · rw [if_pos rfl,if_pos h3,if_pos rfl,if_pos (by omega)]
     · rw [if_pos rfl,if_neg h3,if_pos rfl,if_neg (by omega)]
   · rw [if_neg h2,if_neg h2,if_pos h1]
 · rw [if_neg h1]
   by_cases h2:i=j
   · rw [if_pos h2,if_neg (by omega)]
   · rw [if_neg h2,if_neg h1]
theorem YR {n:Nat} {x:Ev}: ∀(i:Nat) (H:List Ev) (W:List Int),i<n->jX x i (H.take n) W=((jX x i H W).1,(jX x i H W).2.1.take n,(jX x i H W).2.2)
 |0,H,W,hi=>by rw [jX,jX]
 |i+1,H,W,hi=>by
  have e:(H.take n)[i / 2]! =H[i / 2]!:=nG (by omega)
  rw [jX,jX,e]
  by_cases h:dW x H[i / 2]!
  · rw [if_pos h,if_pos h,<- AE]
    exact YR (i / 2) _ _ (by omega)
  · rw [if_neg h,if_neg h]
termination_by i=>i
decreasing_by omega
theorem aFM {x:Ev}: ∀(i:Nat) (H:List Ev) (W:List Int),(jX x i H W).1<=i
 |0,H,W=>by rw [jX];exact Nat.le_refl _
 |i+1,H,W=>by
  rw [jX];split
  · exact Nat.le_trans (aFM (i / 2) _ _) (by omega)
  · exact Nat.le_refl _
termination_by i=>i
decreasing_by omega
theorem PQ {n:Nat} {H:List Ev} {i:Nat} (hk:2*i+1<n):iT n (H.take n) i=iT n H i:=by
 unfold iT
 by_cases h:2*i+2<n
 · rw [nG h,nG (show 2*i+1<n by omega)]
 · rw [if_neg (fun k=>h k.1),if_neg (fun k=>h k.1)]
theorem YS {n:Nat} {x:Ev} {i:Nat} {H:List Ev} {W:List Int} (h:2*i+1<n) (hl:dW H[iT n H i]! x):dY n x i H W=dY n x (iT n H i) (H.set i H[iT n H i]!) (W.set (H[iT n H i]!).n (i:Int)):=by
 rw [dY,dif_pos h,if_pos hl]
theorem C5 {n:Nat} {x:Ev} {i:Nat} {H:List Ev} {W:List Int} (h: ¬(2*i+1<n/\dW H[iT n H i]! x)):dY n x i H W=(i,H,W):=by
 rw [dY];split
 · rename_i h1;rw [if_neg (fun k=>h ⟨h1,k⟩)]
 · rfl
theorem PR {n : Nat} {x : Ev} : ∀ (d i : Nat) (H : List Ev) (W : List Int), n - i <= d -> dY n x i (H.take n) W = ((dY n x i H W).1, (dY n x i H W).2.1.take n, (dY n x i H W).2.2)
  | 0, i, H, W, hd => by
    rw [C5 (fun h => by omega), C5 (fun h => by omega)]
  | d + 1, i, H, W, hd => by
    have kc := rG n H i
    by_cases h : 2 * i + 1 < n /\ dW H[iT n H i]! x
    · have e : (H.take n)[iT n (H.take n) i]! = H[iT n H i]! := by rw [PQ h.1, nG (by omega)]
      rw [YS h.1 h.2, YS (H := H.take n) h.1 (by rw [e]; exact h.2), e, PQ h.1, <- AE]
      exact PR d _ _ _ (by omega)
    · have h' : ¬ (2 * i + 1 < n /\ dW (H.take n)[iT n (H.take n) i]! x) := by
        rintro ⟨k1, k2⟩
        rw [PQ k1, nG (by omega)] at k2
        exact h ⟨k1, k2⟩
      rw [C5 h, C5 h']
theorem aCv {x:Ev}: ∀(i:Nat) (H:List Ev) (W:List Int),(jX x i H W).2.1.length=H.length/\(jX x i H W).2.2.length=W.length
 |0,H,W=>by rw [jX];exact ⟨rfl,rfl⟩
 |i+1,H,W=>by
  rw [jX];split
  · have:=aCv (x:=x) (i / 2) (H.set (i+1) H[i / 2]!) (W.set (H[i / 2]!).n ((i+1:Nat):Int))
    rwa [List.length_set,List.length_set] at this
  · exact ⟨rfl,rfl⟩
termination_by i=>i
decreasing_by omega
theorem JS {n:Nat} {x:Ev} {i:Nat} {H:List Ev} {W:List Int} (hi:i<n):cS n x i (H.take n) W=((cS n x i H W).1.take n,(cS n x i H W).2):=by
 unfold cS;rw [YR i H W hi];dsimp only;rw [PR n _ _ _ (by omega)]
 dsimp only;rw [AE]
noncomputable def eT (a:aO) (i:Nat):aO:=
 if i<a.heap.length-1 then ⟨gF a.slots (a.heap[i]!).2.2.2,(cS (a.heap.length-1) a.heap[a.heap.length-1]! i a.heap (a.where_.set (Ev.n a.heap[i]!) (-1))).1.take (a.heap.length-1),(cS (a.heap.length-1) a.heap[a.heap.length-1]! i a.heap (a.where_.set (Ev.n a.heap[i]!) (-1))).2⟩
 else ⟨gF a.slots (a.heap[i]!).2.2.2,a.heap.take (a.heap.length-1),a.where_.set (Ev.n a.heap[i]!) (-1)⟩
section
variable {a : aO} (ok : fE a) {i : Nat} (hi : i < a.heap.length)
include ok hi
theorem BQ {w:Nat} (hw:w<a.heap.length) (hne:w≠i):Ev.n a.heap[w]!≠Ev.n a.heap[i]!:=by
 have h1:=(ok.back hw).1;have h2:=(ok.back hi).1;exact aWC h1 h2 fun h=>hne (ok.inj hw hi h)
theorem SU:oJ (a.heap.length-1) a.heap (a.where_.set (Ev.n a.heap[i]!) (-1)):=by
 have c:=ok.cells;refine ⟨by omega,c.hb,fun w hw=>?_⟩
 rw [List.length_set];exact c.ev w (by omega)
theorem aFN (hlt:i<a.heap.length-1):HW (a.heap.length-1) a.heap[a.heap.length-1]! (fun e=> ∃w,w<a.heap.length-1/\w≠i/\a.heap[w]! =e) a.heap (a.where_.set (Ev.n a.heap[i]!) (-1)) i:=by
 obtain ⟨b1,b2,b3,b4,b5⟩:=ok.back (show a.heap.length-1<a.heap.length by omega)
 refine ⟨hlt,by omega,fun w hw hwi=>?_,b1,by rw [List.length_set,ok.wl];exact b2,fun e=>Iff.rfl⟩
 obtain ⟨c1,c2,c3,c4,c5⟩:=ok.back (show w<a.heap.length by omega)
 refine ⟨c1,by rw [List.length_set,ok.wl];exact c2,?_,fun h=>?_⟩
 · rw [bB,if_neg (fun h=>BQ ok hi (show w<a.heap.length by omega) hwi h.1)]
   exact c5
 · have:=ok.inj (show w<a.heap.length by omega) (show a.heap.length-1<a.heap.length by omega) h
   omega
theorem aNh:IF (a.heap.length-1) a.heap i:=
 ⟨fun w hw=>(ok.ev w (by omega)).den,fun k k0 hk _ _=>ok.ord k k0 (by omega),fun i0 k k0 hk hp=>ok.grand i0 k0 (by omega) hp⟩
theorem L6 (hlt:i<a.heap.length-1):
 F7 (a.heap.length-1) a.heap[a.heap.length-1]! (fun e=> ∃w,w<a.heap.length-1/\w≠i/\a.heap[w]! =e) (fun k=>k≠Ev.n a.heap[a.heap.length-1]!/\ ∀w,w<a.heap.length-1->w≠i->Ev.n a.heap[w]!≠k) a.heap (a.where_.set (Ev.n a.heap[i]!) (-1))
  (cS (a.heap.length-1) a.heap[a.heap.length-1]! i a.heap (a.where_.set (Ev.n a.heap[i]!) (-1))).1 (cS (a.heap.length-1) a.heap[a.heap.length-1]! i a.heap (a.where_.set (Ev.n a.heap[i]!) (-1))).2:=
 E2 (ok.ev (a.heap.length-1) (by omega)).den (aFN ok hi hlt) (aNh ok hi)
theorem SW:fB (gF a.slots (a.heap[i]!).2.2.2):=aFE ok.so (ok.handle hi).1
theorem E6 {j:Nat} (hj:j<a.slots.uses.length):(gF a.slots (a.heap[i]!).2.2.2).used[j]! =if j=Ev.n a.heap[i]! then false else a.slots.used[j]!:=by
 have _:=hi;show (a.slots.used.set (Ev.n a.heap[i]!) false)[j]! =_;rw [bB]
 have:=ok.so.ul
 by_cases e:j=Ev.n a.heap[i]!
 · rw [if_pos ⟨e,by omega⟩,if_pos e]
 · rw [if_neg (fun k=>e k.1),if_neg e]
theorem K9:fE (eT a i):=by
 have hb:=ok.back hi;have hl:a.heap.length-1+(gF a.slots (a.heap[i]!).2.2.2).free.length=a.slots.uses.length:=by
  show a.heap.length-1+(a.slots.free++[_]).length=_;rw [List.length_append]
  have:=ok.hl
  simp only [List.length_cons,List.length_nil];omega
 have un: ∀j,j<a.slots.uses.length->(gF a.slots (a.heap[i]!).2.2.2).used[j]! =false->(a.where_.set (Ev.n a.heap[i]!) (-1))[j]! = -1:=by
  intro j hj hu;rw [E6 ok hi hj] at hu;rw [bB]
  by_cases e:j=Ev.n a.heap[i]!
  · rw [if_pos ⟨e.symm▸rfl,by rw [ok.wl];omega⟩]
  · rw [if_neg e] at hu
    rw [if_neg (fun k=>e k.1)]
    exact ok.un j hj hu
 unfold eT
 by_cases hlt:i<a.heap.length-1
 · rw [if_pos hlt]
   have st:=L6 ok hi hlt;refine AX (SW ok hi) st (by omega) (by rw [List.length_set];exact ok.wl) hl (fun j hj hu=>?_) (fun j hj hu=>⟨⟨?_,fun w hw hwi=>?_⟩,un j hj hu⟩) ?_ ?_
   · change j<a.slots.uses.length at hj
     rw [E6 ok hi hj] at hu
     by_cases e:j=Ev.n a.heap[i]!
     · rw [if_pos e] at hu;cases hu
     · rw [if_neg e] at hu
       obtain ⟨w,hw,e1,e2⟩:=ok.used_ev hj hu;refine ⟨a.heap[w]!,?_,e1,e2⟩
       by_cases hl':w=a.heap.length-1
       · left;rw [hl']
       · refine .inr ⟨w,by omega,fun h=>e ?_,rfl⟩
         rw [<- h];show j=(Ev.ix a.heap[w]!).toNat;omega
   · change j<a.slots.uses.length at hj
     rw [E6 ok hi hj] at hu
     by_cases e:j=Ev.n a.heap[i]!
     · rw [e];exact (BQ ok hi (by omega) (by omega)).symm
     · rw [if_neg e] at hu
       exact (ok.no_ev hu (by omega)).symm
   · change j<a.slots.uses.length at hj
     rw [E6 ok hi hj] at hu
     by_cases e:j=Ev.n a.heap[i]!
     · rw [e];exact BQ ok hi (by omega) hwi
     · rw [if_neg e] at hu
       exact ok.no_ev hu (by omega)
   · rintro e (rfl|⟨w,hw,_,rfl⟩)
     · exact ok.ev _ (by omega)
     · exact ok.ev w (by omega)
   · rintro e f (rfl|⟨v,hv,hvi,rfl⟩) (rfl|⟨w,hw,hwi,rfl⟩) he
     · rfl
     · rw [ok.nums (by omega) (by omega) he]
     · rw [ok.nums (by omega) (by omega) he]
     · rw [ok.nums (by omega) (by omega) he]
 · rw [if_neg hlt]
   have hie:i=a.heap.length-1:=by omega
   refine aN2 (SW ok hi) (fun e=> ∃w,w<a.heap.length-1/\a.heap[w]! =e) (by omega) (by rw [List.length_set];exact ok.wl) hl (fun w hw=>?_) (fun e=>Iff.rfl) (fun k k0 hk=>ok.ord k k0 (by omega)) (fun j hj hu=>?_) un ?_ ?_
   · obtain ⟨c1,c2,c3,c4,c5⟩:=ok.back (show w<a.heap.length by omega)
     refine ⟨c1,by rw [List.length_set,ok.wl];exact c2,?_⟩
     rw [bB,if_neg (fun h=>BQ ok hi (show w<a.heap.length by omega) (by omega) h.1)]
     exact c5
   · change j<a.slots.uses.length at hj
     rw [E6 ok hi hj] at hu
     by_cases e:j=Ev.n a.heap[i]!
     · rw [if_pos e] at hu;cases hu
     · rw [if_neg e] at hu
       obtain ⟨w,hw,e1,e2⟩:=ok.used_ev hj hu;refine ⟨a.heap[w]!,⟨w,?_,rfl⟩,e1,e2⟩
       have:w≠i:=fun h=>e (by rw [<- h];show j=(Ev.ix a.heap[w]!).toNat;omega)
       omega
   · rintro e ⟨w,hw,rfl⟩
     exact ok.ev w (by omega)
   · rintro e f ⟨v,hv,rfl⟩ ⟨w,hw,rfl⟩ he
     rw [ok.nums (by omega) (by omega) he]
theorem PS (e:Ev):e∈(eT a i).heap↔(e∈a.heap/\e≠a.heap[i]!):=by
 have other: ∀w,w<a.heap.length->(a.heap[w]!≠a.heap[i]!↔w≠i):=fun w hw=>⟨fun h k=>h (by rw [k]),fun h k=>h (ok.inj hw hi (by rw [k]))⟩
 unfold eT
 by_cases hlt:i<a.heap.length-1
 · rw [if_pos hlt]
   have st:=L6 ok hi hlt;show e∈(_:List Ev).take _↔_;rw [GX (by rw [st.hl];omega)]
   refine (st.mem e).trans ?_;constructor
   · rintro (h|⟨w,hw,hwi,rfl⟩)
     · rw [h];exact ⟨bJ (by omega),(other _ (by omega)).2 (by omega)⟩
     · exact ⟨bJ (by omega),(other _ (by omega)).2 hwi⟩
   · rintro ⟨h,hne⟩
     obtain ⟨w,hw,rfl⟩:=aW.1 h
     by_cases c:w=a.heap.length-1
     · left;rw [c]
     · exact .inr ⟨w,by omega,(other w hw).1 hne,rfl⟩
 · rw [if_neg hlt]
   show e∈a.heap.take _↔_;rw [GX (by omega)]
   constructor
   · rintro ⟨w,hw,rfl⟩
     exact ⟨bJ (by omega),(other _ (by omega)).2 (by omega)⟩
   · rintro ⟨h,hne⟩
     obtain ⟨w,hw,rfl⟩:=aW.1 h
     have:=(other w hw).1 hne
     exact ⟨w,by omega,rfl⟩
theorem LA:uO a (i:Int)=some (eT a i,a.heap[i]!,0):=by
 have bd:=ok.bd;obtain ⟨b1,b2,b3,b4,b5⟩:=ok.back hi;obtain ⟨c1,c2,c3,c4,c5⟩:=ok.back (show a.heap.length-1<a.heap.length by omega)
 unfold uO;have e1:aA .i64 ((a.heap.length:Int) -1)=((a.heap.length-1:Nat):Int):=qA (by omega) (by omega)
 have g1:aN a.where_ (a.heap[i]!).2.2.2.1=some a.where_[(a.heap[i]!).2.2.2.1.toNat]!:=dX b1 (by rw [ok.wl];exact b2)
 have ws:cO a.where_ (a.heap[i]!).2.2.2.1 (-1)=a.where_.set (Ev.n a.heap[i]!) (-1):=rfl
 simp only [aE a.heap i hi,aD,U2 ok.so (ok.handle hi).1,show ((0:Int) !=0)=false from rfl,cond_false,bC (show a.heap.length<=1048576 by omega),bC (show a.where_.length<=1048576 by omega),aF,e1,aE a.heap (a.heap.length-1) (by omega),lV a.heap (a.heap.length-1) (by omega),g1,ws,Int.toNat_natCast]
 unfold eT
 by_cases hlt:i<a.heap.length-1
 · rw [aK (by omega),if_pos hlt]
   have se:=aAS (cap:=a.heap.length) (u:=(gF a.slots (a.heap[i]!).2.2.2).uses) (us:=(gF a.slots (a.heap[i]!).2.2.2).used) (fr:=(gF a.slots (a.heap[i]!).2.2.2).free) (ok.ev (a.heap.length-1) (by omega)) (show 0<=Ev.ix a.heap[a.heap.length-1]! from c1) (SU ok hi) hlt (show Ev.ix a.heap[a.heap.length-1]!<_ by rw [List.length_set,ok.wl];exact c2)
   rw [se];rfl
 · rw [dec_f (by omega),if_neg hlt]
   rfl
theorem BS (fit:E4 a) {h:Int×Int} (hh:(a.heap[i]!).2.2.2=h):nB a h=some (eT a i,a.heap[i]!,0):=by
 unfold nB;rw [YO ok fit hi hh];simp only [aD,show ((0:Int) !=0)=false from rfl,cond_false,LA ok hi]
theorem BT {h:Int×Int} (hh:(a.heap[i]!).2.2.2=h):kQ a h=some (eT a i):=by
 have bd:=ok.bd;subst hh;obtain ⟨b1,b2,b3,b4,b5⟩:=ok.back hi;obtain ⟨c1,c2,c3,c4,c5⟩:=ok.back (show a.heap.length-1<a.heap.length by omega)
 unfold kQ;rw [vB ok];have e1:aA .i64 ((a.heap.length:Int) -1)=((a.heap.length-1:Nat):Int):=qA (by omega) (by omega)
 have g1:aN a.where_ (a.heap[i]!).2.2.2.1=some (i:Int):=by
  rw [dX (l:=a.where_) b1 (by rw [ok.wl];exact b2)]
  exact congrArg some b5
 have gv:=PC ok.so (ok.handle hi).1;simp only [aD,g1,aF,e1,Int.toNat_natCast];unfold eT
 by_cases hlt:i<a.heap.length-1
 · rw [cQ (show (i:Int)≠((a.heap.length-1:Nat):Int) by omega),if_pos hlt]
   have hne:a.heap.length-1≠i:=by omega
   have nn:Ev.n a.heap[a.heap.length-1]!≠Ev.n a.heap[i]!:=BQ ok hi (by omega) hne
   have sw:=JP (n:=a.heap.length) (x:=a.heap[i]!) (u:=a.slots.uses) (us:=a.slots.used) (fr:=a.slots.free) (H:=a.heap) (W:=a.where_) hi (show a.heap.length-1<a.heap.length by omega) hne rfl b1 (by rw [ok.wl];exact b2) c1 (by rw [ok.wl];exact c2)
   rw [set_same (l:=a.heap) rfl,set_same (l:=a.where_) b5] at sw;have hs:(a.heap.set i a.heap[a.heap.length-1]!).set (a.heap.length-1) a.heap[i]! =(a.heap.set (a.heap.length-1) a.heap[i]!).set i a.heap[a.heap.length-1]!:=List.set_comm _ _ (by omega)
   have ws:cO ((a.where_.set (Ev.n a.heap[a.heap.length-1]!) (i:Int)).set (Ev.n a.heap[i]!) ((a.heap.length-1:Nat):Int)) (a.heap[i]!).2.2.2.1 (-1)=(a.where_.set (Ev.n a.heap[i]!) (-1)).set (Ev.n a.heap[a.heap.length-1]!) (i:Int):=by
    show ((a.where_.set (Ev.n a.heap[a.heap.length-1]!) (i:Int)).set (Ev.n a.heap[i]!) ((a.heap.length-1:Nat):Int)).set (Ev.n a.heap[i]!) (-1)=_;rw [List.set_set,List.set_comm _ _ nn]
   have g2:aN ((a.where_.set (Ev.n a.heap[a.heap.length-1]!) (i:Int)).set (Ev.n a.heap[i]!) ((a.heap.length-1:Nat):Int)) (a.heap[i]!).2.2.2.1=some _:=dX b1 (by rw [List.length_set,List.length_set,ok.wl];exact b2)
   have cells:oJ (a.heap.length-1) (a.heap.set (a.heap.length-1) a.heap[i]!) (a.where_.set (Ev.n a.heap[i]!) (-1)):=by
    refine ⟨by rw [List.length_set];omega,by rw [List.length_set];omega,fun w hw=>?_⟩
    rw [bB,if_neg (by omega)]
    exact (SU ok hi).ev w hw
   have x1:Ev.ix a.heap[a.heap.length-1]!<(a.where_.set (Ev.n a.heap[i]!) (-1)).length:=by rw [List.length_set,ok.wl];exact c2
   have hx:=ok.ev (a.heap.length-1) (by omega)
   have gv':rA (aV.mk a.slots.uses a.slots.used a.slots.free) (a.heap[i]!).2.2.2=some (gF a.slots (a.heap[i]!).2.2.2):=gv;have tk:(a.heap.set (a.heap.length-1) a.heap[i]!).take (a.heap.length-1)=a.heap.take (a.heap.length-1):=by rw [AE];exact List.set_eq_of_length_le (by rw [List.length_take];omega)
   have U:oF ((gF a.slots (a.heap[i]!).2.2.2).uses,(gF a.slots (a.heap[i]!).2.2.2).used,(gF a.slots (a.heap[i]!).2.2.2).free,a.heap.length-1,((a.heap.set (a.heap.length-1) a.heap[i]!).set i a.heap[a.heap.length-1]!).length,(i:Int),(a.heap.set (a.heap.length-1) a.heap[i]!).set i a.heap[a.heap.length-1]!,(a.where_.set (Ev.n a.heap[i]!) (-1)).set (Ev.n a.heap[a.heap.length-1]!) (i:Int))=
    some (((jX a.heap[a.heap.length-1]! i (a.heap.set (a.heap.length-1) a.heap[i]!) (a.where_.set (Ev.n a.heap[i]!) (-1))).1:Int),(jX a.heap[a.heap.length-1]! i (a.heap.set (a.heap.length-1) a.heap[i]!) (a.where_.set (Ev.n a.heap[i]!) (-1))).2.1.set (jX a.heap[a.heap.length-1]! i (a.heap.set (a.heap.length-1) a.heap[i]!) (a.where_.set (Ev.n a.heap[i]!) (-1))).1 a.heap[a.heap.length-1]!,(jX a.heap[a.heap.length-1]! i (a.heap.set (a.heap.length-1) a.heap[i]!) (a.where_.set (Ev.n a.heap[i]!) (-1))).2.2.set (Ev.n a.heap[a.heap.length-1]!) ((jX a.heap[a.heap.length-1]! i (a.heap.set (a.heap.length-1) a.heap[i]!) (a.where_.set (Ev.n a.heap[i]!) (-1))).1:Int)):=by
    unfold oF
    exact aFG (n:=a.heap.length-1) (c0:=((gF a.slots (a.heap[i]!).2.2.2).uses,(gF a.slots (a.heap[i]!).2.2.2).used,(gF a.slots (a.heap[i]!).2.2.2).free,a.heap.length-1,((a.heap.set (a.heap.length-1) a.heap[i]!).set i a.heap[a.heap.length-1]!).length,(i:Int),(a.heap.set (a.heap.length-1) a.heap[i]!).set i a.heap[a.heap.length-1]!,(a.where_.set (Ev.n a.heap[i]!) (-1)).set (Ev.n a.heap[a.heap.length-1]!) (i:Int))) hx c1 i _ _ cells hlt x1 List.length_set List.length_set
   have ul:=aFM (x:=a.heap[a.heap.length-1]!) i (a.heap.set (a.heap.length-1) a.heap[i]!) (a.where_.set (Ev.n a.heap[i]!) (-1));have un:=aCv (x:=a.heap[a.heap.length-1]!) i (a.heap.set (a.heap.length-1) a.heap[i]!) (a.where_.set (Ev.n a.heap[i]!) (-1));have uc:=fun w hw=>E3 (x:=a.heap[a.heap.length-1]!) cells hlt (i:=i) rfl w hw
   have cells1:oJ (a.heap.length-1) (jX a.heap[a.heap.length-1]! i (a.heap.set (a.heap.length-1) a.heap[i]!) (a.where_.set (Ev.n a.heap[i]!) (-1))).2.1 (jX a.heap[a.heap.length-1]! i (a.heap.set (a.heap.length-1) a.heap[i]!) (a.where_.set (Ev.n a.heap[i]!) (-1))).2.2:=by
    refine ⟨by rw [un.1,List.length_set];omega,by rw [un.1,List.length_set];omega,fun w hw=>?_⟩
    rw [un.2];exact uc w hw
   have D:lM ((gF a.slots (a.heap[i]!).2.2.2).uses,(gF a.slots (a.heap[i]!).2.2.2).used,(gF a.slots (a.heap[i]!).2.2.2).free,a.heap.length-1,((a.heap.set (a.heap.length-1) a.heap[i]!).set i a.heap[a.heap.length-1]!).length,((jX a.heap[a.heap.length-1]! i (a.heap.set (a.heap.length-1) a.heap[i]!) (a.where_.set (Ev.n a.heap[i]!) (-1))).1:Int),(jX a.heap[a.heap.length-1]! i (a.heap.set (a.heap.length-1) a.heap[i]!) (a.where_.set (Ev.n a.heap[i]!) (-1))).2.1.set (jX a.heap[a.heap.length-1]! i (a.heap.set (a.heap.length-1) a.heap[i]!) (a.where_.set (Ev.n a.heap[i]!) (-1))).1 a.heap[a.heap.length-1]!,(jX a.heap[a.heap.length-1]! i (a.heap.set (a.heap.length-1) a.heap[i]!) (a.where_.set (Ev.n a.heap[i]!) (-1))).2.2.set (Ev.n a.heap[a.heap.length-1]!) ((jX a.heap[a.heap.length-1]! i (a.heap.set (a.heap.length-1) a.heap[i]!) (a.where_.set (Ev.n a.heap[i]!) (-1))).1:Int))=
    some (cS (a.heap.length-1) a.heap[a.heap.length-1]! i (a.heap.set (a.heap.length-1) a.heap[i]!) (a.where_.set (Ev.n a.heap[i]!) (-1))):=by
    unfold lM
    exact YJ (n:=a.heap.length-1) (c0:=((gF a.slots (a.heap[i]!).2.2.2).uses,(gF a.slots (a.heap[i]!).2.2.2).used,(gF a.slots (a.heap[i]!).2.2.2).free,a.heap.length-1,((a.heap.set (a.heap.length-1) a.heap[i]!).set i a.heap[a.heap.length-1]!).length,((jX a.heap[a.heap.length-1]! i (a.heap.set (a.heap.length-1) a.heap[i]!) (a.where_.set (Ev.n a.heap[i]!) (-1))).1:Int),(jX a.heap[a.heap.length-1]! i (a.heap.set (a.heap.length-1) a.heap[i]!) (a.where_.set (Ev.n a.heap[i]!) (-1))).2.1.set (jX a.heap[a.heap.length-1]! i (a.heap.set (a.heap.length-1) a.heap[i]!) (a.where_.set (Ev.n a.heap[i]!) (-1))).1 a.heap[a.heap.length-1]!,(jX a.heap[a.heap.length-1]! i (a.heap.set (a.heap.length-1) a.heap[i]!) (a.where_.set (Ev.n a.heap[i]!) (-1))).2.2.set (Ev.n a.heap[a.heap.length-1]!) ((jX a.heap[a.heap.length-1]! i (a.heap.set (a.heap.length-1) a.heap[i]!) (a.where_.set (Ev.n a.heap[i]!) (-1))).1:Int))) hx c1 a.heap.length (jX a.heap[a.heap.length-1]! i (a.heap.set (a.heap.length-1) a.heap[i]!) (a.where_.set (Ev.n a.heap[i]!) (-1))).1 (jX a.heap[a.heap.length-1]! i (a.heap.set (a.heap.length-1) a.heap[i]!) (a.where_.set (Ev.n a.heap[i]!) (-1))).2.1 (jX a.heap[a.heap.length-1]! i (a.heap.set (a.heap.length-1) a.heap[i]!) (a.where_.set (Ev.n a.heap[i]!) (-1))).2.2 (by omega) cells1 (by omega) (by rw [un.2];exact x1) List.length_set List.length_set
   have st:=JS (n:=(a.heap.length-1)) (x:=a.heap[a.heap.length-1]!) (i:=i) (H:=(a.heap.set (a.heap.length-1) a.heap[i]!)) (W:=(a.where_.set (Ev.n a.heap[i]!) (-1))) hlt;have st2:=JS (n:=(a.heap.length-1)) (x:=a.heap[a.heap.length-1]!) (i:=i) (H:=a.heap) (W:=(a.where_.set (Ev.n a.heap[i]!) (-1))) hlt;rw [tk,st2] at st;injection st with st1 st3
   simp only [cond_true,sw,aD,lV _ (a.heap.length-1) (show a.heap.length-1<=((a.heap.set (a.heap.length-1) a.heap[i]!).set i a.heap[a.heap.length-1]!).length by rw [List.length_set,List.length_set];omega),g2,gv',ws,hs,U,D,<- st1,<- st3]
 · rw [bS (show (i:Int)=((a.heap.length-1:Nat):Int) by omega),if_neg hlt]
   have ws:cO a.where_ (a.heap[i]!).2.2.2.1 (-1)=a.where_.set (Ev.n a.heap[i]!) (-1):=rfl;simp only [cond_false,lV a.heap (a.heap.length-1) (by omega),aD,gv,ws]
end
abbrev wO:=Int×Int×Int
theorem fE.fit {a:aO} (ok:fE a):E4 a:=by
 have bd:=ok.bd
 have:=ok.so.fl
 have:=ok.so.n2
 exact ⟨by omega,by omega,by omega,fun w hw=>(ok.ev w hw).2.1⟩
theorem GA (l:List wO) (id:Int) (hl:l.length<=1000000) (hs: ∀i j,i<j->j<l.length->(l[i]!).1<(l[j]!).1):
 (∀k,k<l.length->(l[k]!).1=id->aR l id ()=some ((k:Int),true))/\
 ((∀k,k<l.length->(l[k]!).1≠id)-> ∃m,m<=l.length/\(∀i,i<m->(l[i]!).1<id)/\(∀i,m<=i->i<l.length->id<(l[i]!).1)/\aR l id ()=some ((m:Int),false)):=by
 obtain ⟨m,m1,m2,m3⟩:=YH (fun i=>(l[i]!).1) id l.length hs
 have run:aR l id ()=aH aS (l,id,(l.length:Int),(m:Int),(m:Int)):=by
  unfold aR;refine K5 (body:=aS) (fun lo hi=>(l,id,(l.length:Int),(lo:Int),(hi:Int))) l.length m (fun i=>(l[i]!).1<id) (fun lo hi h1 h2=>?_) m2 (fun i h1 h2 h3=>by have:=m3 i h1 h2;omega) l.length 0 l.length (by omega) (by omega) m1 (Nat.le_refl _)
  have e1:decide ((lo:Int)<(hi:Int))=true:=aK (by omega)
  have hh:=aNb (a:=lo) (b:=hi) (by omega) (by omega)
  unfold aS vR;simp only [e1,cond_true,hh,aE l ((lo+hi) / 2) (by omega),lT,aD,aT (show (lo+hi) / 2<1000000000 by omega)]
  constructor
  · intro h
    have:decide (kX (l[(lo+hi) / 2]!).1 id<0)=true:=by
     rcases gR (l[(lo+hi) / 2]!).1 id with ⟨a,e⟩|⟨a,e⟩|⟨a,e⟩<;>rw [e]<;>first|rfl|omega
    rw [this];rfl
  · intro h
    have:decide (kX (l[(lo+hi) / 2]!).1 id<0)=false:=by
     rcases gR (l[(lo+hi) / 2]!).1 id with ⟨a,e⟩|⟨a,e⟩|⟨a,e⟩<;>rw [e]<;>first|rfl|omega
    rw [this];rfl
 have fin:aH aS (l,id,(l.length:Int),(m:Int),(m:Int))=if m<l.length/\(l[m]!).1=id then some ((m:Int),true) else some ((m:Int),false):=by
  have e1:decide ((m:Int)<(m:Int))=false:=dec_f (by omega)
  by_cases hm:m<l.length
  · have e2:decide ((m:Int)<(l.length:Int))=true:=aK (by omega)
    have body:aS (l,id,(l.length:Int),(m:Int),(m:Int))=some (.done ((m:Int),kX (l[m]!).1 id==0)):=by
     unfold aS vR;simp only [e1,e2,cond_true,cond_false,aE l m hm,lT,aD]
    rw [aL body];rcases gR (l[m]!).1 id with ⟨a,e⟩|⟨a,e⟩|⟨a,e⟩
    · rw [e,if_neg (fun h=>by omega)];rfl
    · rw [e,if_pos ⟨hm,a⟩];rfl
    · rw [e,if_neg (fun h=>by omega)];rfl
  · have e2:decide ((m:Int)<(l.length:Int))=false:=dec_f (by omega)
    have body:aS (l,id,(l.length:Int),(m:Int),(m:Int))=some (.done ((m:Int),false)):=by
     unfold aS;simp only [e1,e2,cond_false]
    rw [aL body,if_neg (fun h=>hm h.1)]
 rw [run,fin];constructor
 · intro k hk he
   have hkm:k=m:=by
    rcases Nat.lt_trichotomy k m with h|h|h
    · have:=m2 k h;omega
    · exact h
    · have h1:=m3 m (Nat.le_refl _) (by omega)
      have h2:=hs m k h hk;omega
   subst hkm;rw [if_pos ⟨hk,he⟩]
 · intro h
   refine ⟨m,m1,m2,fun i h1 h2=>?_,?_⟩
   · have:=m3 i h1 h2
     have:=h i h2
     omega
   · rw [if_neg (fun k=>h m k.1 k.2)]
theorem aTW:dJ=aR:=rfl
theorem aFO:dG=aR:=rfl
theorem aNi:dI=aR:=rfl
theorem yN {α:Type} (l:List α) (k:Nat):l.eraseIdx k=l.take k++l.drop (k+1):=List.eraseIdx_eq_take_drop_succ l k
theorem L7 (l:List wO) (k:Nat) (hk:k<l.length): ∃L:List wO,eI ((k:Int),((k+1:Nat):Int),l)=some (l.length-1,l.length,L)/\L.take (l.length-1)=l.eraseIdx k:=by
 unfold eI;have e1:decide ((0:Int)<=(k:Int))=true:=aK (by omega)
 have e2:decide ((k:Int)<=((k+1:Nat):Int))=true:=aK (by omega)
 have e3:decide (((k+1:Nat):Int)<=(l.length:Int))=true:=aK (by omega)
 have e4:decide ((l.length:Int)<=(l.length:Int))=true:=aK (by omega)
 have e5:((k:Int)==((k+1:Nat):Int))=false:=eJ (by omega)
 have e6:decide ((0:Int)<=((k+1:Nat):Int))=true:=aK (by omega)
 have e7:decide ((k:Int)<=(l.length:Int))=true:=aK (by omega)
 have dr:(l.drop (k+1)).take (l.length- (k+1))=l.drop (k+1):=List.take_of_length_le (by rw [List.length_drop];exact Nat.le_refl _)
 have dl:(l.drop (k+1)).length=l.length- (k+1):=List.length_drop;simp only [aF,e1,e2,e3,e4,e5,e6,e7,Bool.and_self,cond_true,cond_false,lV l k (by omega),aD,Int.toNat_natCast,Nat.zero_add,dr,dl,Bool.not_false,Bool.and_true]
 by_cases h:k+1=l.length
 · have em:(l.drop (k+1)).isEmpty=true:=by rw [List.isEmpty_iff,List.drop_eq_nil_iff];omega
   have n1:Nat.beq (l.length-k) 0=false:=by
    cases hb:Nat.beq (l.length-k) 0 with
    |false=>rfl
    |true=>have:=Nat.eq_of_beq_eq_true hb;omega
   have n2:Nat.ble (k+(l.length-k)) l.length=true:=Nat.ble_eq_true_of_le (by omega)
   have ll:(jJ l k (List.replicate (l.length-k) ((0:Int),(0:Int),(0:Int)))).length=l.length:=by
    unfold jJ;simp;omega
   simp only [em,cond_true,n1,cond_false,n2,ll,beq_self_eq_true];refine ⟨_,by rw [show k=l.length-1 by omega],?_⟩
   rw [yN,show l.length-1=k by omega]
   unfold jJ;rw [List.append_assoc,List.take_append_of_le_length (by rw [List.length_take];omega),List.take_take,Nat.min_self]
   rw [List.drop_eq_nil_of_le (by omega),List.append_nil]
 · have em:(l.drop (k+1)).isEmpty=false:=by
    cases hb:(l.drop (k+1)).isEmpty with
    |false=>rfl
    |true=>rw [List.isEmpty_iff,List.drop_eq_nil_iff] at hb;omega
   have n1:Nat.ble (k+(l.length- (k+1))) l.length=true:=Nat.ble_eq_true_of_le (by omega)
   have n2:decide ((0:Int)<=((k+(l.length- (k+1)):Nat):Int))=true:=aK (by omega)
   have n3:decide (((k+(l.length- (k+1)):Nat):Int)<=(l.length:Int))=true:=aK (by omega)
   have n4:Nat.beq (l.length- (k+(l.length- (k+1)))) 0=false:=by
    cases hb:Nat.beq (l.length- (k+(l.length- (k+1)))) 0 with
    |false=>rfl
    |true=>have:=Nat.eq_of_beq_eq_true hb;omega
   have l1:(jJ l k (l.drop (k+1))).length=l.length:=by
    unfold jJ;simp;omega
   have n5:Nat.ble (k+(l.length- (k+1))+(l.length- (k+(l.length- (k+1))))) l.length=true:=Nat.ble_eq_true_of_le (by omega)
   have l2:(jJ (jJ l k (l.drop (k+1))) (k+(l.length- (k+1))) (List.replicate (l.length- (k+(l.length- (k+1)))) ((0:Int),(0:Int),(0:Int)))).length=l.length:=by
    unfold jJ;simp;omega
   simp only [em,cond_false,n1,cond_true,n2,n3,Bool.and_self,n4,l1,n5,l2,beq_self_eq_true];refine ⟨_,by rw [show k+(l.length- (k+1))=l.length-1 by omega],?_⟩
   rw [yN]
   have:k+(l.length- (k+1))=l.length-1:=by omega
   unfold jJ;rw [List.append_assoc,List.take_append_of_le_length (by simp;omega),List.take_take,Nat.min_self,List.append_assoc]
   rw [show (l.take k++(l.drop (k+1)++l.drop (k+(l.drop (k+1)).length)))=(l.take k++l.drop (k+1))++l.drop (k+(l.drop (k+1)).length) by rw [List.append_assoc]]
   rw [List.take_append_of_le_length (by simp;omega),List.take_of_length_le (by simp;omega)]
theorem aAU:mI=eI:=rfl
theorem PU {α:Type} [Inhabited α] {l:List α} {k i:Nat}:(l.eraseIdx k)[i]! =if i<k then l[i]! else l[i+1]!:=by
 rw [yN]
 by_cases hk:k<l.length
 · by_cases h:i<k
   · rw [if_pos h,eA (by rw [List.length_take];omega),nG h]
   · rw [if_neg h,gQ (by rw [List.length_take];omega),tX,List.length_take]
     congr 1;omega
 · have e1:l.take k=l:=List.take_of_length_le (by omega)
   have e2:l.drop (k+1)=[]:=List.drop_eq_nil_of_le (by omega)
   rw [e1,e2,List.append_nil];split
   · rfl
   · rw [getElem!_neg l i (by omega),getElem!_neg l (i+1) (by omega)]
def gA (x:Int×Int):Prop:=0<=x.1/\x.1<=65535/\0<=x.2/\x.2<=65535/\x.1≠x.2
theorem GY (x:Int×Int):yA x=some (decide (gA x)):=by
 obtain ⟨a,b⟩:=x;unfold yA;dsimp only
 by_cases h1:0<=a
 · by_cases h3:0<=b
   · have e1:decide (0<=if b<a then b else a)=true:=aK (by split<;>omega)
     rw [e1]
     by_cases h2:a<=65535
     · by_cases h4:b<=65535
       · have e2:decide ((if b>a then b else a)<=65535)=true:=aK (by split<;>omega)
         rw [e2]
         by_cases h5:a=b
         · rw [bS h5,dec_f (p:=gA (a,b)) (fun h=>h.2.2.2.2 h5)];rfl
         · rw [cQ h5,aK (p:=gA (a,b)) ⟨h1,h2,h3,h4,h5⟩];rfl
       · have e2:decide ((if b>a then b else a)<=65535)=false:=dec_f (by split<;>omega)
         rw [e2,dec_f (p:=gA (a,b)) (fun h=>h4 h.2.2.2.1)];rfl
     · have e2:decide ((if b>a then b else a)<=65535)=false:=dec_f (by split<;>omega)
       rw [e2,dec_f (p:=gA (a,b)) (fun h=>h2 h.2.1)];rfl
   · have e1:decide (0<=if b<a then b else a)=false:=dec_f (by split<;>omega)
     rw [e1,dec_f (p:=gA (a,b)) (fun h=>h3 h.2.2.1)];rfl
 · have e1:decide (0<=if b<a then b else a)=false:=dec_f (by split<;>omega)
   rw [e1,dec_f (p:=gA (a,b)) (fun h=>h1 h.1)];rfl
theorem GZ (x:Int×Int):yG x=some (decide (gA x)):=by
 obtain ⟨a,b⟩:=x;unfold yG;dsimp only
 by_cases h1:0<=a
 · by_cases h2:a<=65535
   · by_cases h3:0<=b
     · by_cases h4:b<=65535
       · by_cases h5:a=b
         · rw [bS h5,aK h1,aK h2,aK h3,aK h4,dec_f (p:=gA (a,b)) (fun h=>h.2.2.2.2 h5)];rfl
         · rw [cQ h5,aK h1,aK h2,aK h3,aK h4,aK (p:=gA (a,b)) ⟨h1,h2,h3,h4,h5⟩];rfl
       · rw [aK h1,aK h2,aK h3,dec_f h4,dec_f (p:=gA (a,b)) (fun h=>h4 h.2.2.2.1)];rfl
     · rw [aK h1,aK h2,dec_f h3,dec_f (p:=gA (a,b)) (fun h=>h3 h.2.2.1)];rfl
   · rw [aK h1,dec_f h2,dec_f (p:=gA (a,b)) (fun h=>h2 h.2.1)];rfl
 · rw [dec_f h1,dec_f (p:=gA (a,b)) (fun h=>h1 h.1)];rfl
structure fC (c:bI):Prop where
 len:c.list.length<=200
 n0:0<=c.next_
 n1:c.next_<=1000000
 cv: ∀i,i<c.list.length->gA (c.list[i]!).2
 nr: ∀i,i<c.list.length->0<=(c.list[i]!).1/\(c.list[i]!).1<c.next_
 up: ∀i j,i<j->j<c.list.length->(c.list[i]!).1<(c.list[j]!).1
 nd: ∀i j,i<j->j<c.list.length->(c.list[i]!).2≠(c.list[j]!).2
def E7 (l:List wO) (i:Nat):Int:=if i=0 then -1 else (l[i-1]!).1
def aAV (c:bI) (i:Nat):Prop:=gA (c.list[i]!).2/\(∀j,j<i->(c.list[j]!).2≠(c.list[i]!).2)/\E7 c.list i<(c.list[i]!).1/\(c.list[i]!).1<c.next_
theorem fC.iff {c:bI} (h1:c.list.length<=200) (h2:0<=c.next_) (h3:c.next_<=1000000):fC c↔ ∀i,i<c.list.length->aAV c i:=by
 constructor
 · intro ok i hi
   refine ⟨ok.cv i hi,fun j hj=>ok.nd j i hj hi,?_,(ok.nr i hi).2⟩
   unfold E7;split
   · have:=(ok.nr i hi).1;omega
   · exact ok.up (i-1) i (by omega) hi
 · intro h
   have low: ∀i,i<c.list.length->0<=(c.list[i]!).1:=by
    intro i
    induction i with
    |zero=>
     intro hi
     have:=(h 0 hi).2.2.1
     unfold E7 at this;rw [if_pos rfl] at this;omega
    |succ i ih=>
     intro hi;have h1:=(h (i+1) hi).2.2.1;unfold E7 at h1;rw [if_neg (by omega),show i+1-1=i by omega] at h1
     have:=ih (by omega)
     omega
   have up: ∀i j,i<j->j<c.list.length->(c.list[i]!).1<(c.list[j]!).1:=by
    intro i j
    induction j with
    |zero=>intro h;omega
    |succ j ih=>
     intro hij hj;have h1:=(h (j+1) hj).2.2.1;unfold E7 at h1;rw [if_neg (by omega),show j+1-1=j by omega] at h1
     by_cases e:i=j
     · subst e;exact h1
     · have:=ih (by omega) (by omega)
       omega
   exact ⟨h1,h2,h3,fun i hi=>(h i hi).1,fun i hi=>⟨low i hi,(h i hi).2.2.2⟩,up,fun i j hij hj=>(h j hj).2.1 i hij⟩
theorem PW (l:List wO) (k:Nat) (a b:Int):rT [a,b] ((l.take k).map fun x=>[x.2.1,x.2.2])=true:=by
 unfold rT;rw [List.all_eq_true];intro x hx;obtain ⟨y,hy,rfl⟩:=List.mem_map.1 hx;rfl
theorem PX (l:List wO) (k:Nat) (x:Int×Int):MI ((l.take k).map fun y=>[y.2.1,y.2.2]) [x.1,x.2]=decide (∃j,j<k/\j<l.length/\(l[j]!).2=x):=by
 unfold MI;rw [Bool.eq_iff_iff,List.any_eq_true,decide_eq_true_iff];constructor
 · rintro ⟨y,hy,he⟩
   obtain ⟨z,hz,rfl⟩:=List.mem_map.1 hy;obtain ⟨j,h1,h2,rfl⟩:=cD.1 hz
   have:[x.1,x.2]=[(l[j]!).2.1,(l[j]!).2.2]:=by simpa using he
   injection this with e1 e2;injection e2 with e2 _;exact ⟨j,h1,h2,Prod.ext e1.symm e2.symm⟩
 · rintro ⟨j,h1,h2,h3⟩
   refine ⟨[(l[j]!).2.1,(l[j]!).2.2],List.mem_map.2 ⟨l[j]!,cD.2 ⟨j,h1,h2,rfl⟩,rfl⟩,?_⟩;rw [h3];simp
theorem AY (c:bI):tN c=some (if fC c then 0 else 8):=by
 unfold tN;simp only [aF]
 by_cases h1:200<c.list.length
 · rw [aK (show (200:Int)<(c.list.length:Int) by omega),if_neg (fun h=>by have:=h.len;omega)];rfl
 rw [dec_f (show¬(200:Int)<(c.list.length:Int) by omega)]
 by_cases h2:c.next_<0
 · rw [aK h2,if_neg (fun h=>by have:=h.n0;omega)];rfl
 rw [dec_f h2]
 by_cases h3:1000000<c.next_
 · rw [aK h3,if_neg (fun h=>by have:=h.n1;omega)];rfl
 rw [dec_f h3];simp only [cond_false];have key:=dK (body:=uL) (fun i=>(E7 c.list i,c.list,(c.list.length:Int),(i:Int),c.next_,c.list,(c.list.take i).map fun x=>[x.2.1,x.2.2])) c.list.length (fun i=> ¬aAV c i) (r:=8) (e:=0) (fun i hi=>by
  have e1:decide ((i:Int)<(c.list.length:Int))=true:=aK (by omega)
  have has:WJ ((c.list.take i).map fun x=>[x.2.1,x.2.2]) [(c.list[i]!).2.1,(c.list[i]!).2.2]=some (decide (∃j,j<i/\j<c.list.length/\(c.list[j]!).2=(c.list[i]!).2)):=by
   unfold WJ;rw [PW,PX];rfl
  have nx:(c.list.take (i+1)).map (fun x=>[x.2.1,x.2.2])=((c.list.take i).map fun x=>[x.2.1,x.2.2])++[[(c.list[i]!).2.1,(c.list[i]!).2.2]]:=by
   rw [fQ hi,List.map_append];rfl
  have ln:E7 c.list (i+1)=(c.list[i]!).1:=by unfold E7;rw [if_neg (by omega),show i+1-1=i by omega]
  unfold uL;simp only [e1,cond_true,aE c.list i hi,aD,GY,has,nx,ln,aT (show i<1000000000 by omega)]
  unfold aAV
  by_cases b1:gA (c.list[i]!).2
  case neg=>
   rw [dec_f b1];exact ⟨fun _=>rfl,fun h=>absurd (Classical.not_not.1 h).1 b1⟩
  rw [aK b1]
  by_cases b2: ∃j,j<i/\j<c.list.length/\(c.list[j]!).2=(c.list[i]!).2
  · rw [aK b2]
    refine ⟨fun _=>rfl,fun h=>?_⟩
    obtain ⟨j,j1,j2,j3⟩:=b2;exact absurd j3 ((Classical.not_not.1 h).2.1 j j1)
  rw [dec_f b2];have b2': ∀j,j<i->(c.list[j]!).2≠(c.list[i]!).2:=fun j hj he=>b2 ⟨j,hj,by omega,he⟩
  by_cases b3:(c.list[i]!).1<=E7 c.list i
  · rw [aK b3]
    exact ⟨fun _=>rfl,fun h=>absurd (Classical.not_not.1 h).2.2.1 (by omega)⟩
  rw [dec_f b3]
  by_cases b4:c.next_<=(c.list[i]!).1
  · rw [aK b4]
    exact ⟨fun _=>rfl,fun h=>absurd (Classical.not_not.1 h).2.2.2 (by omega)⟩
  rw [dec_f b4];have ins:WK ((c.list.take i).map fun x=>[x.2.1,x.2.2]) [(c.list[i]!).2.1,(c.list[i]!).2.2]=some (((c.list.take i).map fun x=>[x.2.1,x.2.2])++[[(c.list[i]!).2.1,(c.list[i]!).2.2]]):=by
   unfold WK Z2;rw [PW,PX,dec_f b2];rfl
  rw [ins];exact ⟨fun h=>absurd ⟨b1,b2',by omega,by omega⟩ h,fun _=>rfl⟩) (by
  unfold uL
  have:decide ((c.list.length:Int)<(c.list.length:Int))=false:=dec_f (by omega)
  simp only [this,cond_false])
 have h0:E7 c.list 0= -1:=rfl;rw [h0] at key
 by_cases ok:fC c
 · rw [if_pos ok]
   exact key.2 fun i hi=>Classical.not_not.2 ((fC.iff (by omega) (by omega) (by omega)).1 ok i hi)
 · rw [if_neg ok]
   rw [fC.iff (by omega) (by omega) (by omega)] at ok
   obtain ⟨i,h⟩:=Classical.not_forall.1 ok;obtain ⟨hi,hx⟩:=Classical.not_imp.1 h;exact key.1 ⟨i,hi,hx⟩
theorem YT (c:bI) (i:Nat) (hi:i<c.list.length) (hl:c.list.length<=200):
 ((∃j,j<i/\(c.list[j]!).2=(c.list[i]!).2)->aH gP ((i:Int),0,c.next_,c.list,c.list[i]!)=some (.done 8))/\
 ((∀j,j<i-> ¬(c.list[j]!).2=(c.list[i]!).2)->aH gP ((i:Int),0,c.next_,c.list,c.list[i]!)=some (.next (((i+1:Nat):Int),c.next_,c.list))):=by
 refine dK (body:=gP) (fun j=>((i:Int),(j:Int),c.next_,c.list,c.list[i]!)) i (fun j=>(c.list[j]!).2=(c.list[i]!).2) (r:= .done 8) (e:= .next (((i+1:Nat):Int),c.next_,c.list)) (fun j hj=>?_) ?_
 · have e1:decide ((j:Int)<(i:Int))=true:=aK (by omega)
   unfold gP;simp only [e1,cond_true,aE c.list j (by omega),aD,aT (show j<1000000000 by omega)]
   generalize c.list[j]! =x;generalize c.list[i]! =y;constructor
   · intro h;rw [eV (congrArg Prod.fst h),eV (congrArg Prod.snd h)];rfl
   · intro h
     by_cases h1:x.2.1=y.2.1
     · rw [eV h1,eJ (fun h2=>h (Prod.ext h1 h2))];rfl
     · rw [eJ h1];rfl
 · unfold gP
   have:decide ((i:Int)<(i:Int))=false:=dec_f (by omega)
   simp only [this,cond_false,aT (show i<1000000000 by omega)]
theorem E8 (c:bI):vX c=some (if fC c then 0 else 8):=by
 unfold vX;simp only [aF]
 by_cases h1:200<c.list.length
 · rw [aK (show (200:Int)<(c.list.length:Int) by omega),if_neg (fun h=>by have:=h.len;omega)];rfl
 rw [dec_f (show¬(200:Int)<(c.list.length:Int) by omega)]
 by_cases h2:c.next_<0
 · rw [aK h2,if_neg (fun h=>by have:=h.n0;omega)];rfl
 rw [dec_f h2]
 by_cases h3:1000000<c.next_
 · rw [aK h3,if_neg (fun h=>by have:=h.n1;omega)];rfl
 rw [dec_f h3];simp only [cond_false];have key:=dK (body:=sI) (fun i=>((i:Int),c.next_,c.list)) c.list.length (fun i=> ¬(gA (c.list[i]!).2/\0<=(c.list[i]!).1/\(c.list[i]!).1<c.next_/\(0<i->(c.list[i-1]!).1<(c.list[i]!).1)/\ ∀j,j<i-> ¬(c.list[j]!).2=(c.list[i]!).2)) (r:=8) (e:=0) (fun i hi=>by
  have e1:decide ((i:Int)<(c.list.length:Int))=true:=aK (by omega)
  have l1:=YT c i hi (by omega)
  unfold sI;simp only [aF,e1,cond_true,aE c.list i hi,aD,GZ]
  by_cases b1:gA (c.list[i]!).2
  case neg=>
   rw [dec_f b1];exact ⟨fun _=>rfl,fun h=>absurd (Classical.not_not.1 h).1 b1⟩
  rw [aK b1]
  by_cases b2:(c.list[i]!).1<0
  · rw [aK b2]
    exact ⟨fun _=>rfl,fun h=>absurd (Classical.not_not.1 h).2.1 (by omega)⟩
  rw [dec_f b2]
  by_cases b3:c.next_<=(c.list[i]!).1
  · rw [aK b3]
    exact ⟨fun _=>rfl,fun h=>absurd (Classical.not_not.1 h).2.2.1 (by omega)⟩
  rw [dec_f b3];simp only [Bool.not_true,cond_false];have go:(0<i->(c.list[i-1]!).1<(c.list[i]!).1)->(¬(gA (c.list[i]!).2/\0<=(c.list[i]!).1/\(c.list[i]!).1<c.next_/\(0<i->(c.list[i-1]!).1<(c.list[i]!).1)/\ ∀j,j<i-> ¬(c.list[j]!).2=(c.list[i]!).2)->aH gP ((i:Int),0,c.next_,c.list,c.list[i]!)=some (.done 8))/\
   (¬¬(gA (c.list[i]!).2/\0<=(c.list[i]!).1/\(c.list[i]!).1<c.next_/\(0<i->(c.list[i-1]!).1<(c.list[i]!).1)/\ ∀j,j<i-> ¬(c.list[j]!).2=(c.list[i]!).2)->aH gP ((i:Int),0,c.next_,c.list,c.list[i]!)=some (.next (((i+1:Nat):Int),c.next_,c.list))):=by
   intro hp;constructor
   · intro h
     refine l1.1 (Classical.byContradiction fun hx=>h ⟨b1,by omega,by omega,hp,fun j hj he=>hx ⟨j,hj,he⟩⟩)
   · intro h
     exact l1.2 (Classical.not_not.1 h).2.2.2.2
  by_cases b4:0<i
  · have f1:decide ((0:Int)<(i:Int))=true:=aK (by omega)
    simp only [f1,cond_true,qA (show i<1000000000 by omega) b4,aE c.list (i-1) (by omega),aD]
    by_cases b5:(c.list[i]!).1<=(c.list[i-1]!).1
    · rw [aK b5]
      exact ⟨fun _=>rfl,fun h=>absurd ((Classical.not_not.1 h).2.2.2.1 b4) (by omega)⟩
    · rw [dec_f b5]
      exact go fun _=>by omega
  · have f1:decide ((0:Int)<(i:Int))=false:=dec_f (by omega)
    rw [f1];exact go fun h=>absurd h b4) (by
  unfold sI
  have:decide ((c.list.length:Int)<(c.list.length:Int))=false:=dec_f (by omega)
  simp only [aF,this,cond_false])
 have same:fC c↔ ∀i,i<c.list.length->(gA (c.list[i]!).2/\0<=(c.list[i]!).1/\(c.list[i]!).1<c.next_/\(0<i->(c.list[i-1]!).1<(c.list[i]!).1)/\ ∀j,j<i-> ¬(c.list[j]!).2=(c.list[i]!).2):=by
  constructor
  · intro ok i hi
    exact ⟨ok.cv i hi,(ok.nr i hi).1,(ok.nr i hi).2,fun h=>ok.up (i-1) i (by omega) hi,fun j hj=>ok.nd j i hj hi⟩
  · intro h
    rw [fC.iff (by omega) (by omega) (by omega)]
    intro i hi;obtain ⟨a1,a2,a3,a4,a5⟩:=h i hi;refine ⟨a1,a5,?_,a3⟩;unfold E7;split
    · omega
    · exact a4 (by omega)
 by_cases ok:fC c
 · rw [if_pos ok]
   exact key.2 fun i hi=>Classical.not_not.2 (same.1 ok i hi)
 · rw [if_neg ok]
   rw [same] at ok;obtain ⟨i,h⟩:=Classical.not_forall.1 ok;obtain ⟨hi,hx⟩:=Classical.not_imp.1 h;exact key.1 ⟨i,hi,hx⟩
def AZ (l:List wO) (x:Int×Int):Prop:= ∃i,i<l.length/\(l[i]!).2=x
theorem YU (l:List wO) (x:Int×Int) (hl:l.length<=1000000):cN l x=some (decide (AZ l x)):=by
 unfold cN gE;have key:=oI (body:=dO) (fun i=>(l,x.1,x.2,(l.length:Int),(i:Int))) l.length (fun i=>(l[i]!).2=x) (fun i=>(i:Int)) (e:= -1) (fun i hi=>by
  have e1:decide ((i:Int)<(l.length:Int))=true:=aK (by omega)
  unfold dO HP;simp only [e1,cond_true,aE l i hi,aD,aT (show i<1000000000 by omega)]
  generalize l[i]! =y;constructor
  · intro h;rw [eV (congrArg Prod.fst h),eV (congrArg Prod.snd h)];rfl
  · intro h
    by_cases h1:y.2.1=x.1
    · rw [eV h1,eJ (fun h2=>h (Prod.ext h1 h2))];rfl
    · rw [eJ h1];rfl) (by
  unfold dO
  have:decide ((l.length:Int)<(l.length:Int))=false:=dec_f (by omega)
  simp only [this,cond_false])
 rw [aF]
 by_cases hx:AZ l x
 · obtain ⟨k,h1,h2,h3⟩:=JK hx
   have:=key.1 k h1 h2 h3
   rw [show ((0:Nat):Int)=0 from rfl] at this;rw [this,aK hx];simp only [aD,aK (show (0:Int)<=(k:Int) by omega)]
 · have:=key.2 fun i hi he=>hx ⟨i,hi,he⟩
   rw [show ((0:Nat):Int)=0 from rfl] at this;rw [this,dec_f hx];rfl
theorem LB:eG=cN:=rfl
theorem C6 (c:bI) (x:Int×Int) (hl:c.list.length<=1000000):xM c x=some (decide (AZ c.list x)):=by
 unfold xM;have key:=dK (body:=xC) (fun i=>((i:Int),c.next_,c.list,x)) c.list.length (fun i=>(c.list[i]!).2=x) (r:=true) (e:=false) (fun i hi=>by
  have e1:decide ((i:Int)<(c.list.length:Int))=true:=aK (by omega)
  unfold xC;simp only [aF,e1,cond_true,aE c.list i hi,aD,aT (show i<1000000000 by omega)]
  generalize c.list[i]! =y;constructor
  · intro h;rw [eV (congrArg Prod.fst h),eV (congrArg Prod.snd h)];rfl
  · intro h
    by_cases h1:y.2.1=x.1
    · rw [eV h1,eJ (fun h2=>h (Prod.ext h1 h2))];rfl
    · rw [eJ h1];rfl) (by
  unfold xC
  have:decide ((c.list.length:Int)<(c.list.length:Int))=false:=dec_f (by omega)
  simp only [aF,this,cond_false])
 by_cases hx:AZ c.list x
 · rw [aK hx];exact key.1 hx
 · rw [dec_f hx];exact key.2 fun i hi he=>hx ⟨i,hi,he⟩
def sU (c:bI) (x:Int×Int):bI:=⟨c.next_+1,c.list++[(c.next_,x)]⟩
def JT (c:bI):Prop:=c.list.length=200\/c.next_=1000000
theorem YV {c:bI} (ok:fC c) {x:Int×Int} (hx:gA x):JG c x=some (if AZ c.list x then (⟨0,[]⟩,0,14) else if JT c then (⟨0,[]⟩,0,18) else (sU c x,c.next_,0)):=by
 have:=ok.len;have:=ok.n0;have:=ok.n1
 unfold JG;rw [AY,if_pos ok,GY,aK hx,YU _ _ (by omega)]
 simp only [aD,show ((0:Int) !=0)=false from rfl,cond_false,Bool.not_true,aF]
 by_cases h1:AZ c.list x
 · rw [aK h1,if_pos h1];rfl
 rw [dec_f h1,if_neg h1];unfold JT
 by_cases h2:c.list.length=200
 · rw [eV (show (c.list.length:Int)=200 by omega),if_pos (.inl h2)];rfl
 rw [eJ (show¬(c.list.length:Int)=200 by omega)]
 by_cases h3:c.next_=1000000
 · rw [eV h3,if_pos (.inr h3)];rfl
 rw [eJ h3,if_neg (by omega)]
 have e:aA .i64 (c.next_+1)=c.next_+1:=by rw [wi];omega
 simp only [cond_false,bC (show c.list.length<=1048576 by omega),aD,eC (show c.list.length+[(c.next_,x)].length<=1048576 by simp;omega),e]
 rfl
theorem U9 {c:bI} (ok:fC c) {x:Int×Int} (hx:gA x):F0 c x=some (if AZ c.list x then (⟨0,[]⟩,0,14) else if JT c then (⟨0,[]⟩,0,18) else (sU c x,c.next_,0)):=by
 have:=ok.len;have:=ok.n0;have:=ok.n1
 unfold F0 tT;rw [E8,if_pos ok,GZ,aK hx,C6 _ _ (by omega)]
 simp only [aD,show ((0:Int) !=0)=false from rfl,cond_false,Bool.not_true,aF]
 by_cases h1:AZ c.list x
 · rw [aK h1,if_pos h1];rfl
 rw [dec_f h1,if_neg h1];unfold JT
 by_cases h2:c.list.length=200
 · rw [eV (show (c.list.length:Int)=200 by omega),if_pos (.inl h2)];rfl
 rw [eJ (show¬(c.list.length:Int)=200 by omega)]
 by_cases h3:c.next_=1000000
 · rw [eV h3,if_pos (.inr h3)];rfl
 rw [eJ h3,if_neg (by omega)]
 have e:aA .i64 (c.next_+1)=c.next_+1:=by rw [wi];omega
 simp only [cond_false,bC (show c.list.length<=1048576 by omega),aD,eC (show c.list.length+[(c.next_,x)].length<=1048576 by simp;omega),e]
 rfl
theorem yO {c:bI} {x:Int×Int} {i:Nat}:(sU c x).list[i]! =if i<c.list.length then c.list[i]! else if i=c.list.length then (c.next_,x) else default:=by
 show (c.list++[(c.next_,x)])[i]! =_
 by_cases h:i<c.list.length
 · rw [if_pos h,eA h]
 · rw [if_neg h,gQ (by omega)]
   by_cases e:i=c.list.length
   · rw [if_pos e,e,Nat.sub_self];rfl
   · rw [if_neg e,getElem!_neg _ _ (by simp;omega)]
theorem GB {c:bI} {x:Int×Int}:(sU c x).list.length=c.list.length+1:=by
 show (c.list++[(c.next_,x)]).length=_;simp
theorem aAW {c:bI} (ok:fC c) {x:Int×Int} (hx:gA x) (hn: ¬AZ c.list x) (hf: ¬JT c):fC (sU c x):=by
 have h1:=ok.len;have h2:=ok.n0;have h3:=ok.n1;unfold JT at hf;refine ⟨by rw [GB];omega,by show 0<=c.next_+1;omega,by show c.next_+1<=1000000;omega,?_,?_,?_,?_⟩
 · intro i hi
   rw [GB] at hi;rw [yO]
   by_cases h:i<c.list.length
   · rw [if_pos h];exact ok.cv i h
   · rw [if_neg h,if_pos (by omega)];exact hx
 · intro i hi
   rw [GB] at hi;rw [yO];show 0<=_/\_<c.next_+1
   by_cases h:i<c.list.length
   · rw [if_pos h];have:=ok.nr i h;omega
   · rw [if_neg h,if_pos (by omega)];dsimp only;omega
 · intro i j hij hj
   rw [GB] at hj;rw [yO,yO,if_pos (by omega)]
   by_cases h:j<c.list.length
   · rw [if_pos h];exact ok.up i j hij h
   · rw [if_neg h,if_pos (by omega)]
     exact (ok.nr i (by omega)).2
 · intro i j hij hj
   rw [GB] at hj;rw [yO,yO,if_pos (by omega)]
   by_cases h:j<c.list.length
   · rw [if_pos h];exact ok.nd i j hij h
   · rw [if_neg h,if_pos (by omega)]
     exact fun he=>hn ⟨i,by omega,he⟩
def qC (c:bI) (k:Nat):bI:=⟨c.next_,c.list.eraseIdx k⟩
theorem aCw {α:Type} {l:List α} {k:Nat} (hk:k<l.length):(l.eraseIdx k).length=l.length-1:=by
 rw [List.length_eraseIdx,if_pos hk]
theorem PY {c:bI} (ok:fC c) {k:Nat} (hk:k<c.list.length):fC (qC c k):=by
 have h1:=ok.len;have len:(qC c k).list.length=c.list.length-1:=aCw hk;have cell: ∀i,∃j,i<=j/\j<=i+1/\(i<c.list.length-1->j<c.list.length)/\(qC c k).list[i]! =c.list[j]!/\(i<k->j=i)/\(k<=i->j=i+1):=by
  intro i
  by_cases h:i<k
  · exact ⟨i,by omega,by omega,by omega,by show (c.list.eraseIdx k)[i]! =_;rw [PU,if_pos h],fun _=>rfl,by omega⟩
  · exact ⟨i+1,by omega,by omega,by omega,by show (c.list.eraseIdx k)[i]! =_;rw [PU,if_neg h],by omega,fun _=>rfl⟩
 refine ⟨by omega,ok.n0,ok.n1,?_,?_,?_,?_⟩
 · intro i hi
   obtain ⟨j,j1,j2,j3,j4,j5,j6⟩:=cell i;rw [j4];exact ok.cv j (j3 (by omega))
 · intro i hi
   obtain ⟨j,j1,j2,j3,j4,j5,j6⟩:=cell i;rw [j4];exact ok.nr j (j3 (by omega))
 · intro i i' hij hi
   obtain ⟨j,j1,j2,j3,j4,j5,j6⟩:=cell i;obtain ⟨m,m1,m2,m3,m4,m5,m6⟩:=cell i';rw [j4,m4];exact ok.up j m (by omega) (m3 (by omega))
 · intro i i' hij hi
   obtain ⟨j,j1,j2,j3,j4,j5,j6⟩:=cell i;obtain ⟨m,m1,m2,m3,m4,m5,m6⟩:=cell i';rw [j4,m4];exact ok.nd j m (by omega) (m3 (by omega))
theorem PZ {c:bI} (ok:fC c) {k:Nat} (hk:k<c.list.length) {n:Int} (hn:(c.list[k]!).1=n):zN c n=some (qC c k,(c.list[k]!).2,0):=by
 have h1:=ok.len;unfold zN K1;obtain ⟨L,d1,d2⟩:=L7 c.list k hk;rw [AY,if_pos ok,(GA c.list n (by omega) ok.up).1 k hk hn]
 simp only [aD,show ((0:Int) !=0)=false from rfl,cond_false,Bool.not_true,bC (show c.list.length<=1048576 by omega),aT (show k<1000000000 by omega),d1,aE c.list k hk,d2]
 rfl
theorem VA {l:List wO} {k:Nat} (hk:k<l.length) (hs: ∀i j,i<j->j<l.length->(l[i]!).1<(l[j]!).1) {n:Int} (hn:(l[k]!).1=n):l.filter (fun x=>x.1 !=n)=l.eraseIdx k:=by
 rw [yN];have e:l.filter (fun x=>x.1 !=n)=(l.take k++l[k]!::l.drop (k+1)).filter (fun x=>x.1 !=n):=congrArg _ (aFx hk)
 rw [e,List.filter_append,List.filter_cons_of_neg (by rw [hn];simp)]
 congr 1
 · rw [List.filter_eq_self]
   intro x hx;obtain ⟨i,h1,h2,rfl⟩:=cD.1 hx
   have:=hs i k h1 hk
   exact cQ (by omega)
 · rw [List.filter_eq_self]
   intro x hx;obtain ⟨i,h1,rfl⟩:=aW.1 hx;rw [List.length_drop] at h1;rw [tX]
   have:=hs k (k+1+i) (by omega) (by omega)
   exact cQ (by omega)
theorem LC {c:bI} (ok:fC c) {k:Nat} (hk:k<c.list.length) {n:Int} (hn:(c.list[k]!).1=n):uQ c n=some (qC c k):=by
 have h1:=ok.len;unfold uQ;have key:=bQ (body:=lL) (fun i=>(n,(i:Int),c.next_,c.list,0,c.next_,(c.list.take i).filter (fun x=>x.1 !=n))) c.list.length (fun i hi=>by
  have e1:decide ((i:Int)<(c.list.length:Int))=true:=aK (by omega)
  have nx:(c.list.take (i+1)).filter (fun x=>x.1 !=n)=(c.list.take i).filter (fun x=>x.1 !=n)++(if (c.list[i]!).1 !=n then [c.list[i]!] else []):=by
   rw [fQ hi,List.filter_append,List.filter_cons,List.filter_nil]
  have fl:((c.list.take i).filter (fun x=>x.1 !=n)).length<=200:=Nat.le_trans (List.length_filter_le _ _) (by rw [List.length_take];omega)
  unfold lL;simp only [aF,e1,cond_true,aE c.list i hi,aD,aT (show i<1000000000 by omega),nx]
  by_cases h:(c.list[i]!).1=n
  · rw [bS h];simp
  · rw [cQ h]
    simp only [cond_true,if_true,eC (show ((c.list.take i).filter (fun x=>x.1 !=n)).length+[c.list[i]!].length<=1048576 by simp only [List.length_cons,List.length_nil];omega),aD])
 have fin:lL (n,(c.list.length:Int),c.next_,c.list,0,c.next_,(c.list.take c.list.length).filter (fun x=>x.1 !=n))=some (.done (qC c k)):=by
  unfold lL
  have:decide ((c.list.length:Int)<(c.list.length:Int))=false:=dec_f (by omega)
  simp only [aF,this,cond_false,List.take_length];rw [VA hk ok.up hn];rfl
 refine Eq.trans ?_ (aL fin);exact key
def oK (l:List Pt) (id:Int):Prop:= ∃k,k<l.length/\(l[k]!).1=id
noncomputable def gU (l:List Pt) (id:Int):Pt:=if h:oK l id then l[h.choose]! else (-1,0,0)
theorem C7 {l:List Pt} (hs:gW l) {k:Nat} (hk:k<l.length) {id:Int} (h:(l[k]!).1=id):gU l id=l[k]!:=by
 have hp:oK l id:=⟨k,hk,h⟩;unfold gU;rw [dif_pos hp]
 have:=hp.choose_spec
 rw [tZ hs this.1 hk (by rw [this.2,h])]
theorem eD {l:List Pt} (ok:cJ l) {id:Int} (h:oK l id):iG (gU l id)/\(gU l id).1=id:=by
 obtain ⟨k,hk,he⟩:=h;rw [C7 ok.2.2 hk he];exact ⟨ok.2.1 _ (bJ hk),he⟩
theorem LD {l:List Pt} {id:Int} (h: ¬oK l id):gU l id=(-1,0,0):=by unfold gU;rw [dif_neg h]
theorem oL {l:List Pt} (ok:cJ l) (id:Int):kJ ⟨l⟩ id=some (gU l id):=by
 have h1:=ok.1;have bs:=GA l id (by omega) (fun i j=>pB ok.2.2)
 unfold kJ;dsimp only;rw [aFO]
 by_cases h:oK l id
 · obtain ⟨k,hk,he⟩:=h
   rw [bs.1 k hk he];simp only [aD,Bool.not_true,cond_false,aE l k hk,C7 ok.2.2 hk he]
 · obtain ⟨m,m1,m2,m3,e⟩:=bs.2 (fun k hk he=>h ⟨k,hk,he⟩)
   rw [e,LD h];rfl
theorem C8 {l:List Pt} (ok:cJ l) {id:Int} (h:oK l id): ∃k,k<l.length/\iC ⟨l⟩ id=some (k:Int)/\l[k]! =gU l id:=by
 have h1:=ok.1;obtain ⟨k,hk,he⟩:=h;exact ⟨k,hk,aDv ok.2.2 (by omega) hk he,(C7 ok.2.2 hk he).symm⟩
theorem aAX {l:List Pt} (ok:cJ l) {id:Int} (h: ¬oK l id):iC ⟨l⟩ id=some (-1):=by
 have h1:=ok.1;exact aNg (by omega) fun k hk he=>h ⟨k,hk,he⟩
def kU (l:List Pt) (x:Int×Int):Prop:=oK l x.1/\oK l x.2
noncomputable def bK (l:List Pt) (x t:Int×Int):(Int×Int)×Bool:=GW (gU l x.2) (gU l x.1) t
theorem A0 {l:List Pt} (ok:cJ l) {x t:Int×Int} (hx:gA x) (ht:cH t) (h64:rE t):
 tP ⟨l⟩ x t=some (if kU l x then ((bK l x t).1,(bK l x t).2,0) else ((0,0),false,8)):=by
 unfold tP;rw [oL ok,oL ok];simp only [aD,ML h64];have bad: ¬iG (-1,0,0):=by unfold iG;dsimp only;omega
 by_cases h1:oK l x.1
 · by_cases h2:oK l x.2
   · obtain ⟨p1,p2⟩:=eD ok h1
     obtain ⟨q1,q2⟩:=eD ok h2;rw [if_pos ⟨q1,p1,ht,by rw [p2,q2];exact fun h=>hx.2.2.2.2 h.symm⟩,if_pos ⟨h1,h2⟩]
     rfl
   · rw [LD h2,if_neg (fun h=>bad h.1),if_neg (fun h=>bad h.1),if_neg (fun h=>h2 h.2)]
 · rw [LD h1,if_neg (fun h=>bad h.2.1),if_neg (fun h=>bad h.2.1),if_neg (fun h=>h1 h.1)]
theorem A1 {l:List Pt} (ok:cJ l) {x t:Int×Int} (h64:rE t) (hb:kU l x):tV ⟨l⟩ x t=some (bK l x t):=by
 obtain ⟨h1,h2⟩:=hb;obtain ⟨j,j1,j2,j3⟩:=C8 ok h1;obtain ⟨k,k1,k2,k3⟩:=C8 ok h2;unfold tV;simp only [j2,k2,aD,aE l j j1,aE l k k1,j3,k3,aAM (eD ok h2).1 (eD ok h1).1 h64];rfl
theorem aFP (c:bI) {l:List Pt} (ok:cJ l) (hl:c.list.length<=200):zW c ⟨l⟩=some (decide (∀i,i<c.list.length->kU l (c.list[i]!).2)):=by
 unfold zW;have key:=dK (body:=sJ) (fun i=>((i:Int),c.next_,c.list,l)) c.list.length (fun i=> ¬kU l (c.list[i]!).2) (r:=false) (e:=true) (fun i hi=>by
  have e1:decide ((i:Int)<(c.list.length:Int))=true:=aK (by omega)
  unfold sJ kU;simp only [aF,e1,cond_true,aE c.list i hi,aD,aT (show i<1000000000 by omega)]
  by_cases h1:oK l (c.list[i]!).2.1
  · obtain ⟨k,k1,k2,_⟩:=C8 ok h1
    rw [k2];simp only [aD,dec_f (show¬(k:Int)<0 by omega),cond_false]
    by_cases h2:oK l (c.list[i]!).2.2
    · obtain ⟨j,j1,j2,_⟩:=C8 ok h2
      rw [j2];simp only [aD,dec_f (show¬(j:Int)<0 by omega),cond_false]
      exact ⟨fun h=>absurd ⟨h1,h2⟩ h,fun _=>trivial⟩
    · rw [aAX ok h2]
      exact ⟨fun _=>rfl,fun h=>absurd (Classical.not_not.1 h).2 h2⟩
  · rw [aAX ok h1]
    exact ⟨fun _=>rfl,fun h=>absurd (Classical.not_not.1 h).1 h1⟩) (by
  unfold sJ
  have:decide ((c.list.length:Int)<(c.list.length:Int))=false:=dec_f (by omega)
  simp only [aF,this,cond_false])
 by_cases hx: ∀i,i<c.list.length->kU l (c.list[i]!).2
 · rw [aK hx];exact key.2 fun i hi=>Classical.not_not.2 (hx i hi)
 · rw [dec_f hx]
   obtain ⟨i,h⟩:=Classical.not_forall.1 hx;obtain ⟨hi,hx⟩:=Classical.not_imp.1 h;exact key.1 ⟨i,hi,hx⟩
def aU (l:List Pt) (t:Int×Int) (H:List Ev):List wO->List wO->Prop
 | [],ds=>ds=[]
 |x::cs,ds=>((bK l x.2 t).2=true-> ∃d ds',ds=d::ds'/\d.1=x.1/\((bK l x.2 t).1.1,(bK l x.2 t).1.2,x.1,d.2)∈H/\aU l t H cs ds')/\((bK l x.2 t).2=false->aU l t H cs ds)
structure bF (c:aQ):Prop where
 nowv:cH c.now
 now64:rE c.now
 fld:cJ c.field.points
 crt:fC c.certs
 agd:fE c.agenda
 w200:c.agenda.where_.length=200
 hd:c.agenda.heap.length=c.due.length
 known: ∀i,i<c.certs.list.length->kU c.field.points (c.certs.list[i]!).2
 fol:aU c.field.points c.now c.agenda.heap c.certs.list c.due
structure wD (c:aQ):Prop where
 now64:rE c.now
 ag:E4 c.agenda
 du:c.due.length<=1000000
theorem aN3 {a:aO} (ok:fE a) (w2:a.where_.length=200) (t:Int×Int) (n:Int) (h:Int×Int):
 (0<=h.1/\h.1<200/\0<=a.where_[h.1.toNat]!/\a.heap[(a.where_[h.1.toNat]!).toNat]! =(t.1,t.2,n,h))↔((t.1,t.2,n,h):Ev)∈a.heap:=by
 have wl:=ok.wl;have hu:=ok.so.ul;constructor
 · rintro ⟨h1,h2,h3,h4⟩
   cases hb:a.slots.used[h.1.toNat]! with
   |false=>
    have:=ok.un h.1.toNat (by omega) hb
    omega
   |true=>
    have:=ok.fwd h.1.toNat (by omega) hb
    rw [<- h4];exact bJ (by omega)
 · intro hm
   obtain ⟨w,hw,he⟩:=aW.1 hm;obtain ⟨b1,b2,b3,b4,b5⟩:=ok.back hw;have e:Ev.ix a.heap[w]! =h.1:=by rw [he]
   have e2:Ev.n a.heap[w]! =h.1.toNat:=by rw [he]
   rw [e] at b1 b2;rw [e2] at b5;refine ⟨b1,by omega,by omega,?_⟩
   rw [b5,Int.toNat_natCast,he]
theorem aFQ {a:aO} (ok:fE a) {i:Nat} (hi:i<a.slots.uses.length) (h:0<=a.where_[i]!):a.where_[i]!<a.heap.length:=by
 cases hb:a.slots.used[i]! with
 |false=>have:=ok.un i hi hb;omega
 |true=>exact (ok.fwd i hi hb).2.1
theorem xN {α:Type} [Inhabited α] {l:List α} {i:Nat} (h:i<l.length):l.drop i=l[i]!::l.drop (i+1):=by
 rw [getElem!_pos l i h];exact List.drop_eq_getElem_cons h
theorem YW {c:aQ} (nowv:cH c.now) (now64:rE c.now) (fld:cJ c.field.points) (crt:fC c.certs) (agd:fE c.agenda) (w2:c.agenda.where_.length=200):
 ∀(d i:Nat) (ds:List wO),c.certs.list.length-i<=d->i<=c.certs.list.length->ds.length<=1000000->
  aH cZ (ds,c.certs.list,(c.certs.list.length:Int),(i:Int),c.now.1,c.now.2,c.field.points,c.certs.next_,c.certs.list,c.agenda.slots.uses,c.agenda.slots.used,c.agenda.slots.free,c.agenda.heap,c.agenda.where_,c.due)=
   some (.done (if (∀j,i<=j->j<c.certs.list.length->kU c.field.points (c.certs.list[j]!).2)/\aU c.field.points c.now c.agenda.heap (c.certs.list.drop i) ds then 0 else 8)):=by
 have hl:=crt.len;have wl:=agd.wl;have fin: ∀(ds:List wO),aH cZ (ds,c.certs.list,(c.certs.list.length:Int),(c.certs.list.length:Int),c.now.1,c.now.2,c.field.points,c.certs.next_,c.certs.list,c.agenda.slots.uses,c.agenda.slots.used,c.agenda.slots.free,c.agenda.heap,c.agenda.where_,c.due)=some (.done (if ds=[] then 0 else 8)):=by
  intro ds;refine aL ?_;unfold cZ;have e1:decide ((c.certs.list.length:Int)<(c.certs.list.length:Int))=false:=dec_f (by omega)
  simp only [aF,e1,cond_false];cases ds with
  |nil=>rw [dec_f (by simp),if_pos rfl];rfl
  |cons d ds=>rw [aK (by simp),if_neg (by simp)];rfl
 intro d
 induction d with
 |zero=>
  intro i ds hd hi hds
  have:i=c.certs.list.length:=by omega
  subst this;rw [fin ds,List.drop_length]
  have:((∀j,c.certs.list.length<=j->j<c.certs.list.length->kU c.field.points (c.certs.list[j]!).2)/\aU c.field.points c.now c.agenda.heap [] ds)↔ds=[]:=⟨fun h=>h.2,fun h=>⟨fun j h1 h2=>by omega,h⟩⟩
  by_cases h:ds=[]
  · rw [if_pos h,if_pos (this.2 h)]
  · rw [if_neg h,if_neg (fun k=>h (this.1 k))]
 |succ d ih=>
  intro i ds hd hi hds
  by_cases he:i=c.certs.list.length
  · subst he
    rw [fin ds,List.drop_length]
    have:((∀j,c.certs.list.length<=j->j<c.certs.list.length->kU c.field.points (c.certs.list[j]!).2)/\aU c.field.points c.now c.agenda.heap [] ds)↔ds=[]:=⟨fun h=>h.2,fun h=>⟨fun j h1 h2=>by omega,h⟩⟩
    by_cases h:ds=[]
    · rw [if_pos h,if_pos (this.2 h)]
    · rw [if_neg h,if_neg (fun k=>h (this.1 k))]
  have hi':i<c.certs.list.length:=by omega
  have e1:decide ((i:Int)<(c.certs.list.length:Int))=true:=aK (by omega)
  have hw:=A0 fld (x:=(c.certs.list[i]!).2) (t:=(c.now.1,c.now.2)) (crt.cv i hi') nowv now64;have dr:=xN hi';have all:(∀j,i<=j->j<c.certs.list.length->kU c.field.points (c.certs.list[j]!).2)↔(kU c.field.points (c.certs.list[i]!).2/\ ∀j,i+1<=j->j<c.certs.list.length->kU c.field.points (c.certs.list[j]!).2):=by
   constructor
   · intro h;exact ⟨h i (Nat.le_refl _) hi',fun j h1 h2=>h j (by omega) h2⟩
   · rintro ⟨h1,h2⟩ j h3 h4
     by_cases e:j=i
     · rw [e];exact h1
     · exact h2 j (by omega) h4
  have sc:=aT (show i<1000000000 by omega)
  by_cases hb:kU c.field.points (c.certs.list[i]!).2
  case neg=>
   rw [if_neg (fun h=>hb (all.1 h.1).1)]
   refine aL ?_;unfold cZ;simp only [e1,cond_true,aE c.certs.list i hi',aD,hw,if_neg hb];rfl
  rw [if_pos hb] at hw
  by_cases is:(bK c.field.points (c.certs.list[i]!).2 c.now).2=true
  case neg=>
   have is':(bK c.field.points (c.certs.list[i]!).2 c.now).2=false:=by simpa using is
   rw [bA (y:=(ds,c.certs.list,(c.certs.list.length:Int),((i+1:Nat):Int),c.now.1,c.now.2,c.field.points,c.certs.next_,c.certs.list,c.agenda.slots.uses,c.agenda.slots.used,c.agenda.slots.free,c.agenda.heap,c.agenda.where_,c.due)) (by
    unfold cZ;simp only [e1,cond_true,aE c.certs.list i hi',aD,hw,sc,is',show ((0:Int) !=0)=false from rfl,cond_false,Bool.not_false]),ih (i+1) ds (by omega) (by omega) hds]
   have same:((∀j,i<=j->j<c.certs.list.length->kU c.field.points (c.certs.list[j]!).2)/\aU c.field.points c.now c.agenda.heap (c.certs.list.drop i) ds)↔((∀j,i+1<=j->j<c.certs.list.length->kU c.field.points (c.certs.list[j]!).2)/\aU c.field.points c.now c.agenda.heap (c.certs.list.drop (i+1)) ds):=by
    rw [dr,all];constructor
    · rintro ⟨⟨_,h1⟩,h2⟩;exact ⟨h1,h2.2 is'⟩
    · rintro ⟨h1,h2⟩;exact ⟨⟨hb,h1⟩,fun h=>absurd h is,fun _=>h2⟩
   simp only [same]
  have stop:(¬((∀j,i<=j->j<c.certs.list.length->kU c.field.points (c.certs.list[j]!).2)/\aU c.field.points c.now c.agenda.heap (c.certs.list.drop i) ds))->cZ (ds,c.certs.list,(c.certs.list.length:Int),(i:Int),c.now.1,c.now.2,c.field.points,c.certs.next_,c.certs.list,c.agenda.slots.uses,c.agenda.slots.used,c.agenda.slots.free,c.agenda.heap,c.agenda.where_,c.due)=some (.done (.done 8))->aH cZ (ds,c.certs.list,(c.certs.list.length:Int),(i:Int),c.now.1,c.now.2,c.field.points,c.certs.next_,c.certs.list,c.agenda.slots.uses,c.agenda.slots.used,c.agenda.slots.free,c.agenda.heap,c.agenda.where_,c.due)=
   some (.done (if (∀j,i<=j->j<c.certs.list.length->kU c.field.points (c.certs.list[j]!).2)/\aU c.field.points c.now c.agenda.heap (c.certs.list.drop i) ds then 0 else 8)):=by
   intro h1 h2;rw [if_neg h1];exact aL h2
  cases ds with
  |nil=>
   refine stop (fun h=>?_) ?_
   · rw [dr] at h
     obtain ⟨d,ds',h1,_⟩:=h.2.1 is;cases h1
   · unfold cZ
     simp only [e1,cond_true,aE c.certs.list i hi',aD,hw,is,show ((0:Int) !=0)=false from rfl,cond_false,Bool.not_true];rfl
  |cons d0 ds=>
   have l0:((((d0::ds).length:Nat):Int)==0)=false:=eJ (by simp;omega)
   have g0:aN (d0::ds) 0=some d0:=rfl
   have fol: ∀P:Prop,(P↔d0.1=(c.certs.list[i]!).1/\(((bK c.field.points (c.certs.list[i]!).2 c.now).1.1,(bK c.field.points (c.certs.list[i]!).2 c.now).1.2,(c.certs.list[i]!).1,d0.2):Ev)∈c.agenda.heap)-> ¬P-> ¬((∀j,i<=j->j<c.certs.list.length->kU c.field.points (c.certs.list[j]!).2)/\aU c.field.points c.now c.agenda.heap (c.certs.list.drop i) (d0::ds)):=by
    intro P hP hn h;rw [dr] at h;obtain ⟨d,ds',h1,h2,h3,_⟩:=h.2.1 is;injection h1 with h1 _;subst h1;exact hn (hP.2 ⟨h2,h3⟩)
   by_cases b1:d0.1=(c.certs.list[i]!).1
   case neg=>
    refine stop (fol (d0.1=(c.certs.list[i]!).1/\_) Iff.rfl (fun h=>b1 h.1)) ?_
    unfold cZ;simp only [aF,e1,cond_true,aE c.certs.list i hi',aD,hw,is,show ((0:Int) !=0)=false from rfl,cond_false,Bool.not_true,l0,g0,cQ b1]
   have ea:=aN3 agd w2 (bK c.field.points (c.certs.list[i]!).2 c.now).1 (c.certs.list[i]!).1 d0.2
   by_cases b2:d0.2.1<0
   · refine stop (fol (d0.1=(c.certs.list[i]!).1/\_) Iff.rfl (fun h=>by have:=(ea.2 h.2).1;omega)) ?_
     unfold cZ;simp only [aF,e1,cond_true,aE c.certs.list i hi',aD,hw,is,show ((0:Int) !=0)=false from rfl,cond_false,Bool.not_true,l0,g0,bS b1,aK b2]
   by_cases b3:200<=d0.2.1
   · refine stop (fol (d0.1=(c.certs.list[i]!).1/\_) Iff.rfl (fun h=>by have:=(ea.2 h.2).2.1;omega)) ?_
     unfold cZ;simp only [aF,e1,cond_true,aE c.certs.list i hi',aD,hw,is,show ((0:Int) !=0)=false from rfl,cond_false,Bool.not_true,l0,g0,bS b1,dec_f b2,aK b3]
   have gw:=dX (l:=c.agenda.where_) (i:=d0.2.1) (by omega) (by omega)
   by_cases b4:c.agenda.where_[d0.2.1.toNat]!<0
   · refine stop (fol (d0.1=(c.certs.list[i]!).1/\_) Iff.rfl (fun h=>by have:=(ea.2 h.2).2.2.1;omega)) ?_
     unfold cZ;simp only [aF,e1,cond_true,aE c.certs.list i hi',aD,hw,is,show ((0:Int) !=0)=false from rfl,cond_false,Bool.not_true,l0,g0,bS b1,dec_f b2,dec_f b3,gw,aK b4]
   have gh:=dX (l:=c.agenda.heap) (i:=c.agenda.where_[d0.2.1.toNat]!) (by omega) (aFQ agd (by omega) (by omega))
   have sl:jE (d0::ds) 1 ((((d0::ds).length:Nat):Int))=some ds:=by
    unfold jE;rw [if_pos ⟨by omega,by simp;omega,by omega⟩]
    simp
   have evq: ∀(e:Ev) (p:Int×Int) (n:Int) (h:Int×Int),((e.1==p.1)&&((e.2.1==p.2)&&((e.2.2.1==n)&&((e.2.2.2.1==h.1)&&(e.2.2.2.2==h.2)))))=decide (e=(p.1,p.2,n,h)):=by
    intro e p n h;rw [Bool.eq_iff_iff,decide_eq_true_iff];simp only [Bool.and_eq_true,beq_iff_eq];constructor
    · rintro ⟨h1,h2,h3,h4,h5⟩
      exact Prod.ext h1 (Prod.ext h2 (Prod.ext h3 (Prod.ext h4 h5)))
    · intro h;rw [h];exact ⟨rfl,rfl,rfl,rfl,rfl⟩
   have evq':=evq c.agenda.heap[(c.agenda.where_[d0.2.1.toNat]!).toNat]! (bK c.field.points (c.certs.list[i]!).2 c.now).1 (c.certs.list[i]!).1 d0.2
   by_cases b5:c.agenda.heap[(c.agenda.where_[d0.2.1.toNat]!).toNat]! =((bK c.field.points (c.certs.list[i]!).2 c.now).1.1,(bK c.field.points (c.certs.list[i]!).2 c.now).1.2,(c.certs.list[i]!).1,d0.2)
   case neg=>
    refine stop (fol (d0.1=(c.certs.list[i]!).1/\_) Iff.rfl (fun h=>b5 (ea.2 h.2).2.2.2)) ?_
    unfold cZ;simp only [aF,e1,cond_true,aE c.certs.list i hi',aD,hw,is,show ((0:Int) !=0)=false from rfl,cond_false,Bool.not_true,l0,g0,bS b1,dec_f b2,dec_f b3,gw,dec_f b4,gh];rw [evq',dec_f b5];rfl
   have hmem:=ea.1 ⟨by omega,by omega,by omega,b5⟩
   rw [bA (y:=(ds,c.certs.list,(c.certs.list.length:Int),((i+1:Nat):Int),c.now.1,c.now.2,c.field.points,c.certs.next_,c.certs.list,c.agenda.slots.uses,c.agenda.slots.used,c.agenda.slots.free,c.agenda.heap,c.agenda.where_,c.due)) (by
    unfold cZ;simp only [aF,e1,cond_true,aE c.certs.list i hi',aD,hw,is,show ((0:Int) !=0)=false from rfl,cond_false,Bool.not_true,l0,g0,bS b1,dec_f b2,dec_f b3,gw,dec_f b4,gh,sl,sc];rw [evq',aK b5]
    rfl),ih (i+1) ds (by omega) (by omega) (by simp at hds;omega)]
   have same:((∀j,i<=j->j<c.certs.list.length->kU c.field.points (c.certs.list[j]!).2)/\aU c.field.points c.now c.agenda.heap (c.certs.list.drop i) (d0::ds))↔((∀j,i+1<=j->j<c.certs.list.length->kU c.field.points (c.certs.list[j]!).2)/\aU c.field.points c.now c.agenda.heap (c.certs.list.drop (i+1)) ds):=by
    rw [dr,all];constructor
    · rintro ⟨⟨_,h1⟩,h2⟩
      obtain ⟨d,ds',k1,k2,k3,k4⟩:=h2.1 is;injection k1 with k1 k5;subst k5;exact ⟨h1,k4⟩
    · rintro ⟨h1,h2⟩
      exact ⟨⟨hb,h1⟩,fun _=>⟨d0,ds,rfl,b1,hmem,h2⟩,fun h=>by rw [is] at h;cases h⟩
   simp only [same]
theorem bF.iff {c:aQ} (fit:wD c):bF c↔cH c.now/\cJ c.field.points/\fC c.certs/\fE c.agenda/\c.agenda.where_.length=200/\c.agenda.heap.length=c.due.length/\(∀i,i<c.certs.list.length->kU c.field.points (c.certs.list[i]!).2)/\aU c.field.points c.now c.agenda.heap c.certs.list c.due:=
 ⟨fun h=>⟨h.nowv,h.fld,h.crt,h.agd,h.w200,h.hd,h.known,h.fol⟩,fun ⟨h1,h2,h3,h4,h5,h6,h7,h8⟩=>⟨h1,fit.now64,h2,h3,h4,h5,h6,h7,h8⟩⟩
theorem bF.fit {c:aQ} (ok:bF c):wD c:=⟨ok.now64,ok.agd.fit,by have:=ok.hd;have:=ok.agd.bd;omega⟩
theorem YX {c:aQ} {n0 n1 n2 n3:Int}:
 aH fM (4,0,c.now.1,c.now.2,c.field.points,c.certs.next_,c.certs.list,c.agenda.slots.uses,c.agenda.slots.used,c.agenda.slots.free,c.agenda.heap,c.agenda.where_,c.due,[n0,n1,n2,n3])=
  if n0=0/\n1=0/\n2=0/\n3=0 then aH fM (4,4,c.now.1,c.now.2,c.field.points,c.certs.next_,c.certs.list,c.agenda.slots.uses,c.agenda.slots.used,c.agenda.slots.free,c.agenda.heap,c.agenda.where_,c.due,[n0,n1,n2,n3]) else some 8:=by
 have st: ∀(i:Nat) (n:Int),i<4->aN [n0,n1,n2,n3] (i:Int)=some n->aH fM (4,(i:Int),c.now.1,c.now.2,c.field.points,c.certs.next_,c.certs.list,c.agenda.slots.uses,c.agenda.slots.used,c.agenda.slots.free,c.agenda.heap,c.agenda.where_,c.due,[n0,n1,n2,n3])=
  if n=0 then aH fM (4,((i+1:Nat):Int),c.now.1,c.now.2,c.field.points,c.certs.next_,c.certs.list,c.agenda.slots.uses,c.agenda.slots.used,c.agenda.slots.free,c.agenda.heap,c.agenda.where_,c.due,[n0,n1,n2,n3]) else some 8:=by
  intro i n hi hg;have e1:decide ((i:Int)<4)=true:=aK (by omega)
  by_cases h:n=0
  · rw [if_pos h]
    refine bA ?_;unfold fM;simp only [e1,cond_true,hg,aD,bS h,cond_false,aT (show i<1000000000 by omega)]
  · rw [if_neg h]
    refine aL ?_;unfold fM;simp only [e1,cond_true,hg,aD,cQ h]
 have s0:=st 0 n0 (by omega) rfl
 have s1:=st 1 n1 (by omega) rfl
 have s2:=st 2 n2 (by omega) rfl
 have s3:=st 3 n3 (by omega) rfl
 have c0:((0:Nat):Int)=0:=rfl;have c4:((3+1:Nat):Int)=4:=rfl;rw [c0] at s0;rw [c4] at s3;rw [s0]
 by_cases h0:n0=0
 · rw [if_pos h0,show ((0+1:Nat):Int)=((1:Nat):Int) from rfl,s1]
   by_cases h1:n1=0
   · rw [if_pos h1,show ((1+1:Nat):Int)=((2:Nat):Int) from rfl,s2]
     by_cases h2:n2=0
     · rw [if_pos h2,show ((2+1:Nat):Int)=((3:Nat):Int) from rfl,s3]
       by_cases h3:n3=0
       · rw [if_pos h3,if_pos ⟨h0,h1,h2,h3⟩]
       · rw [if_neg h3,if_neg (fun h=>h3 h.2.2.2)]
     · rw [if_neg h2,if_neg (fun h=>h2 h.2.2.1)]
   · rw [if_neg h1,if_neg (fun h=>h1 h.2.1)]
 · rw [if_neg h0,if_neg (fun h=>h0 h.1)]
theorem oM {c:aQ} (fit:wD c):iB c=some (if bF c then 0 else 8):=by
 unfold iB;rw [fP fit.now64,lU,AY,mX _ fit.ag];simp only [aD];have h4:Int.ofNat [if cH c.now then (0:Int) else 8,kL c.field.points,if fC c.certs then (0:Int) else 8,if fE c.agenda then (0:Int) else 8].length=4:=rfl
 rw [h4,YX];have z: ∀(p:Prop) [Decidable p],(if p then (0:Int) else 8)=0↔p:=fun p _=>by by_cases h:p<;>simp [h]
 simp only [z,kM];have f1:=bF.iff fit
 by_cases ok:cH c.now/\cJ c.field.points/\fC c.certs/\fE c.agenda
 case neg=>rw [if_neg ok,if_neg (c:=bF c) (fun h=>ok ⟨h.nowv,h.fld,h.crt,h.agd⟩)]
 obtain ⟨nowv,fld,crt,agd⟩:=ok;rw [if_pos ⟨nowv,fld,crt,agd⟩]
 by_cases w2:c.agenda.where_.length=200
 case neg=>
  rw [if_neg (c:=bF c) (fun h=>w2 h.w200)]
  refine aL ?_;unfold fM;simp only [aF,dec_f (show¬(4:Int)<4 by omega),cond_false,cQ (show¬(c.agenda.where_.length:Int)=200 by omega),cond_true]
 by_cases hd:c.agenda.heap.length=c.due.length
 case neg=>
  rw [if_neg (c:=bF c) (fun h=>hd h.hd)]
  refine aL ?_;unfold fM;simp only [aF,dec_f (show¬(4:Int)<4 by omega),cond_false,bS (show (c.agenda.where_.length:Int)=200 by omega),cQ (show¬(c.agenda.heap.length:Int)=(c.due.length:Int) by omega),cond_true]
 have run:=YW nowv fit.now64 fld crt agd w2 c.certs.list.length 0 c.due (by omega) (by omega) fit.du
 rw [List.drop_zero] at run;have same:((∀j,0<=j->j<c.certs.list.length->kU c.field.points (c.certs.list[j]!).2)/\aU c.field.points c.now c.agenda.heap c.certs.list c.due)↔bF c:=by
  rw [f1];constructor
  · rintro ⟨h1,h2⟩;exact ⟨nowv,fld,crt,agd,w2,hd,fun i hi=>h1 i (by omega) hi,h2⟩
  · rintro ⟨_,_,_,_,_,_,h1,h2⟩;exact ⟨fun j _ hj=>h1 j hj,h2⟩
 simp only [same] at run;refine aL ?_;unfold fM;simp only [aF,dec_f (show¬(4:Int)<4 by omega),cond_false,bS (show (c.agenda.where_.length:Int)=200 by omega),bS (show (c.agenda.heap.length:Int)=(c.due.length:Int) by omega)]
 exact run
theorem aNj {a:aO} (ok:fE a) (h:Int×Int):yJ a h=some (if AD a.slots h then (a.heap[(a.where_[h.1.toNat]!).toNat]!,0) else ((0,0,0,0,0),6)):=by
 unfold yJ;rw [E5 a ok.fit,if_pos ok,aCt ok.so];simp only [aD,show ((0:Int) !=0)=false from rfl,cond_false]
 by_cases lv:AD a.slots h
 · obtain ⟨i,hi,hw,hh⟩:=ok.live lv
   have:=lv.1;have:=lv.2.1;have:=ok.wl
   rw [aK lv,if_pos lv,dX (l:=a.where_) lv.1 (by omega),hw]
   simp only [Bool.not_true,cond_false,aD,aE a.heap i hi,Int.toNat_natCast]
 · rw [dec_f lv,if_neg lv];rfl
theorem YY {c:aQ} (now64:rE c.now) (fld:cJ c.field.points) (crt:fC c.certs) (agd:fE c.agenda) (w2:c.agenda.where_.length=200) (hdu:c.due.length<=1000000)
 (kn: ∀i,i<c.certs.list.length->kU c.field.points (c.certs.list[i]!).2):
 ∀(d i k:Nat),c.certs.list.length-i<=d->i<=c.certs.list.length->k<=c.due.length->
  aH dS ((k:Int),(i:Int),c.now.1,c.now.2,c.field.points,c.certs.next_,c.certs.list,c.agenda.slots.uses,c.agenda.slots.used,c.agenda.slots.free,c.agenda.heap,c.agenda.where_,c.due)=
   some (if aU c.field.points c.now c.agenda.heap (c.certs.list.drop i) (c.due.drop k) then 0 else 8):=by
 have hl:=crt.len;have wl:=agd.wl
 have fin: ∀k:Nat,k<=c.due.length->aH dS ((k:Int),(c.certs.list.length:Int),c.now.1,c.now.2,c.field.points,c.certs.next_,c.certs.list,c.agenda.slots.uses,c.agenda.slots.used,c.agenda.slots.free,c.agenda.heap,c.agenda.where_,c.due)=some (if aU c.field.points c.now c.agenda.heap (c.certs.list.drop c.certs.list.length) (c.due.drop k) then 0 else 8):=by
  intro k hk;rw [List.drop_length];refine aL ?_;unfold dS;have e1:decide ((c.certs.list.length:Int)<(c.certs.list.length:Int))=false:=dec_f (by omega)
  simp only [aF,e1,cond_false]
  have:aU c.field.points c.now c.agenda.heap [] (c.due.drop k)↔k=c.due.length:=by
   show c.due.drop k=[]↔_;rw [List.drop_eq_nil_iff];omega
  by_cases h:k=c.due.length
  · rw [if_pos (this.2 h),bS (by omega)];rfl
  · rw [if_neg (fun x=>h (this.1 x)),cQ (by omega)];rfl
 intro d
 induction d with
 |zero=>
  intro i k hd hi hk
  have:i=c.certs.list.length:=by omega
  subst this;exact fin k hk
 |succ d ih=>
  intro i k hd hi hk
  by_cases he:i=c.certs.list.length
  · subst he;exact fin k hk
  have hi':i<c.certs.list.length:=by omega
  have e1:decide ((i:Int)<(c.certs.list.length:Int))=true:=aK (by omega)
  have hw:=A1 fld (x:=(c.certs.list[i]!).2) (t:=(c.now.1,c.now.2)) now64 (kn i hi');have dr:=xN hi';have sc:=aT (show i<1000000000 by omega)
  have sk:=aT (show k<1000000000 by omega)
  by_cases is:(bK c.field.points (c.certs.list[i]!).2 c.now).2=true
  case neg=>
   have is':(bK c.field.points (c.certs.list[i]!).2 c.now).2=false:=by simpa using is
   rw [bA (y:=((k:Int),((i+1:Nat):Int),c.now.1,c.now.2,c.field.points,c.certs.next_,c.certs.list,c.agenda.slots.uses,c.agenda.slots.used,c.agenda.slots.free,c.agenda.heap,c.agenda.where_,c.due)) (by
    unfold dS;simp only [aF,e1,cond_true,aE c.certs.list i hi',aD,hw,sc,is',Bool.not_false]),ih (i+1) k (by omega) (by omega) hk]
   have same:aU c.field.points c.now c.agenda.heap (c.certs.list.drop i) (c.due.drop k)↔aU c.field.points c.now c.agenda.heap (c.certs.list.drop (i+1)) (c.due.drop k):=by
    rw [dr];exact ⟨fun h=>h.2 is',fun h=>⟨fun h'=>absurd h' is,fun _=>h⟩⟩
   simp only [same]
  have stop:(¬aU c.field.points c.now c.agenda.heap (c.certs.list.drop i) (c.due.drop k))->dS ((k:Int),(i:Int),c.now.1,c.now.2,c.field.points,c.certs.next_,c.certs.list,c.agenda.slots.uses,c.agenda.slots.used,c.agenda.slots.free,c.agenda.heap,c.agenda.where_,c.due)=some (.done 8)->
   aH dS ((k:Int),(i:Int),c.now.1,c.now.2,c.field.points,c.certs.next_,c.certs.list,c.agenda.slots.uses,c.agenda.slots.used,c.agenda.slots.free,c.agenda.heap,c.agenda.where_,c.due)=some (if aU c.field.points c.now c.agenda.heap (c.certs.list.drop i) (c.due.drop k) then 0 else 8):=by
   intro h1 h2;rw [if_neg h1];exact aL h2
  by_cases hkl:k=c.due.length
  · refine stop (fun h=>?_) ?_
    · rw [dr] at h
      obtain ⟨d,ds',h1,_⟩:=h.1 is;rw [hkl,List.drop_length] at h1;cases h1
    · unfold dS
      simp only [aF,e1,cond_true,aE c.certs.list i hi',aD,hw,is,Bool.not_true,cond_false,aK (show (c.due.length:Int)<=(k:Int) by omega)]
  have hk':k<c.due.length:=by omega
  have dk:=xN hk';have e2:decide ((c.due.length:Int)<=(k:Int))=false:=dec_f (by omega)
  have fol: ¬((c.due[k]!).1=(c.certs.list[i]!).1/\(((bK c.field.points (c.certs.list[i]!).2 c.now).1.1,(bK c.field.points (c.certs.list[i]!).2 c.now).1.2,(c.certs.list[i]!).1,(c.due[k]!).2):Ev)∈c.agenda.heap)-> ¬aU c.field.points c.now c.agenda.heap (c.certs.list.drop i) (c.due.drop k):=by
   intro hn h;rw [dr,dk] at h;obtain ⟨d,ds',h1,h2,h3,_⟩:=h.1 is;injection h1 with h1 _;subst h1;exact hn ⟨h2,h3⟩
  by_cases b1:(c.due[k]!).1=(c.certs.list[i]!).1
  case neg=>
   refine stop (fol (fun h=>b1 h.1)) ?_
   unfold dS;simp only [aF,e1,cond_true,aE c.certs.list i hi',aD,hw,is,Bool.not_true,cond_false,e2,aE c.due k hk',cQ b1]
  have fi:=aNj agd (c.due[k]!).2;have ea:=aN3 agd w2 (bK c.field.points (c.certs.list[i]!).2 c.now).1 (c.certs.list[i]!).1 (c.due[k]!).2;have fi':yJ (aO.mk (aV.mk c.agenda.slots.uses c.agenda.slots.used c.agenda.slots.free) c.agenda.heap c.agenda.where_) (c.due[k]!).2=_:=fi
  by_cases lv:AD c.agenda.slots (c.due[k]!).2
  case neg=>
   rw [if_neg lv] at fi';refine stop (fol (fun h=>lv ?_)) ?_
   · obtain ⟨w,hw',hev⟩:=aW.1 h.2
     have:=(agd.handle hw').1
     rwa [hev] at this
   · unfold dS
     simp only [aF,e1,cond_true,aE c.certs.list i hi',aD,hw,is,Bool.not_true,cond_false,e2,aE c.due k hk',bS b1,fi',show ((6:Int) !=0)=true from rfl]
  rw [if_pos lv] at fi';obtain ⟨w,hw1,hw2,hw3⟩:=agd.live lv;rw [hw2,Int.toNat_natCast] at fi';have q1:(0<=(c.due[k]!).2.1/\(c.due[k]!).2.1<200/\0<=c.agenda.where_[(c.due[k]!).2.1.toNat]!):=⟨lv.1,by have:=lv.2.1;omega,by rw [hw2];omega⟩
  by_cases b2:(c.agenda.heap[w]!).2.2.1=(c.certs.list[i]!).1
  case neg=>
   refine stop (fol (fun h=>b2 ?_)) ?_
   · have:=(ea.2 h.2).2.2.2
     rw [hw2,Int.toNat_natCast] at this;rw [this]
   · unfold dS
     simp only [aF,e1,cond_true,aE c.certs.list i hi',aD,hw,is,Bool.not_true,cond_false,e2,aE c.due k hk',bS b1,fi',show ((0:Int) !=0)=false from rfl,cQ b2]
  have teq:((c.agenda.heap[w]!).1==(bK c.field.points (c.certs.list[i]!).2 c.now).1.1&&(c.agenda.heap[w]!).2.1==(bK c.field.points (c.certs.list[i]!).2 c.now).1.2)=decide (((c.agenda.heap[w]!).1,(c.agenda.heap[w]!).2.1)=(bK c.field.points (c.certs.list[i]!).2 c.now).1):=by
   rw [Bool.eq_iff_iff,decide_eq_true_iff];simp only [Bool.and_eq_true,beq_iff_eq];constructor
   · rintro ⟨h1,h2⟩;exact Prod.ext h1 h2
   · intro h;rw [<- h];exact ⟨rfl,rfl⟩
  by_cases b3:((c.agenda.heap[w]!).1,(c.agenda.heap[w]!).2.1)=(bK c.field.points (c.certs.list[i]!).2 c.now).1
  case neg=>
   refine stop (fol (fun h=>b3 ?_)) ?_
   · have:=(ea.2 h.2).2.2.2
     rw [hw2,Int.toNat_natCast] at this;rw [this]
   · unfold dS
     simp only [aF,e1,cond_true,aE c.certs.list i hi',aD,hw,is,Bool.not_true,cond_false,e2,aE c.due k hk',bS b1,fi',show ((0:Int) !=0)=false from rfl,bS b2];rw [teq,dec_f b3];rfl
  have hmem:=ea.1 ⟨q1.1,q1.2.1,q1.2.2,by
   rw [hw2,Int.toNat_natCast];have t1:=congrArg Prod.fst b3;have t2:=congrArg Prod.snd b3;exact Prod.ext t1 (Prod.ext t2 (Prod.ext b2 hw3))⟩
  rw [bA (y:=(((k+1:Nat):Int),((i+1:Nat):Int),c.now.1,c.now.2,c.field.points,c.certs.next_,c.certs.list,c.agenda.slots.uses,c.agenda.slots.used,c.agenda.slots.free,c.agenda.heap,c.agenda.where_,c.due)) (by
   unfold dS;simp only [aF,e1,cond_true,aE c.certs.list i hi',aD,hw,is,Bool.not_true,cond_false,e2,aE c.due k hk',bS b1,fi',show ((0:Int) !=0)=false from rfl,bS b2,sc,sk];rw [teq,aK b3]
   rfl),ih (i+1) (k+1) (by omega) (by omega) (by omega)]
  have same:aU c.field.points c.now c.agenda.heap (c.certs.list.drop i) (c.due.drop k)↔aU c.field.points c.now c.agenda.heap (c.certs.list.drop (i+1)) (c.due.drop (k+1)):=by
   rw [dr,dk];constructor
   · intro h2
     obtain ⟨d,ds',k1,k2,k3,k4⟩:=h2.1 is;injection k1 with k1 k5;subst k5;exact k4
   · intro h2
     exact ⟨fun _=>⟨_,_,rfl,b1,hmem,h2⟩,fun h=>by rw [is] at h;cases h⟩
  simp only [same]
theorem P0 {c:aQ} (fit:wD c):zY c=some (if bF c then 0 else 8):=by
 unfold zY;rw [sS fit.now64,sT,E8,E5 _ fit.ag];simp only [aD]
 by_cases nowv:cH c.now
 case neg=>rw [if_neg nowv,if_neg (c:=bF c) (fun h=>nowv h.nowv)];rfl
 rw [if_pos nowv]
 by_cases fld:cJ c.field.points
 case neg=>rw [cQ (fun h=>fld (kM.1 h)),if_neg (c:=bF c) (fun h=>fld h.fld)];rfl
 rw [bS (kM.2 fld)]
 by_cases crt:fC c.certs
 case neg=>rw [if_neg crt,if_neg (c:=bF c) (fun h=>crt h.crt)];rfl
 rw [if_pos crt];have kn:=aFP c.certs fld crt.len;simp only [show ((0:Int) !=0)=false from rfl,cond_false,kn,aD]
 by_cases known: ∀i,i<c.certs.list.length->kU c.field.points (c.certs.list[i]!).2
 case neg=>rw [dec_f known,if_neg (c:=bF c) (fun h=>known h.known)];rfl
 rw [aK known]
 by_cases agd:fE c.agenda
 case neg=>rw [if_neg agd,if_neg (c:=bF c) (fun h=>agd h.agd)];rfl
 rw [if_pos agd];simp only [aF,show ((0:Int) !=0)=false from rfl,cond_false,Bool.not_true]
 by_cases w2:c.agenda.where_.length=200
 case neg=>rw [cQ (by omega),if_neg (c:=bF c) (fun h=>w2 h.w200)];rfl
 rw [bS (by omega)]
 by_cases hd:c.agenda.heap.length=c.due.length
 case neg=>rw [cQ (by omega),if_neg (c:=bF c) (fun h=>hd h.hd)];rfl
 rw [bS (by omega)]
 have run:=YY fit.now64 fld crt agd w2 fit.du known c.certs.list.length 0 0 (by omega) (by omega) (by omega)
 rw [List.drop_zero,List.drop_zero] at run;have same:aU c.field.points c.now c.agenda.heap c.certs.list c.due↔bF c:=by
  rw [bF.iff fit];exact ⟨fun h=>⟨nowv,fld,crt,agd,w2,hd,known,h⟩,fun h=>h.2.2.2.2.2.2.2⟩
 simp only [same] at run;simp only [cond_false];exact run
section
variable {l : List Pt} {t : Int × Int}
theorem aU.cons_true {H:List Ev} {x:wO} {cs ds:List wO} (h:(bK l x.2 t).2=true):aU l t H (x::cs) ds↔ ∃d ds',ds=d::ds'/\d.1=x.1/\(((bK l x.2 t).1.1,(bK l x.2 t).1.2,x.1,d.2):Ev)∈H/\aU l t H cs ds':=
 ⟨fun k=>k.1 h,fun k=>⟨fun _=>k,fun k'=>(by rw [h] at k';cases k')⟩⟩
theorem aU.cons_false {H:List Ev} {x:wO} {cs ds:List wO} (h:(bK l x.2 t).2=false):aU l t H (x::cs) ds↔aU l t H cs ds:=
 ⟨fun k=>k.2 h,fun k=>⟨fun k'=>(by rw [h] at k';cases k'),fun _=>k⟩⟩
theorem aU.mono {H H':List Ev}: ∀{cs ds:List wO},(∀x∈cs,∀e:Ev,e.num=x.1->e∈H->e∈H')->aU l t H cs ds->aU l t H' cs ds
 | [],_,_,h=>h
 |x::cs,ds,hm,h=>by
  have hm': ∀y∈cs,∀e:Ev,e.num=y.1->e∈H->e∈H':=fun y hy=>hm y (by simp [hy])
  cases hx:(bK l x.2 t).2 with
  |true=>
   rw [aU.cons_true hx] at h ⊢;obtain ⟨d,ds',h1,h2,h3,h4⟩:=h;exact ⟨d,ds',h1,h2,hm x (by simp) _ rfl h3,aU.mono hm' h4⟩
  |false=>
   rw [aU.cons_false hx] at h ⊢;exact aU.mono hm' h
theorem aU.due {H:List Ev}: ∀{cs ds:List wO},aU l t H cs ds-> ∀d∈ds,∃x∈cs,d.1=x.1/\(bK l x.2 t).2=true/\(((bK l x.2 t).1.1,(bK l x.2 t).1.2,x.1,d.2):Ev)∈H
 | [],ds,h,d,hd=>by
  have:ds=[]:=h
  subst this;cases hd
 |x::cs,ds,h,d,hd=>by
  cases hx:(bK l x.2 t).2 with
  |true=>
   rw [aU.cons_true hx] at h;obtain ⟨e,ds',h1,h2,h3,h4⟩:=h;subst h1;rcases List.mem_cons.1 hd with rfl|hd
   · exact ⟨x,by simp,h2,hx,h3⟩
   · obtain ⟨y,hy,k⟩:=aU.due h4 d hd
     exact ⟨y,by simp [hy],k⟩
  |false=>
   rw [aU.cons_false hx] at h;obtain ⟨y,hy,k⟩:=aU.due h d hd;exact ⟨y,by simp [hy],k⟩
theorem aU.has {H:List Ev}: ∀{cs ds:List wO},aU l t H cs ds-> ∀x∈cs,(bK l x.2 t).2=true-> ∃d∈ds,d.1=x.1/\(((bK l x.2 t).1.1,(bK l x.2 t).1.2,x.1,d.2):Ev)∈H
 | [],_,_,x,hx,_=>by cases hx
 |y::cs,ds,h,x,hx,hf=>by
  cases hy:(bK l y.2 t).2 with
  |true=>
   rw [aU.cons_true hy] at h;obtain ⟨e,ds',h1,h2,h3,h4⟩:=h;subst h1;rcases List.mem_cons.1 hx with rfl|hx
   · exact ⟨e,by simp,h2,h3⟩
   · obtain ⟨d,hd,k⟩:=aU.has h4 x hx hf
     exact ⟨d,by simp [hd],k⟩
  |false=>
   rw [aU.cons_false hy] at h;rcases List.mem_cons.1 hx with rfl|hx
   · rw [hf] at hy;cases hy
   · exact aU.has h x hx hf
def Up (cs:List wO):Prop:=cs.Pairwise fun x y=>x.1<y.1
theorem xG {cs:List wO}:Up cs↔ ∀i j,i<j->j<cs.length->(cs[i]!).1<(cs[j]!).1:=by
 unfold Up;rw [List.pairwise_iff_getElem];constructor
 · intro h i j hij hj
   rw [getElem!_pos cs i (by omega),getElem!_pos cs j hj]
   exact h i j (by omega) hj hij
 · intro h i j hi hj hij
   have:=h i j hij hj
   rwa [getElem!_pos cs i hi,getElem!_pos cs j hj] at this
theorem aU.up {H:List Ev}: ∀{cs ds:List wO},aU l t H cs ds->Up cs->Up ds
 | [],ds,h,_=>by
  have:ds=[]:=h
  subst this;exact List.Pairwise.nil
 |x::cs,ds,h,hu=>by
  have hu':=List.pairwise_cons.1 hu;cases hx:(bK l x.2 t).2 with
  |true=>
   rw [aU.cons_true hx] at h;obtain ⟨e,ds',h1,h2,h3,h4⟩:=h;subst h1;refine List.pairwise_cons.2 ⟨fun d hd=>?_,aU.up h4 hu'.2⟩
   obtain ⟨y,hy,k,_⟩:=aU.due h4 d hd
   have:=hu'.1 y hy
   omega
  |false=>
   rw [aU.cons_false hx] at h;exact aU.up h hu'.2
theorem aU.snoc {H:List Ev}: ∀{cs ds:List wO} {x:wO},aU l t H cs ds->((bK l x.2 t).2=false->aU l t H (cs++[x]) ds)/\
 (∀d:wO,(bK l x.2 t).2=true->d.1=x.1->(((bK l x.2 t).1.1,(bK l x.2 t).1.2,x.1,d.2):Ev)∈H->aU l t H (cs++[x]) (ds++[d]))
 | [],ds,x,h=>by
  have:ds=[]:=h
  subst this;refine ⟨fun hx=>(aU.cons_false hx).2 rfl,fun d hx h1 h2=>(aU.cons_true hx).2 ⟨d,[],rfl,h1,h2,rfl⟩⟩
 |y::cs,ds,x,h=>by
  cases hy:(bK l y.2 t).2 with
  |true=>
   rw [aU.cons_true hy] at h;obtain ⟨e,ds',h1,h2,h3,h4⟩:=h;subst h1;have ih:=aU.snoc (x:=x) h4;refine ⟨fun hx=>(aU.cons_true hy).2 ⟨e,ds',rfl,h2,h3,ih.1 hx⟩,fun d hx k1 k2=>(aU.cons_true hy).2 ⟨e,ds'++[d],rfl,h2,h3,ih.2 d hx k1 k2⟩⟩
  |false=>
   rw [aU.cons_false hy] at h;have ih:=aU.snoc (x:=x) h;exact ⟨fun hx=>(aU.cons_false hy).2 (ih.1 hx),fun d hx k1 k2=>(aU.cons_false hy).2 (ih.2 d hx k1 k2)⟩
theorem aU.erase {H:List Ev}: ∀{cs ds:List wO} {i:Nat},aU l t H cs ds->i<cs.length->((bK l (cs[i]!).2 t).2=false->aU l t H (cs.eraseIdx i) ds)/\
 ((bK l (cs[i]!).2 t).2=true-> ∃k,k<ds.length/\(ds[k]!).1=(cs[i]!).1/\(((bK l (cs[i]!).2 t).1.1,(bK l (cs[i]!).2 t).1.2,(cs[i]!).1,(ds[k]!).2):Ev)∈H/\aU l t H (cs.eraseIdx i) (ds.eraseIdx k))
 | [],_,i,_,hi=>by cases hi
 |y::cs,ds,0,h,_=>by
  show ((bK l y.2 t).2=false->aU l t H cs ds)/\((bK l y.2 t).2=true-> ∃k,k<ds.length/\(ds[k]!).1=y.1/\(((bK l y.2 t).1.1,(bK l y.2 t).1.2,y.1,(ds[k]!).2):Ev)∈H/\aU l t H cs (ds.eraseIdx k));refine ⟨fun hy=>(aU.cons_false hy).1 h,fun hy=>?_⟩
  obtain ⟨e,ds',h1,h2,h3,h4⟩:=(aU.cons_true hy).1 h;subst h1;exact ⟨0,by simp,h2,h3,h4⟩
 |y::cs,ds,i+1,h,hi=>by
  have hi':i<cs.length:=by simpa using hi
  show ((bK l (cs[i]!).2 t).2=false->aU l t H (y::cs.eraseIdx i) ds)/\((bK l (cs[i]!).2 t).2=true-> ∃k,k<ds.length/\(ds[k]!).1=(cs[i]!).1/\(((bK l (cs[i]!).2 t).1.1,(bK l (cs[i]!).2 t).1.2,(cs[i]!).1,(ds[k]!).2):Ev)∈H/\aU l t H (y::cs.eraseIdx i) (ds.eraseIdx k));cases hy:(bK l y.2 t).2 with
  |true=>
   obtain ⟨e,ds',h1,h2,h3,h4⟩:=(aU.cons_true hy).1 h;subst h1;have ih:=aU.erase (i:=i) h4 hi';refine ⟨fun hx=>(aU.cons_true hy).2 ⟨e,ds',rfl,h2,h3,ih.1 hx⟩,fun hx=>?_⟩
   obtain ⟨k,k1,k2,k3,k4⟩:=ih.2 hx;exact ⟨k+1,by simp;omega,k2,k3,(aU.cons_true hy).2 ⟨e,ds'.eraseIdx k,rfl,h2,h3,k4⟩⟩
  |false=>
   have h:=(aU.cons_false hy).1 h;have ih:=aU.erase (i:=i) h hi';refine ⟨fun hx=>(aU.cons_false hy).2 (ih.1 hx),fun hx=>?_⟩
   obtain ⟨k,k1,k2,k3,k4⟩:=ih.2 hx;exact ⟨k,k1,k2,k3,(aU.cons_false hy).2 k4⟩
end
theorem L8 {H:List Ev} {ns:List Int} (hd:ns.Nodup) (hl:H.length<=ns.length) (he: ∀n∈ns,∃e∈H,Ev.num e=n): ∀e∈H,Ev.num e∈ns:=by
 have pos: ∀n,n∈ns-> ∃w,w<H.length/\Ev.num H[w]! =n:=fun n hn=>by
  obtain ⟨e,he,h2⟩:=he n hn;obtain ⟨w,hw,rfl⟩:=aW.1 he;exact ⟨w,hw,h2⟩
 let f:Int->Nat:=fun n=>if h: ∃w,w<H.length/\Ev.num H[w]! =n then h.choose else 0
 have hf: ∀n∈ns,f n<H.length/\Ev.num H[f n]! =n:=fun n hn=>by
  have h:=pos n hn;show (if h: ∃w,w<H.length/\Ev.num H[w]! =n then h.choose else 0)<_/\Ev.num H[(if h: ∃w,w<H.length/\Ev.num H[w]! =n then h.choose else 0)]! =n
  rw [dif_pos h];exact h.choose_spec
 have full:=L3 (n:=H.length) (l:=ns.map f) (F9 hd fun x hx y hy h=>by
  have h1:=(hf x hx).2;have h2:=(hf y hy).2;rw [h] at h1
  omega) (fun x hx=>by
  obtain ⟨n,hn,rfl⟩:=List.mem_map.1 hx;exact (hf n hn).1) (by rw [List.length_map];exact hl)
 intro e hm;obtain ⟨w,hw,rfl⟩:=aW.1 hm;obtain ⟨n,hn,h⟩:=List.mem_map.1 (full w hw);rw [<- h,(hf n hn).2];exact hn
theorem YZ {cs:List wO} (h:Up cs):(cs.map fun x=>x.1).Nodup:=by
 refine F9 ?_ ?_
 · unfold Up at h
   exact h.imp fun hab he=>by rw [he] at hab;omega
 · intro x hx y hy he
   obtain ⟨i,hi,rfl⟩:=aW.1 hx;obtain ⟨j,hj,rfl⟩:=aW.1 hy;rcases Nat.lt_trichotomy i j with h1|h1|h1
   · have:=xG.1 h i j h1 hj;omega
   · rw [h1]
   · have:=xG.1 h j i h1 hi;omega
theorem bF.crt_up {c:aQ} (ok:bF c):Up c.certs.list:=xG.2 ok.crt.up
theorem bF.due_up {c:aQ} (ok:bF c):Up c.due:=ok.fol.up ok.crt_up
theorem bF.nums {c:aQ} (ok:bF c): ∀e∈c.agenda.heap,∃d∈c.due,d.1=Ev.num e:=by
 have:=L8 (H:=c.agenda.heap) (YZ ok.due_up) (by rw [List.length_map,ok.hd];exact Nat.le_refl _) (fun n hn=>by
  obtain ⟨d,hd,rfl⟩:=List.mem_map.1 hn;obtain ⟨x,hx,h1,h2,h3⟩:=ok.fol.due d hd;exact ⟨_,h3,h1.symm⟩)
 intro e he;obtain ⟨d,hd,h⟩:=List.mem_map.1 (this e he);exact ⟨d,hd,h⟩
end Go.Proofs.YtlnclppkepgdmaaGreat
