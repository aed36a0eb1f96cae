/- Plain laws (2). -/
import Derived.Test.YtmlghnibpjlchaaGreatBQM1
namespace Go.Proofs.YtmlghnibpjlchaaGreat
open Go.Vm Classical
theorem MT (a:aJ) (fit:FZ a) (so:eY a.slots) (wl:a.where_.length=a.slots.uses.length):
 aK jT (a.where_,(a.where_.length:Int),0,a.slots.uses,a.slots.used,a.slots.free,a.heap,a.where_)=some (if (∀i,i<a.slots.uses.length->JD a i)/\(∀k,k<a.heap.length->JV a.heap k) then 0 else 8):=by
 have hu:=so.ul;have hn:=so.n2;have hh:=fit.hp;have inner:=MS a.heap a.slots.uses a.slots.free a.where_ a.slots.used fit.hp fit.at64
 have key:=cS (body:=jT) (fun i=>(a.where_,(a.where_.length:Int),(i:Int),a.slots.uses,a.slots.used,a.slots.free,a.heap,a.where_)) a.where_.length (fun i=> ¬JD a i) (r:=8) (e:=if (∀k,k<a.heap.length->JV a.heap k) then 0 else 8) (fun i hi=>by
  have e1:decide ((i:Int)<(a.where_.length:Int))=true:=aS (by omega)
  unfold jT;simp only [aH,e1,cond_true,aD a.where_ i hi,aD a.slots.used i (by omega),aD a.slots.uses i (by omega),aE,bD (show i<1000000000 by omega)]
  unfold JD;generalize a.where_[i]! =w at*;cases hb:a.slots.used[i]! with
  |false=>
   simp only [Bool.not_false,cond_true]
   by_cases hw:w= -1
   · rw [cB hw]
     exact ⟨fun h=>absurd ⟨fun h=>(by cases h),fun _=>hw⟩ h,fun _=>rfl⟩
   · rw [dM hw]
     exact ⟨fun _=>rfl,fun h=>absurd ((Classical.not_not.1 h).2 trivial) hw⟩
  |true=>
   simp only [Bool.not_true,cond_false]
   by_cases b1:w<0
   · rw [aS b1]
     exact ⟨fun _=>rfl,fun h=>absurd ((Classical.not_not.1 h).1 trivial).1 (by omega)⟩
   by_cases b2:(a.heap.length:Int)<=w
   · rw [aM b1,aS b2]
     exact ⟨fun _=>rfl,fun h=>absurd ((Classical.not_not.1 h).1 trivial).2.1 (by omega)⟩
   rw [aM b1,aM b2];simp only [cond_false,jU (l:=a.heap) (i:=w) (by omega) (by omega),aE]
   by_cases b3:(a.heap[w.toNat]!).2.2.2.1=i
   · by_cases b4:(a.heap[w.toNat]!).2.2.2.2=a.slots.uses[i]!
     · rw [gL b3,gL b4]
       exact ⟨fun h=>absurd ⟨fun _=>⟨by omega,by omega,b3,b4⟩,fun h=>(by cases h)⟩ h,fun _=>rfl⟩
     · rw [gL b3,fM b4]
       exact ⟨fun _=>rfl,fun h=>absurd ((Classical.not_not.1 h).1 trivial).2.2.2 b4⟩
   · rw [fM b3]
     exact ⟨fun _=>rfl,fun h=>absurd ((Classical.not_not.1 h).1 trivial).2.2.1 b3⟩) (by
  unfold jT
  have:decide ((a.where_.length:Int)<(a.where_.length:Int))=false:=aM (by omega)
  simp only [aH,this,cond_false]
  by_cases hx: ∀k,k<a.heap.length->JV a.heap k
  · rw [if_pos hx];exact inner.1 hx
  · rw [if_neg hx];exact inner.2 hx)
 by_cases hw: ∀i,i<a.slots.uses.length->JD a i
 · refine (key.2 fun i hi=>Classical.not_not.2 (hw i (by omega))).trans ?_
   by_cases hx: ∀k,k<a.heap.length->JV a.heap k
   · rw [if_pos hx,if_pos ⟨hw,hx⟩]
   · rw [if_neg hx,if_neg (fun h=>hx h.2)]
 · rw [if_neg (fun h=>hw h.1)]
   obtain ⟨i,h⟩:=Classical.not_forall.1 hw;obtain ⟨hi,hx⟩:=Classical.not_imp.1 h;exact key.1 ⟨i,by omega,hx⟩
theorem lW (a:aJ) (fit:FZ a):hM a=some (if fS a then 0 else 8):=by
 have hh:=fit.hp;unfold hM;rw [BG _ fit.fr];simp only [aH]
 by_cases so:eY a.slots
 case neg=>rw [if_neg so,if_neg (fun h=>so h.so)];rfl
 have hu:=so.ul;have hn:=so.n2;have hf:=so.fl;rw [if_pos so];simp only [aE,show ((0:Int) !=0)=false from rfl,cond_false]
 by_cases wl:a.where_.length=a.slots.uses.length
 case neg=>
  rw [dM (by omega),if_neg (fun h=>wl h.wl)];rfl
 rw [cB (by omega)]
 have e:aA .i64 ((a.slots.used.length:Int) - (a.slots.free.length:Int))=((a.slots.uses.length-a.slots.free.length:Nat):Int):=by rw [wi];omega
 rw [e]
 by_cases hl:a.heap.length+a.slots.free.length=a.slots.uses.length
 case neg=>
  rw [dM (by omega),if_neg (fun h=>hl h.hl)];rfl
 rw [cB (by omega)]
 simp only [cond_false];rw [MT a fit so wl]
 by_cases ok:fS a
 · rw [if_pos ok,if_pos ok.to]
 · rw [if_neg ok,if_neg]
   intro h;exact ok (fS.of fit so wl hl h.1 h.2)
theorem YT {x y:Ev} (hx:pC (x.1,x.2.1)) (hy:pC (y.1,y.2.1)):dE x y=some (decide (eU x y)):=by
 unfold dE eU;rw [I2 hx hy];simp only [aE];generalize CN (x.1,x.2.1) (y.1,y.2.1)=c
 by_cases h1:c<0
 · simp [h1]
 · by_cases h2:c=0
   · subst h2;simp
   · simp only [h1,fM h2,h2,decide_false,cond_false,false_or,false_and]
theorem UC {s:aR} (ok:eY s) (h:Int×Int):sL s h=some (decide (D2 s h)):=by
 have hu:=ok.ul;unfold sL D2;simp only [aH]
 by_cases a1:0<=h.1
 · by_cases a2:h.1<s.uses.length
   · simp only [a1,a2,decide_true,cond_true,jU (l:=s.used) a1 (by omega),jU (l:=s.uses) a1 a2,aE,true_and]
     generalize s.uses[h.1.toNat]! =u;cases s.used[h.1.toNat]!<;>simp [aFI]
   · simp [a1,a2]
 · simp [a1]
theorem VO (a:aJ) (so:eY a.slots):rO a=some (decide (a.where_.length=a.slots.uses.length/\a.heap.length+a.slots.free.length=a.slots.uses.length/\ ∀i,i<a.slots.uses.length->JD a i)):=by
 have hu:=so.ul;have hn:=so.n2;have hf:=so.fl;unfold rO;simp only [aH]
 by_cases wl:a.where_.length=a.slots.uses.length
 case neg=>
  rw [dM (by omega),aM (fun h=>wl h.1)];rfl
 rw [cB (by omega)]
 have e:aA .i64 ((a.slots.uses.length:Int) - (a.slots.free.length:Int))=((a.slots.uses.length-a.slots.free.length:Nat):Int):=by rw [wi];omega
 rw [e]
 by_cases hl:a.heap.length+a.slots.free.length=a.slots.uses.length
 case neg=>
  rw [dM (by omega),aM (fun h=>hl h.2.1)];rfl
 rw [cB (by omega)]
 simp only [cond_false];have key:=cS (body:=lT) (fun i=>((a.slots.uses.length:Int),(i:Int),a.slots.uses,a.slots.used,a.slots.free,a.heap,a.where_)) a.slots.uses.length (fun i=> ¬JD a i) (r:=false) (e:=true) (fun i hi=>by
  have e1:decide ((i:Int)<(a.slots.uses.length:Int))=true:=aS (by omega)
  unfold lT;simp only [aH,e1,cond_true,aD a.where_ i (by omega),aD a.slots.used i (by omega),aE,bD (show i<1000000000 by omega)]
  unfold JD;generalize a.where_[i]! =w at*;cases hb:a.slots.used[i]! with
  |false=>
   simp only [Bool.not_false,cond_true]
   by_cases hw:w= -1
   · rw [cB hw]
     exact ⟨fun h=>absurd ⟨fun h=>(by cases h),fun _=>hw⟩ h,fun _=>rfl⟩
   · rw [dM hw]
     exact ⟨fun _=>rfl,fun h=>absurd ((Classical.not_not.1 h).2 trivial) hw⟩
  |true=>
   simp only [Bool.not_true,cond_false]
   by_cases b1:w<0
   · rw [aS b1]
     exact ⟨fun _=>rfl,fun h=>absurd ((Classical.not_not.1 h).1 trivial).1 (by omega)⟩
   by_cases b2:(a.heap.length:Int)<=w
   · rw [aM b1,aS b2]
     exact ⟨fun _=>rfl,fun h=>absurd ((Classical.not_not.1 h).1 trivial).2.1 (by omega)⟩
   rw [aM b1,aM b2];simp only [cond_false,jU (l:=a.heap) (i:=w) (by omega) (by omega),aE]
   by_cases b3:(a.heap[w.toNat]!).2.2.2.1=i
   · rw [cB b3]
     simp only [cond_false];rw [UC (s:=⟨a.slots.uses,a.slots.used,a.slots.free⟩) so];have lv:D2 ⟨a.slots.uses,a.slots.used,a.slots.free⟩ (a.heap[w.toNat]!).2.2.2↔(a.heap[w.toNat]!).2.2.2.2=a.slots.uses[i]!:=by
      unfold D2;dsimp only;rw [b3];constructor
      · intro h;exact h.2.2.2.symm
      · intro h;exact ⟨by omega,by omega,by rw [Int.toNat_natCast];exact hb,by rw [Int.toNat_natCast];exact h.symm⟩
     simp only [aE,lv]
     by_cases b4:(a.heap[w.toNat]!).2.2.2.2=a.slots.uses[i]!
     · rw [aS b4]
       exact ⟨fun h=>absurd ⟨fun _=>⟨by omega,by omega,b3,b4⟩,fun h=>(by cases h)⟩ h,fun _=>rfl⟩
     · rw [aM b4]
       exact ⟨fun _=>rfl,fun h=>absurd ((Classical.not_not.1 h).1 trivial).2.2.2 b4⟩
   · rw [dM b3]
     exact ⟨fun _=>rfl,fun h=>absurd ((Classical.not_not.1 h).1 trivial).2.2.1 b3⟩) (by
  unfold lT
  have:decide ((a.slots.uses.length:Int)<(a.slots.uses.length:Int))=false:=aM (by omega)
  simp only [this,cond_false])
 by_cases hw: ∀i,i<a.slots.uses.length->JD a i
 · rw [aS ⟨wl,hl,hw⟩]
   exact key.2 fun i hi=>Classical.not_not.2 (hw i hi)
 · rw [aM (fun h=>hw h.2.2)]
   obtain ⟨i,h⟩:=Classical.not_forall.1 hw;obtain ⟨hi,hx⟩:=Classical.not_imp.1 h;exact key.1 ⟨i,hi,hx⟩
theorem PJ (H:List Ev) (u fr W:List Int) (us:List Bool) (k:Nat) (hk:k<H.length) (hl:H.length<=1000000) (x:Ev):
 ((∃j,j<k/\(H[j]!).2.2.1=x.2.2.1)->aK iT ((k:Int),0,u,us,fr,H,W,x)=some (.done 8))/\
 ((∀j,j<k-> ¬(H[j]!).2.2.1=x.2.2.1)->aK iT ((k:Int),0,u,us,fr,H,W,x)=some (.next (((k+1:Nat):Int),u,us,fr,H,W))):=by
 refine cS (body:=iT) (fun j=>((k:Int),(j:Int),u,us,fr,H,W,x)) k (fun j=>(H[j]!).2.2.1=x.2.2.1) (r:= .done 8) (e:= .next (((k+1:Nat):Int),u,us,fr,H,W)) (fun j hj=>?_) ?_
 · have e1:decide ((j:Int)<(k:Int))=true:=aS (by omega)
   unfold iT;simp only [e1,cond_true,aD H j (by omega),aE,bD (show j<1000000000 by omega)]
   constructor
   · intro h;rw [gL h];rfl
   · intro h;rw [fM h];rfl
 · unfold iT
   have:decide ((k:Int)<(k:Int))=false:=aM (by omega)
   simp only [this,cond_false,bD (show k<1000000000 by omega)]
theorem PK (H:List Ev) (u fr W:List Int) (us:List Bool) (hl:H.length<=1000000) (r64: ∀w,w<H.length->pC ((H[w]!).1,(H[w]!).2.1)):
 aK iU (1,u,us,fr,H,W)=some (.done (if∀k,0<k->k<H.length-> ¬eU H[k]! H[(k-1) / 2]! then 0 else 8)):=by
 by_cases h0:H.length=0
 · rw [if_pos (fun k _ hk=>by omega)]
   refine aQ ?_;unfold iU
   have:decide ((1:Int)<(H.length:Int))=false:=aM (by omega)
   simp only [aH,this,cond_false]
 have key:=cS (body:=iU) (fun i=>(((i+1:Nat):Int),u,us,fr,H,W)) (H.length-1) (fun i=>eU H[i+1]! H[i / 2]!) (r:= .done 8) (e:= .done 0) (fun i hi=>by
  have e1:decide (((i+1:Nat):Int)<(H.length:Int))=true:=aS (by omega)
  unfold iU;simp only [aH,e1,cond_true,E9 (show i<1000000000 by omega),aD H (i+1) (by omega),aD H (i / 2) (by omega),aE,YT (r64 (i+1) (by omega)) (r64 (i / 2) (by omega)),bD (show i+1<1000000000 by omega)]
  constructor
  · intro h;rw [aS h];rfl
  · intro h;rw [aM h];rfl) (by
  unfold iU
  have:decide (((H.length-1+1:Nat):Int)<(H.length:Int))=false:=aM (by omega)
  simp only [aH,this,cond_false])
 by_cases ho: ∀k,0<k->k<H.length-> ¬eU H[k]! H[(k-1) / 2]!
 · rw [if_pos ho]
   refine key.2 fun i hi hc=>ho (i+1) (by omega) (by omega) ?_
   rwa [show (i+1-1) / 2=i / 2 by omega]
 · rw [if_neg ho]
   obtain ⟨k,h⟩:=Classical.not_forall.1 ho;obtain ⟨k0,h⟩:=Classical.not_imp.1 h;obtain ⟨hk,hx⟩:=Classical.not_imp.1 h;refine key.1 ⟨k-1,by omega,?_⟩
   rw [show k-1+1=k by omega]
   exact Classical.not_not.1 hx
def MU (H:List Ev) (k:Nat):Prop:=bX ((H[k]!).1,(H[k]!).2.1)/\0<=(H[k]!).2.2.1/\(H[k]!).2.2.1<=1000000/\(∀j,j<k-> ¬(H[j]!).2.2.1=(H[k]!).2.2.1)
theorem zI (a:aJ) (fit:FZ a):qS a=some (if fS a then 0 else 8):=by
 have hh:=fit.hp;unfold qS;rw [JC _ fit.fr]
 by_cases so:eY a.slots
 case neg=>rw [if_neg so,if_neg (fun h=>so h.so)];rfl
 rw [if_pos so];simp only [aE,show ((0:Int) !=0)=false from rfl,cond_false,VO a so]
 by_cases pl:a.where_.length=a.slots.uses.length/\a.heap.length+a.slots.free.length=a.slots.uses.length/\ ∀i,i<a.slots.uses.length->JD a i
 case neg=>
  rw [aM pl,if_neg (fun h=>pl ⟨h.wl,h.hl,h.to.1⟩)];rfl
 rw [aS pl];obtain ⟨wl,hl,hw⟩:=pl;simp only [Bool.not_true,cond_false];have key:=cS (body:=nR) (fun k=>((k:Int),a.slots.uses,a.slots.used,a.slots.free,a.heap,a.where_)) a.heap.length (fun k=> ¬MU a.heap k) (r:=8) (e:=if∀k,0<k->k<a.heap.length-> ¬eU a.heap[k]! a.heap[(k-1) / 2]! then 0 else 8) (fun k hk=>by
  have e1:decide ((k:Int)<(a.heap.length:Int))=true:=aS (by omega)
  have l1:=PJ a.heap a.slots.uses a.slots.free a.where_ a.slots.used k hk hh a.heap[k]!;unfold nR;simp only [aH,e1,cond_true,aD a.heap k hk,aE,nY (fit.at64 k hk)];unfold MU
  by_cases b1:bX ((a.heap[k]!).1,(a.heap[k]!).2.1)
  case neg=>
   rw [if_neg b1];exact ⟨fun _=>rfl,fun h=>absurd (Classical.not_not.1 h).1 b1⟩
  rw [if_pos b1]
  by_cases b2:(a.heap[k]!).2.2.1<0
  · rw [aS b2]
    exact ⟨fun _=>rfl,fun h=>absurd (Classical.not_not.1 h).2.1 (by omega)⟩
  by_cases b3:1000000<(a.heap[k]!).2.2.1
  · rw [aM b2,aS b3]
    exact ⟨fun _=>rfl,fun h=>absurd (Classical.not_not.1 h).2.2.1 (by omega)⟩
  rw [aM b2,aM b3];simp only [show ((0:Int) !=0)=false from rfl,cond_false]
  by_cases b4: ∃j,j<k/\(a.heap[j]!).2.2.1=(a.heap[k]!).2.2.1
  · refine ⟨fun _=>l1.1 b4,fun h=>?_⟩
    obtain ⟨j,j1,j2⟩:=b4;exact absurd j2 ((Classical.not_not.1 h).2.2.2 j j1)
  · have b4': ∀j,j<k-> ¬(a.heap[j]!).2.2.1=(a.heap[k]!).2.2.1:=fun j h1 h2=>b4 ⟨j,h1,h2⟩
    exact ⟨fun h=>absurd ⟨b1,by omega,by omega,b4'⟩ h,fun _=>l1.2 b4'⟩) (by
  unfold nR
  have:decide ((a.heap.length:Int)<(a.heap.length:Int))=false:=aM (by omega)
  simp only [aH,this,cond_false];exact PK a.heap _ _ _ _ hh fit.at64)
 have same:fS a↔(∀k,k<a.heap.length->MU a.heap k)/\ ∀k,0<k->k<a.heap.length-> ¬eU a.heap[k]! a.heap[(k-1) / 2]!:=by
  constructor
  · intro ok
    refine ⟨fun k hk=>?_,ok.ord⟩
    have:=ok.to.2 k hk
    exact ⟨this.1,this.2.1,this.2.2.1,this.2.2.2.1⟩
  · rintro ⟨h1,h2⟩
    refine fS.of fit so wl hl hw fun k hk=>?_
    obtain ⟨c1,c2,c3,c4⟩:=h1 k hk;refine ⟨c1,c2,c3,c4,fun k0=>?_⟩
    unfold RX;rw [if_pos ⟨c1,(h1 ((k-1) / 2) (by omega)).1⟩,D4]
    exact h2 k k0 hk
 by_cases he: ∀k,k<a.heap.length->MU a.heap k
 · refine (key.2 fun i hi=>Classical.not_not.2 (he i hi)).trans ?_
   by_cases ho: ∀k,0<k->k<a.heap.length-> ¬eU a.heap[k]! a.heap[(k-1) / 2]!
   · rw [if_pos ho,if_pos (same.2 ⟨he,ho⟩)]
   · rw [if_neg ho,if_neg (fun h=>ho (same.1 h).2)]
 · rw [if_neg (fun h=>he (same.1 h).1)]
   obtain ⟨i,h⟩:=Classical.not_forall.1 he;obtain ⟨hi,hx⟩:=Classical.not_imp.1 h;exact key.1 ⟨i,hi,hx⟩
end Go.Proofs.YtmlghnibpjlchaaGreat
namespace Go.Proofs.YtmlghnibpjlchaaGreat
open Go.Vm Classical
theorem aNi {s:aR} (so:eY s) {n:Nat} {H:List Ev} {W:List Int} (E:Ev->Prop) (hn:n<=H.length) (wl:W.length=s.uses.length) (hl:n+s.free.length=s.uses.length)
 (ix: ∀w,w<n->0<=(H[w]!).ix/\(H[w]!).ix<W.length/\W[(H[w]!).n]! =(w:Int)) (mem: ∀e,(∃w,w<n/\H[w]! =e)↔E e) (ord: ∀k,0<k->k<n-> ¬eU H[k]! H[(k-1) / 2]!)
 (ue: ∀i,i<s.uses.length->s.used[i]! =true-> ∃e:Ev,E e/\e.ix=i/\e.2.2.2.2=s.uses[i]!) (un: ∀i,i<s.uses.length->s.used[i]! =false->W[i]! = -1)
 (ev: ∀e,E e->zH e) (nums: ∀e f:Ev,E e->E f->e.num=f.num->e.ix=f.ix):fS ⟨s,H.take n,W⟩:=by
 have len:(H.take n).length=n:=by rw [List.length_take];omega
 have cell: ∀w,w<n->(H.take n)[w]! =H[w]!:=fun w hw=>AF hw
 refine ⟨so,wl,by show (H.take n).length+_=_;rw [len];exact hl,?_,un,?_,?_,?_⟩
 · intro i hi hu
   dsimp only at hi hu ⊢;rw [len];obtain ⟨e,he,e1,e2⟩:=ue i hi hu;obtain ⟨w,hw,rfl⟩:=(mem e).2 he;obtain ⟨a1,a2,a3⟩:=ix w hw;have hn':(H[w]!).n=i:=by show ((H[w]!).ix).toNat=i;omega
   rw [hn'] at a3;rw [a3,Int.toNat_natCast,cell w hw];exact ⟨by omega,by omega,e1,e2⟩
 · intro w hw
   dsimp only at hw ⊢;rw [len] at hw;rw [cell w hw];exact ev _ ((mem _).1 ⟨w,hw,rfl⟩)
 · intro v w hv hw
   dsimp only at hw ⊢;rw [len] at hw;rw [cell v (by omega),cell w hw]
   intro hc
   have:=nums _ _ ((mem _).1 ⟨v,by omega,rfl⟩) ((mem _).1 ⟨w,hw,rfl⟩) hc
   obtain ⟨a1,a2,a3⟩:=ix v (by omega)
   obtain ⟨b1,b2,b3⟩:=ix w hw;have hn':(H[v]!).n=(H[w]!).n:=by show ((H[v]!).ix).toNat=((H[w]!).ix).toNat;rw [this]
   rw [hn'] at a3;omega
 · intro k k0 hk
   dsimp only at hk ⊢;rw [len] at hk;rw [cell k hk,cell _ (by omega)]
   exact ord k k0 hk
theorem JW {s:aR} (so:eY s) {n:Nat} {x:Ev} {M:Ev->Prop} {K:Nat->Prop} {H H1:List Ev} {W W1:List Int} (st:GN n x M K H W H1 W1) (hn:n<=H.length) (wl:W.length=s.uses.length) (hl:n+s.free.length=s.uses.length)
 (ue: ∀i,i<s.uses.length->s.used[i]! =true-> ∃e:Ev,(e=x\/M e)/\e.ix=i/\e.2.2.2.2=s.uses[i]!) (un: ∀i,i<s.uses.length->s.used[i]! =false->K i/\W[i]! = -1)
 (ev: ∀e,(e=x\/M e)->zH e) (nums: ∀e f:Ev,(e=x\/M e)->(f=x\/M f)->e.num=f.num->e.ix=f.ix):fS ⟨s,H1.take n,W1⟩:=by
 refine aNi so (fun e=>e=x\/M e) (by rw [st.hl];exact hn) (by rw [st.wl];exact wl) hl (by rw [st.wl];exact st.ix) st.mem st.ord ue ?_ ev nums
 intro i hi hu;rw [st.out i (un i hi hu).1];exact (un i hi hu).2
theorem fS.bd {a:aJ} (ok:fS a):a.heap.length<=200/\a.where_.length<=200:=by
 have:=ok.hl;have:=ok.wl;have:=ok.so.n2
 omega
theorem fS.cells {a:aJ} (ok:fS a):BJ a.heap.length a.heap a.where_:=by
 have:=ok.bd
 refine ⟨Nat.le_refl _,by omega,fun w hw=>?_⟩
 obtain ⟨b1,b2,b3,b4,b5⟩:=ok.back hw;exact ⟨ok.ev w hw,b1,by rw [ok.wl];exact b2⟩
theorem fS.inj {a:aJ} (ok:fS a) {v w:Nat} (hv:v<a.heap.length) (hw:w<a.heap.length) (h:Ev.ix a.heap[v]! =Ev.ix a.heap[w]!):v=w:=by
 have h1:=(ok.back hv).2.2.2.2;have h2:=(ok.back hw).2.2.2.2
 have:Ev.n a.heap[v]! =Ev.n a.heap[w]!:=by show (Ev.ix a.heap[v]!).toNat=(Ev.ix a.heap[w]!).toNat;rw [h]
 rw [this] at h1;omega
theorem fS.grand {a:aJ} (ok:fS a) {i k:Nat} (i0:0<i) (k0:0<k) (hk:k<a.heap.length) (hp:(k-1) / 2=i): ¬eU a.heap[k]! a.heap[(i-1) / 2]!:=by
 have h1:=ok.ord k k0 hk;rw [hp] at h1;exact AM (ok.ev _ (by omega)).den (ok.ev _ (by omega)).den (ok.ev _ hk).den (ok.ord i i0 (by omega)) h1
theorem fS.live {a:aJ} (ok:fS a) {h:Int×Int} (lv:D2 a.slots h): ∃i,i<a.heap.length/\a.where_[h.1.toNat]! =(i:Int)/\(a.heap[i]!).2.2.2=h:=by
 obtain ⟨l1,l2,l3,l4⟩:=lv;obtain ⟨f1,f2,f3,f4⟩:=ok.fwd h.1.toNat (by omega) l3
 refine ⟨(a.where_[h.1.toNat]!).toNat,by omega,by omega,?_⟩
 have e1:(a.heap[(a.where_[h.1.toNat]!).toNat]!).2.2.2.1=h.1:=by
  have:Ev.ix a.heap[(a.where_[h.1.toNat]!).toNat]! =(h.1.toNat:Int):=f3
  have h2:Ev.ix a.heap[(a.where_[h.1.toNat]!).toNat]! =(a.heap[(a.where_[h.1.toNat]!).toNat]!).2.2.2.1:=rfl;omega
 exact Prod.ext e1 (by rw [f4,l4])
theorem fS.handle {a:aJ} (ok:fS a) {i:Nat} (hi:i<a.heap.length):D2 a.slots (a.heap[i]!).2.2.2/\a.where_[((a.heap[i]!).2.2.2.1).toNat]! =(i:Int):=by
 obtain ⟨b1,b2,b3,b4,b5⟩:=ok.back hi;exact ⟨⟨b1,b2,b3,b4⟩,b5⟩
theorem fS.used_ev {a:aJ} (ok:fS a) {i:Nat} (hi:i<a.slots.uses.length) (hu:a.slots.used[i]! =true): ∃w,w<a.heap.length/\Ev.ix a.heap[w]! =i/\(a.heap[w]!).2.2.2.2=a.slots.uses[i]!:=by
 obtain ⟨f1,f2,f3,f4⟩:=ok.fwd i hi hu;exact ⟨(a.where_[i]!).toNat,by omega,f3,f4⟩
theorem fS.no_ev {a:aJ} (ok:fS a) {i:Nat} (hu:a.slots.used[i]! =false) {w:Nat} (hw:w<a.heap.length):Ev.n a.heap[w]!≠i:=by
 intro h
 have:=(ok.back hw).2.2.1
 rw [h,hu] at this;cases this
theorem fS.nums {a:aJ} (ok:fS a) {v w:Nat} (hv:v<a.heap.length) (hw:w<a.heap.length) (h:Ev.num a.heap[v]! =Ev.num a.heap[w]!):v=w:=by
 rcases Nat.lt_trichotomy v w with h1|h1|h1
 · exact absurd h (ok.nd v w h1 hw)
 · exact h1
 · exact absurd h.symm (ok.nd w v h1 hv)
theorem set_same {α:Type} [Inhabited α] {l:List α} {k:Nat} {v:α} (h:l[k]! =v):l.set k v=l:=by
 by_cases hk:k<l.length
 · apply I1 (by rw [List.length_set])
   intro i hi;rw [cE];split
   · rename_i e;rw [e.1];exact h.symm
   · rfl
 · exact List.set_eq_of_length_le (by omega)
theorem BK {a:aJ} (ok:fS a):kL a=some a:=by
 have bd:=ok.bd;unfold kL;simp only [BH ok.so,aE,bQ (show a.heap.length<=1048576 by omega),bQ (show a.where_.length<=1048576 by omega)]
end Go.Proofs.YtmlghnibpjlchaaGreat
namespace Go.Proofs.YtmlghnibpjlchaaGreat
open Go.Vm Classical
theorem K2 (H:List Ev) (n:Int) (hl:H.length<=1000000):cA H n=some (decide (∃w,w<H.length/\(H[w]!).2.2.1=n)):=by
 unfold cA dH;have key:=mS (body:=bZ) (fun i=>(H,n,(H.length:Int),(i:Int))) H.length (fun i=>(H[i]!).2.2.1=n) (fun i=>(i:Int)) (e:= -1) (fun i hi=>by
  have e1:decide ((i:Int)<(H.length:Int))=true:=aS (by omega)
  unfold bZ uL;simp only [e1,cond_true,aD H i hi,aE,bD (show i<1000000000 by omega)]
  constructor
  · intro h;rw [gL h];rfl
  · intro h;rw [fM h];rfl) (by
  unfold bZ
  have:decide ((H.length:Int)<(H.length:Int))=false:=aM (by omega)
  simp only [this,cond_false])
 rw [aH]
 by_cases hx: ∃w,w<H.length/\(H[w]!).2.2.1=n
 · obtain ⟨k,h1,h2,h3⟩:=I0 hx
   have:=key.1 k h1 h2 h3
   rw [show ((0:Nat):Int)=0 from rfl] at this;rw [this,aS hx];simp only [aE,aS (show (0:Int)<=(k:Int) by omega)]
 · have:=key.2 fun i hi he=>hx ⟨i,hi,he⟩
   rw [show ((0:Nat):Int)=0 from rfl] at this;rw [this,aM hx];rfl
noncomputable def cN (a:aJ) (t:Int×Int) (n:Int):Ev:=(t.1,t.2,n,kC a.slots)
noncomputable def lD (a:aJ) (t:Int×Int) (n:Int):aJ:=
 ⟨fG a.slots,(hZ (a.heap.length+1) (cN a t n) a.heap.length (a.heap++[cN a t n]) a.where_).1,(hZ (a.heap.length+1) (cN a t n) a.heap.length (a.heap++[cN a t n]) a.where_).2⟩
section
variable {a : aJ} (ok : fS a) (op : zG a.slots) {t : Int × Int} (ht : bX t) (h64 : pC t) {n : Int} (n0 : 0 <= n) (n1 : n <= 1000000)
include ok op
theorem D5:Ev.ix (cN a t n)=(cI a.slots:Int)/\cI a.slots<a.slots.uses.length/\a.slots.used[cI a.slots]! =false/\a.slots.free.length=(fG a.slots).free.length+1:=by
 obtain ⟨h1,h2,h3⟩:=AL ok.so op.1;refine ⟨rfl,h1,?_,?_⟩
 · have:=ok.so.uf (cI a.slots) h1
   cases h:a.slots.used[cI a.slots]! with
   |false=>rfl
   |true=>exact absurd h3 (this.1 h)
 · show _=(a.slots.free.take (a.slots.free.length-1)).length+1
   have:=op.1
   rw [List.length_take];omega
theorem K3:E8 (a.heap.length+1) (cN a t n) (fun e=>e∈a.heap) (a.heap++[cN a t n]) a.where_ a.heap.length:=by
 obtain ⟨h1,h2,h3,h4⟩:=D5 (t:=t) (n:=n) ok op;have cell: ∀w,w<a.heap.length->(a.heap++[cN a t n])[w]! =a.heap[w]!:=fun w hw=>lO hw
 refine ⟨by omega,by simp,fun w hw hwi=>?_,by rw [h1];omega,by rw [h1,ok.wl];omega,fun e=>?_⟩
 · have hw':w<a.heap.length:=by omega
   rw [cell w hw'];obtain ⟨c1,c2,c3,c4,c5⟩:=ok.back hw';refine ⟨c1,by rw [ok.wl];exact c2,c5,fun h=>?_⟩
   rw [h1] at h
   have:Ev.n a.heap[w]! =cI a.slots:=by show (Ev.ix a.heap[w]!).toNat=_;omega
   exact ok.no_ev h3 hw' this
 · constructor
   · rintro ⟨w,hw,hwi,rfl⟩
     rw [cell w (by omega)]
     exact cR (by omega)
   · intro h
     obtain ⟨w,hw,rfl⟩:=bA.1 h;exact ⟨w,by omega,by omega,cell w hw⟩
theorem PL (ht:bX t):EA (a.heap.length+1) (a.heap++[cN a t n]) a.heap.length:=by
 have _:=op;have cell: ∀w,w<a.heap.length->(a.heap++[cN a t n])[w]! =a.heap[w]!:=fun w hw=>lO hw
 refine ⟨fun w hw=>?_,fun k k0 hk k1 k2=>?_,fun i0 k k0 hk hp=>by omega⟩
 · by_cases h:w<a.heap.length
   · rw [cell w h];exact (ok.ev w h).den
   · have:w=a.heap.length:=by omega
     subst this;rw [nW (Nat.le_refl _),Nat.sub_self];exact ht.1
 · rw [cell k (by omega),cell _ (by omega)]
   exact ok.ord k k0 (by omega)
theorem xB (ht:bX t):GN (a.heap.length+1) (cN a t n) (fun e=>e∈a.heap) (fun k=>k≠Ev.n (cN a t n)/\ ∀w,w<a.heap.length+1->w≠a.heap.length->Ev.n (a.heap++[cN a t n])[w]!≠k) (a.heap++[cN a t n]) a.where_ (lD a t n).heap (lD a t n).where_:=
 PG (x:=cN a t n) ht.1 (K3 ok op) (PL ok op ht)
theorem JE (ht:bX t):(lD a t n).heap.length=a.heap.length+1:=by
 have:=(xB (n:=n) ok op ht).hl
 rw [this];simp
theorem YU (ht:bX t) (e:Ev):e∈(lD a t n).heap↔(e=cN a t n\/e∈a.heap):=by
 have st:=xB (n:=n) ok op ht;rw [bA,JE ok op ht];exact st.mem e
theorem MV (ht:bX t) (h64:pC t) (n0:0<=n) (n1:n<=1000000):zH (cN a t n):=by
 have _:=ok;have _:=op;exact ⟨ht,h64,n0,n1⟩
theorem aFP (ht:bX t) (h64:pC t) (n0:0<=n) (n1:n<=1000000) (nn: ∀e∈a.heap,Ev.num e≠n):fS (lD a t n):=by
 have st:=xB (n:=n) ok op ht;have len:=JE (n:=n) ok op ht;obtain ⟨h1,h2,h3,h4⟩:=D5 (t:=t) (n:=n) ok op;have hu:=ok.so.ul;have ul:(fG a.slots).uses.length=a.slots.uses.length:=List.length_set;have key:=JW (YO ok.so op) st (by simp) (by rw [ul];exact ok.wl) (by rw [ul];have:=ok.hl;omega) (fun j hj hu'=>by
  rw [ul] at hj;change (a.slots.used.set (cI a.slots) true)[j]! =true at hu';rw [cE] at hu'
  show∃e:Ev,_/\_/\_=(a.slots.uses.set (cI a.slots) (a.slots.uses[cI a.slots]!+1))[j]!
  rw [cE]
  by_cases e:j=cI a.slots
  · rw [if_pos ⟨e,h2⟩]
    exact ⟨cN a t n,.inl rfl,by rw [h1,e],rfl⟩
  · rw [if_neg (fun k=>e k.1)]
    rw [if_neg (fun k=>e k.1)] at hu'
    obtain ⟨w,hw,e1,e2⟩:=ok.used_ev hj hu';exact ⟨a.heap[w]!,.inr (cR hw),e1,e2⟩) (fun j hj hu'=>by
  rw [ul] at hj;change (a.slots.used.set (cI a.slots) true)[j]! =false at hu';rw [cE] at hu'
  by_cases e:j=cI a.slots
  · rw [if_pos ⟨e,by omega⟩] at hu';cases hu'
  · rw [if_neg (fun k=>e k.1)] at hu'
    refine ⟨⟨?_,fun w hw hwi=>?_⟩,ok.un j hj hu'⟩
    · show j≠(Ev.ix (cN a t n)).toNat
      omega
    · rw [lO (by omega)]
      exact ok.no_ev hu' (by omega)) (by
  rintro e (rfl|h)
  · exact MV ok op ht h64 n0 n1
  · obtain ⟨w,hw,rfl⟩:=bA.1 h
    exact ok.ev w hw) (by
  rintro e f (rfl|he) (rfl|hf) hn
  · rfl
  · exact absurd hn.symm (nn f hf)
  · exact absurd hn (nn e he)
  · obtain ⟨v,hv,rfl⟩:=bA.1 he
    obtain ⟨w,hw,rfl⟩:=bA.1 hf;rw [ok.nums hv hw hn])
 have:(lD a t n).heap.take (a.heap.length+1)=(lD a t n).heap:=List.take_of_length_le (by rw [len];exact Nat.le_refl _)
 show fS ⟨fG a.slots,(lD a t n).heap,(lD a t n).where_⟩;rw [<- this];exact key
theorem JF (ht:bX t) (h64:pC t) (n0:0<=n) (n1:n<=1000000):BJ (a.heap.length+1) (a.heap++[cN a t n]) a.where_:=by
 have bd:=ok.bd;obtain ⟨h1,h2,h3,h4⟩:=D5 (t:=t) (n:=n) ok op;refine ⟨by simp,by simp;omega,fun w hw=>?_⟩
 by_cases h:w<a.heap.length
 · rw [lO h];exact ok.cells.ev w h
 · have:w=a.heap.length:=by omega
   subst this;rw [nW (Nat.le_refl _),Nat.sub_self];exact ⟨MV ok op ht h64 n0 n1,by show 0<=Ev.ix (cN a t n);omega,by show Ev.ix (cN a t n)<_;rw [ok.wl];omega⟩
theorem FA (fit:FZ a) (ht:bX t) (h64:pC t) (n0:0<=n) (n1:n<=1000000) (nn: ∀e∈a.heap,Ev.num e≠n):jD a t n=some (lD a t n,kC a.slots,0):=by
 have bd:=ok.bd;obtain ⟨h1,h2,h3,h4⟩:=D5 (t:=t) (n:=n) ok op;have hn: ¬ ∃w,w<a.heap.length/\(a.heap[w]!).2.2.1=n:=by
  rintro ⟨w,hw,e⟩;exact nn _ (cR hw) e
 unfold jD;rw [lW a fit,if_pos ok,fF h64,if_pos ht,K2 _ _ (by omega),aM hn,D3 ok.so,if_pos op]
 have se:=RW (u:=(fG a.slots).uses) (us:=(fG a.slots).used) (fr:=(fG a.slots).free) (MV ok op ht h64 n0 n1) (show 0<=Ev.ix (cN a t n) by omega) (JF ok op ht h64 n0 n1) (by simp) (show a.heap.length<a.heap.length+1 by omega) (show Ev.ix (cN a t n)<a.where_.length by rw [ok.wl];omega)
 have e1:aA .i64 (((a.heap++[cN a t n]).length:Int) -1)=(a.heap.length:Int):=by rw [wi,List.length_append];simp;omega
 have ap:bM a.heap [(t.1,t.2,n,kC a.slots)]=some (a.heap++[cN a t n]):=mD (by simp;omega)
 have se':eK ((fG a.slots).uses,(fG a.slots).used,(fG a.slots).free,(a.heap.length:Int),t.1,t.2,n,(kC a.slots).1,(kC a.slots).2,a.heap++[cN a t n],a.where_)=some (hZ (a.heap.length+1) (cN a t n) a.heap.length (a.heap++[cN a t n]) a.where_):=se
 simp only [aE,gt_iff_lt,Int.lt_irrefl,if_false,show ((0:Int) !=0)=false from rfl,cond_false,aM (show¬n<0 by omega),aM (show¬1000000<n by omega),bQ (show a.heap.length<=1048576 by omega),bQ (show a.where_.length<=1048576 by omega),ap,aH,e1,se']
 rfl
theorem GB (ht:bX t) (h64:pC t) (n0:0<=n) (n1:n<=1000000):dI a t n=some (lD a t n,kC a.slots):=by
 have bd:=ok.bd;obtain ⟨h1,h2,h3,h4⟩:=D5 (t:=t) (n:=n) ok op;unfold dI;rw [BK ok];have e1:aA .i64 (((a.heap++[cN a t n]).length:Int) -1)=(a.heap.length:Int):=by rw [wi,List.length_append];simp;omega
 have ap:bM a.heap [(t.1,t.2,n,kC a.slots)]=some (a.heap++[cN a t n]):=mD (by simp;omega)
 have hx:=MV (n:=n) ok op ht h64 n0 n1;have last:hZ (a.heap.length+1) (cN a t n) a.heap.length (a.heap++[cN a t n]) a.where_=_:=PH (x:=cN a t n) ht.1 (K3 ok op) (PL ok op ht) (fun k k0 hk hp=>by omega)
 have hs:(a.heap++[cN a t n]).set a.heap.length (cN a t n)=a.heap++[cN a t n]:=set_same (by rw [nW (Nat.le_refl _),Nat.sub_self];rfl)
 have ws:cD a.where_ (kC a.slots).1 (a.heap.length:Int)=a.where_.set (Ev.n (cN a t n)) (a.heap.length:Int):=rfl
 have u1:nL ((fG a.slots).uses,(fG a.slots).used,(fG a.slots).free,(a.heap.length:Int),a.heap++[cN a t n],a.where_.set (Ev.n (cN a t n)) (a.heap.length:Int))=some (((CQ (cN a t n) a.heap.length (a.heap++[cN a t n]) a.where_).1:Int),(CQ (cN a t n) a.heap.length (a.heap++[cN a t n]) a.where_).2.1.set (CQ (cN a t n) a.heap.length (a.heap++[cN a t n]) a.where_).1 (cN a t n),(CQ (cN a t n) a.heap.length (a.heap++[cN a t n]) a.where_).2.2.set (Ev.n (cN a t n)) ((CQ (cN a t n) a.heap.length (a.heap++[cN a t n]) a.where_).1:Int)):=by
  unfold nL
  have:=YR (c0:=((fG a.slots).uses,(fG a.slots).used,(fG a.slots).free,(a.heap.length:Int),a.heap++[cN a t n],a.where_.set (Ev.n (cN a t n)) (a.heap.length:Int))) (u:=(fG a.slots).uses) (us:=(fG a.slots).used) (fr:=(fG a.slots).free) hx (show 0<=Ev.ix (cN a t n) by omega) a.heap.length (a.heap++[cN a t n]) a.where_ (JF ok op ht h64 n0 n1) (by omega) (by simp) (by rw [ok.wl];omega) rfl List.length_set
  rw [hs] at this;exact this
 have g1:aL a.where_ (kC a.slots).1=some a.where_[cI a.slots]!:=aD a.where_ (cI a.slots) (by rw [ok.wl];exact h2)
 simp only [aE,I8 ok.so op,ap,g1,aH,e1,ws,u1];unfold lD;rw [last]
end
theorem FB {a:aJ} (ok:fS a) (op: ¬zG a.slots) (fit:FZ a) {t:Int×Int} (ht:bX t) (h64:pC t) {n:Int} (n0:0<=n) (n1:n<=1000000) (nn: ∀e∈a.heap,Ev.num e≠n):jD a t n=some (⟨⟨[],[],[]⟩,[],[]⟩,(0,0),18):=by
 have bd:=ok.bd;have hn: ¬ ∃w,w<a.heap.length/\(a.heap[w]!).2.2.1=n:=by
  rintro ⟨w,hw,e⟩;exact nn _ (cR hw) e
 unfold jD;rw [lW a fit,if_pos ok,fF h64,if_pos ht,K2 _ _ (by omega),aM hn,D3 ok.so,if_neg op]
 simp only [aE,gt_iff_lt,Int.lt_irrefl,if_false,show ((0:Int) !=0)=false from rfl,cond_false,aM (show¬n<0 by omega),aM (show¬1000000<n by omega),show ((18:Int) !=0)=true from rfl,cond_true]
end Go.Proofs.YtmlghnibpjlchaaGreat
namespace Go.Proofs.YtmlghnibpjlchaaGreat
open Go.Vm Classical
section
variable {a : aJ} (ok : fS a) {i : Nat} (hi : i < a.heap.length)
include ok hi
end
end Go.Proofs.YtmlghnibpjlchaaGreat
namespace Go.Proofs.YtmlghnibpjlchaaGreat
open Go.Vm Classical
abbrev BL:=Int×Int×Int
theorem fS.fit {a:aJ} (ok:fS a):FZ a:=by
 have bd:=ok.bd
 have:=ok.so.fl
 have:=ok.so.n2
 exact ⟨by omega,by omega,by omega,fun w hw=>(ok.ev w hw).2.1⟩
theorem UD (l:List BL) (id:Int) (hl:l.length<=1000000) (hs: ∀i j,i<j->j<l.length->(l[i]!).1<(l[j]!).1):
 (∀k,k<l.length->(l[k]!).1=id->aU l id ()=some ((k:Int),true))/\
 ((∀k,k<l.length->(l[k]!).1≠id)-> ∃m,m<=l.length/\(∀i,i<m->(l[i]!).1<id)/\(∀i,m<=i->i<l.length->id<(l[i]!).1)/\aU l id ()=some ((m:Int),false)):=by
 obtain ⟨m,m1,m2,m3⟩:=PF (fun i=>(l[i]!).1) id l.length hs
 have run:aU l id ()=aK aP (l,id,(l.length:Int),(m:Int),(m:Int)):=by
  unfold aU;refine E7 (body:=aP) (fun lo hi=>(l,id,(l.length:Int),(lo:Int),(hi:Int))) l.length m (fun i=>(l[i]!).1<id) (fun lo hi h1 h2=>?_) m2 (fun i h1 h2 h3=>by have:=m3 i h1 h2;omega) l.length 0 l.length (by omega) (by omega) m1 (Nat.le_refl _)
  have e1:decide ((lo:Int)<(hi:Int))=true:=aS (by omega)
  have hh:=aFJ (a:=lo) (b:=hi) (by omega) (by omega)
  unfold aP qK;simp only [e1,cond_true,hh,aD l ((lo+hi) / 2) (by omega),iW,aE,bD (show (lo+hi) / 2<1000000000 by omega)]
  constructor
  · intro h
    have:decide (iI (l[(lo+hi) / 2]!).1 id<0)=true:=by
     rcases eH (l[(lo+hi) / 2]!).1 id with ⟨a,e⟩|⟨a,e⟩|⟨a,e⟩<;>rw [e]<;>first|rfl|omega
    rw [this];rfl
  · intro h
    have:decide (iI (l[(lo+hi) / 2]!).1 id<0)=false:=by
     rcases eH (l[(lo+hi) / 2]!).1 id with ⟨a,e⟩|⟨a,e⟩|⟨a,e⟩<;>rw [e]<;>first|rfl|omega
    rw [this];rfl
 have fin:aK aP (l,id,(l.length:Int),(m:Int),(m:Int))=if m<l.length/\(l[m]!).1=id then some ((m:Int),true) else some ((m:Int),false):=by
  have e1:decide ((m:Int)<(m:Int))=false:=aM (by omega)
  by_cases hm:m<l.length
  · have e2:decide ((m:Int)<(l.length:Int))=true:=aS (by omega)
    have body:aP (l,id,(l.length:Int),(m:Int),(m:Int))=some (.done ((m:Int),iI (l[m]!).1 id==0)):=by
     unfold aP qK;simp only [e1,e2,cond_true,cond_false,aD l m hm,iW,aE]
    rw [aQ body];rcases eH (l[m]!).1 id with ⟨a,e⟩|⟨a,e⟩|⟨a,e⟩
    · rw [e,if_neg (fun h=>by omega)];rfl
    · rw [e,if_pos ⟨hm,a⟩];rfl
    · rw [e,if_neg (fun h=>by omega)];rfl
  · have e2:decide ((m:Int)<(l.length:Int))=false:=aM (by omega)
    have body:aP (l,id,(l.length:Int),(m:Int),(m:Int))=some (.done ((m:Int),false)):=by
     unfold aP;simp only [e1,e2,cond_false]
    rw [aQ body,if_neg (fun h=>hm h.1)]
 rw [run,fin];constructor
 · intro k hk he
   have hkm:k=m:=by
    rcases Nat.lt_trichotomy k m with h|h|h
    · have:=m2 k h;omega
    · exact h
    · have h1:=m3 m (Nat.le_refl _) (by omega)
      have h2:=hs m k h hk;omega
   subst hkm;rw [if_pos ⟨hk,he⟩]
 · intro h
   refine ⟨m,m1,m2,fun i h1 h2=>?_,?_⟩
   · have:=m3 i h1 h2
     have:=h i h2
     omega
   · rw [if_neg (fun k=>h m k.1 k.2)]
theorem YV:cH=aU:=rfl
theorem aFQ:cK=aU:=rfl
end Go.Proofs.YtmlghnibpjlchaaGreat
namespace Go.Proofs.YtmlghnibpjlchaaGreat
open Go.Vm Classical
def iB (x:Int×Int):Prop:=0<=x.1/\x.1<=65535/\0<=x.2/\x.2<=65535/\x.1≠x.2
theorem BM (x:Int×Int):sD x=some (decide (iB x)):=by
 obtain ⟨a,b⟩:=x;unfold sD;dsimp only
 by_cases h1:0<=a
 · by_cases h3:0<=b
   · have e1:decide (0<=if b<a then b else a)=true:=aS (by split<;>omega)
     rw [e1]
     by_cases h2:a<=65535
     · by_cases h4:b<=65535
       · have e2:decide ((if b>a then b else a)<=65535)=true:=aS (by split<;>omega)
         rw [e2]
         by_cases h5:a=b
         · rw [cB h5,aM (p:=iB (a,b)) (fun h=>h.2.2.2.2 h5)];rfl
         · rw [dM h5,aS (p:=iB (a,b)) ⟨h1,h2,h3,h4,h5⟩];rfl
       · have e2:decide ((if b>a then b else a)<=65535)=false:=aM (by split<;>omega)
         rw [e2,aM (p:=iB (a,b)) (fun h=>h4 h.2.2.2.1)];rfl
     · have e2:decide ((if b>a then b else a)<=65535)=false:=aM (by split<;>omega)
       rw [e2,aM (p:=iB (a,b)) (fun h=>h2 h.2.1)];rfl
   · have e1:decide (0<=if b<a then b else a)=false:=aM (by split<;>omega)
     rw [e1,aM (p:=iB (a,b)) (fun h=>h3 h.2.2.1)];rfl
 · have e1:decide (0<=if b<a then b else a)=false:=aM (by split<;>omega)
   rw [e1,aM (p:=iB (a,b)) (fun h=>h1 h.1)];rfl
theorem BN (x:Int×Int):sK x=some (decide (iB x)):=by
 obtain ⟨a,b⟩:=x;unfold sK;dsimp only
 by_cases h1:0<=a
 · by_cases h2:a<=65535
   · by_cases h3:0<=b
     · by_cases h4:b<=65535
       · by_cases h5:a=b
         · rw [cB h5,aS h1,aS h2,aS h3,aS h4,aM (p:=iB (a,b)) (fun h=>h.2.2.2.2 h5)];rfl
         · rw [dM h5,aS h1,aS h2,aS h3,aS h4,aS (p:=iB (a,b)) ⟨h1,h2,h3,h4,h5⟩];rfl
       · rw [aS h1,aS h2,aS h3,aM h4,aM (p:=iB (a,b)) (fun h=>h4 h.2.2.2.1)];rfl
     · rw [aS h1,aS h2,aM h3,aM (p:=iB (a,b)) (fun h=>h3 h.2.2.1)];rfl
   · rw [aS h1,aM h2,aM (p:=iB (a,b)) (fun h=>h2 h.2.1)];rfl
 · rw [aM h1,aM (p:=iB (a,b)) (fun h=>h1 h.1)];rfl
structure eJ (c:aW):Prop where
 len:c.list.length<=200
 n0:0<=c.next_
 n1:c.next_<=1000000
 cv: ∀i,i<c.list.length->iB (c.list[i]!).2
 nr: ∀i,i<c.list.length->0<=(c.list[i]!).1/\(c.list[i]!).1<c.next_
 up: ∀i j,i<j->j<c.list.length->(c.list[i]!).1<(c.list[j]!).1
 nd: ∀i j,i<j->j<c.list.length->(c.list[i]!).2≠(c.list[j]!).2
def zJ (l:List BL) (i:Nat):Int:=if i=0 then -1 else (l[i-1]!).1
def RY (c:aW) (i:Nat):Prop:=iB (c.list[i]!).2/\(∀j,j<i->(c.list[j]!).2≠(c.list[i]!).2)/\zJ c.list i<(c.list[i]!).1/\(c.list[i]!).1<c.next_
theorem eJ.iff {c:aW} (h1:c.list.length<=200) (h2:0<=c.next_) (h3:c.next_<=1000000):eJ c↔ ∀i,i<c.list.length->RY c i:=by
 constructor
 · intro ok i hi
   refine ⟨ok.cv i hi,fun j hj=>ok.nd j i hj hi,?_,(ok.nr i hi).2⟩
   unfold zJ;split
   · have:=(ok.nr i hi).1;omega
   · exact ok.up (i-1) i (by omega) hi
 · intro h
   have low: ∀i,i<c.list.length->0<=(c.list[i]!).1:=by
    intro i
    induction i with
    |zero=>
     intro hi
     have:=(h 0 hi).2.2.1
     unfold zJ at this;rw [if_pos rfl] at this;omega
    |succ i ih=>
     intro hi;have h1:=(h (i+1) hi).2.2.1;unfold zJ at h1;rw [if_neg (by omega),show i+1-1=i by omega] at h1
     have:=ih (by omega)
     omega
   have up: ∀i j,i<j->j<c.list.length->(c.list[i]!).1<(c.list[j]!).1:=by
    intro i j
    induction j with
    |zero=>intro h;omega
    |succ j ih=>
     intro hij hj;have h1:=(h (j+1) hj).2.2.1;unfold zJ at h1;rw [if_neg (by omega),show j+1-1=j by omega] at h1
     by_cases e:i=j
     · subst e;exact h1
     · have:=ih (by omega) (by omega)
       omega
   exact ⟨h1,h2,h3,fun i hi=>(h i hi).1,fun i hi=>⟨low i hi,(h i hi).2.2.2⟩,up,fun i j hij hj=>(h j hj).2.1 i hij⟩
theorem JG (l:List BL) (k:Nat) (a b:Int):nB [a,b] ((l.take k).map fun x=>[x.2.1,x.2.2])=true:=by
 unfold nB;rw [List.all_eq_true];intro x hx;obtain ⟨y,hy,rfl⟩:=List.mem_map.1 hx;rfl
theorem JH (l:List BL) (k:Nat) (x:Int×Int):F7 ((l.take k).map fun y=>[y.2.1,y.2.2]) [x.1,x.2]=decide (∃j,j<k/\j<l.length/\(l[j]!).2=x):=by
 unfold F7;rw [Bool.eq_iff_iff,List.any_eq_true,decide_eq_true_iff];constructor
 · rintro ⟨y,hy,he⟩
   obtain ⟨z,hz,rfl⟩:=List.mem_map.1 hy;obtain ⟨j,h1,h2,rfl⟩:=eX.1 hz
   have:[x.1,x.2]=[(l[j]!).2.1,(l[j]!).2.2]:=by simpa using he
   injection this with e1 e2;injection e2 with e2 _;exact ⟨j,h1,h2,Prod.ext e1.symm e2.symm⟩
 · rintro ⟨j,h1,h2,h3⟩
   refine ⟨[(l[j]!).2.1,(l[j]!).2.2],List.mem_map.2 ⟨l[j]!,eX.2 ⟨j,h1,h2,rfl⟩,rfl⟩,?_⟩;rw [h3];simp
theorem BO (c:aW):oR c=some (if eJ c then 0 else 8):=by
 unfold oR;simp only [aH]
 by_cases h1:200<c.list.length
 · rw [aS (show (200:Int)<(c.list.length:Int) by omega),if_neg (fun h=>by have:=h.len;omega)];rfl
 rw [aM (show¬(200:Int)<(c.list.length:Int) by omega)]
 by_cases h2:c.next_<0
 · rw [aS h2,if_neg (fun h=>by have:=h.n0;omega)];rfl
 rw [aM h2]
 by_cases h3:1000000<c.next_
 · rw [aS h3,if_neg (fun h=>by have:=h.n1;omega)];rfl
 rw [aM h3];simp only [cond_false];have key:=cS (body:=pH) (fun i=>(zJ c.list i,c.list,(c.list.length:Int),(i:Int),c.next_,c.list,(c.list.take i).map fun x=>[x.2.1,x.2.2])) c.list.length (fun i=> ¬RY c i) (r:=8) (e:=0) (fun i hi=>by
  have e1:decide ((i:Int)<(c.list.length:Int))=true:=aS (by omega)
  have has:NX ((c.list.take i).map fun x=>[x.2.1,x.2.2]) [(c.list[i]!).2.1,(c.list[i]!).2.2]=some (decide (∃j,j<i/\j<c.list.length/\(c.list[j]!).2=(c.list[i]!).2)):=by
   unfold NX;rw [JG,JH];rfl
  have nx:(c.list.take (i+1)).map (fun x=>[x.2.1,x.2.2])=((c.list.take i).map fun x=>[x.2.1,x.2.2])++[[(c.list[i]!).2.1,(c.list[i]!).2.2]]:=by
   rw [kO hi,List.map_append];rfl
  have ln:zJ c.list (i+1)=(c.list[i]!).1:=by unfold zJ;rw [if_neg (by omega),show i+1-1=i by omega]
  unfold pH;simp only [e1,cond_true,aD c.list i hi,aE,BM,has,nx,ln,bD (show i<1000000000 by omega)]
  unfold RY
  by_cases b1:iB (c.list[i]!).2
  case neg=>
   rw [aM b1];exact ⟨fun _=>rfl,fun h=>absurd (Classical.not_not.1 h).1 b1⟩
  rw [aS b1]
  by_cases b2: ∃j,j<i/\j<c.list.length/\(c.list[j]!).2=(c.list[i]!).2
  · rw [aS b2]
    refine ⟨fun _=>rfl,fun h=>?_⟩
    obtain ⟨j,j1,j2,j3⟩:=b2;exact absurd j3 ((Classical.not_not.1 h).2.1 j j1)
  rw [aM b2];have b2': ∀j,j<i->(c.list[j]!).2≠(c.list[i]!).2:=fun j hj he=>b2 ⟨j,hj,by omega,he⟩
  by_cases b3:(c.list[i]!).1<=zJ c.list i
  · rw [aS b3]
    exact ⟨fun _=>rfl,fun h=>absurd (Classical.not_not.1 h).2.2.1 (by omega)⟩
  rw [aM b3]
  by_cases b4:c.next_<=(c.list[i]!).1
  · rw [aS b4]
    exact ⟨fun _=>rfl,fun h=>absurd (Classical.not_not.1 h).2.2.2 (by omega)⟩
  rw [aM b4];have ins:NY ((c.list.take i).map fun x=>[x.2.1,x.2.2]) [(c.list[i]!).2.1,(c.list[i]!).2.2]=some (((c.list.take i).map fun x=>[x.2.1,x.2.2])++[[(c.list[i]!).2.1,(c.list[i]!).2.2]]):=by
   unfold NY QM;rw [JG,JH,aM b2];rfl
  rw [ins];exact ⟨fun h=>absurd ⟨b1,b2',by omega,by omega⟩ h,fun _=>rfl⟩) (by
  unfold pH
  have:decide ((c.list.length:Int)<(c.list.length:Int))=false:=aM (by omega)
  simp only [this,cond_false])
 have h0:zJ c.list 0= -1:=rfl;rw [h0] at key
 by_cases ok:eJ c
 · rw [if_pos ok]
   exact key.2 fun i hi=>Classical.not_not.2 ((eJ.iff (by omega) (by omega) (by omega)).1 ok i hi)
 · rw [if_neg ok]
   rw [eJ.iff (by omega) (by omega) (by omega)] at ok
   obtain ⟨i,h⟩:=Classical.not_forall.1 ok;obtain ⟨hi,hx⟩:=Classical.not_imp.1 h;exact key.1 ⟨i,hi,hx⟩
theorem PM (c:aW) (i:Nat) (hi:i<c.list.length) (hl:c.list.length<=200):
 ((∃j,j<i/\(c.list[j]!).2=(c.list[i]!).2)->aK eG ((i:Int),0,c.next_,c.list,c.list[i]!)=some (.done 8))/\
 ((∀j,j<i-> ¬(c.list[j]!).2=(c.list[i]!).2)->aK eG ((i:Int),0,c.next_,c.list,c.list[i]!)=some (.next (((i+1:Nat):Int),c.next_,c.list))):=by
 refine cS (body:=eG) (fun j=>((i:Int),(j:Int),c.next_,c.list,c.list[i]!)) i (fun j=>(c.list[j]!).2=(c.list[i]!).2) (r:= .done 8) (e:= .next (((i+1:Nat):Int),c.next_,c.list)) (fun j hj=>?_) ?_
 · have e1:decide ((j:Int)<(i:Int))=true:=aS (by omega)
   unfold eG;simp only [e1,cond_true,aD c.list j (by omega),aE,bD (show j<1000000000 by omega)]
   generalize c.list[j]! =x;generalize c.list[i]! =y;constructor
   · intro h;rw [gL (congrArg Prod.fst h),gL (congrArg Prod.snd h)];rfl
   · intro h
     by_cases h1:x.2.1=y.2.1
     · rw [gL h1,fM (fun h2=>h (Prod.ext h1 h2))];rfl
     · rw [fM h1];rfl
 · unfold eG
   have:decide ((i:Int)<(i:Int))=false:=aM (by omega)
   simp only [this,cond_false,bD (show i<1000000000 by omega)]
theorem zK (c:aW):qQ c=some (if eJ c then 0 else 8):=by
 unfold qQ;simp only [aH]
 by_cases h1:200<c.list.length
 · rw [aS (show (200:Int)<(c.list.length:Int) by omega),if_neg (fun h=>by have:=h.len;omega)];rfl
 rw [aM (show¬(200:Int)<(c.list.length:Int) by omega)]
 by_cases h2:c.next_<0
 · rw [aS h2,if_neg (fun h=>by have:=h.n0;omega)];rfl
 rw [aM h2]
 by_cases h3:1000000<c.next_
 · rw [aS h3,if_neg (fun h=>by have:=h.n1;omega)];rfl
 rw [aM h3];simp only [cond_false];have key:=cS (body:=nM) (fun i=>((i:Int),c.next_,c.list)) c.list.length (fun i=> ¬(iB (c.list[i]!).2/\0<=(c.list[i]!).1/\(c.list[i]!).1<c.next_/\(0<i->(c.list[i-1]!).1<(c.list[i]!).1)/\ ∀j,j<i-> ¬(c.list[j]!).2=(c.list[i]!).2)) (r:=8) (e:=0) (fun i hi=>by
  have e1:decide ((i:Int)<(c.list.length:Int))=true:=aS (by omega)
  have l1:=PM c i hi (by omega)
  unfold nM;simp only [aH,e1,cond_true,aD c.list i hi,aE,BN]
  by_cases b1:iB (c.list[i]!).2
  case neg=>
   rw [aM b1];exact ⟨fun _=>rfl,fun h=>absurd (Classical.not_not.1 h).1 b1⟩
  rw [aS b1]
  by_cases b2:(c.list[i]!).1<0
  · rw [aS b2]
    exact ⟨fun _=>rfl,fun h=>absurd (Classical.not_not.1 h).2.1 (by omega)⟩
  rw [aM b2]
  by_cases b3:c.next_<=(c.list[i]!).1
  · rw [aS b3]
    exact ⟨fun _=>rfl,fun h=>absurd (Classical.not_not.1 h).2.2.1 (by omega)⟩
  rw [aM b3];simp only [Bool.not_true,cond_false];have go:(0<i->(c.list[i-1]!).1<(c.list[i]!).1)->(¬(iB (c.list[i]!).2/\0<=(c.list[i]!).1/\(c.list[i]!).1<c.next_/\(0<i->(c.list[i-1]!).1<(c.list[i]!).1)/\ ∀j,j<i-> ¬(c.list[j]!).2=(c.list[i]!).2)->aK eG ((i:Int),0,c.next_,c.list,c.list[i]!)=some (.done 8))/\
   (¬¬(iB (c.list[i]!).2/\0<=(c.list[i]!).1/\(c.list[i]!).1<c.next_/\(0<i->(c.list[i-1]!).1<(c.list[i]!).1)/\ ∀j,j<i-> ¬(c.list[j]!).2=(c.list[i]!).2)->aK eG ((i:Int),0,c.next_,c.list,c.list[i]!)=some (.next (((i+1:Nat):Int),c.next_,c.list))):=by
   intro hp;constructor
   · intro h
     refine l1.1 (Classical.byContradiction fun hx=>h ⟨b1,by omega,by omega,hp,fun j hj he=>hx ⟨j,hj,he⟩⟩)
   · intro h
     exact l1.2 (Classical.not_not.1 h).2.2.2.2
  by_cases b4:0<i
  · have f1:decide ((0:Int)<(i:Int))=true:=aS (by omega)
    simp only [f1,cond_true,AJ (show i<1000000000 by omega) b4,aD c.list (i-1) (by omega),aE]
    by_cases b5:(c.list[i]!).1<=(c.list[i-1]!).1
    · rw [aS b5]
      exact ⟨fun _=>rfl,fun h=>absurd ((Classical.not_not.1 h).2.2.2.1 b4) (by omega)⟩
    · rw [aM b5]
      exact go fun _=>by omega
  · have f1:decide ((0:Int)<(i:Int))=false:=aM (by omega)
    rw [f1];exact go fun h=>absurd h b4) (by
  unfold nM
  have:decide ((c.list.length:Int)<(c.list.length:Int))=false:=aM (by omega)
  simp only [aH,this,cond_false])
 have same:eJ c↔ ∀i,i<c.list.length->(iB (c.list[i]!).2/\0<=(c.list[i]!).1/\(c.list[i]!).1<c.next_/\(0<i->(c.list[i-1]!).1<(c.list[i]!).1)/\ ∀j,j<i-> ¬(c.list[j]!).2=(c.list[i]!).2):=by
  constructor
  · intro ok i hi
    exact ⟨ok.cv i hi,(ok.nr i hi).1,(ok.nr i hi).2,fun h=>ok.up (i-1) i (by omega) hi,fun j hj=>ok.nd j i hj hi⟩
  · intro h
    rw [eJ.iff (by omega) (by omega) (by omega)]
    intro i hi;obtain ⟨a1,a2,a3,a4,a5⟩:=h i hi;refine ⟨a1,a5,?_,a3⟩;unfold zJ;split
    · omega
    · exact a4 (by omega)
 by_cases ok:eJ c
 · rw [if_pos ok]
   exact key.2 fun i hi=>Classical.not_not.2 (same.1 ok i hi)
 · rw [if_neg ok]
   rw [same] at ok;obtain ⟨i,h⟩:=Classical.not_forall.1 ok;obtain ⟨hi,hx⟩:=Classical.not_imp.1 h;exact key.1 ⟨i,hi,hx⟩
end Go.Proofs.YtmlghnibpjlchaaGreat
namespace Go.Proofs.YtmlghnibpjlchaaGreat
open Go.Vm Classical
def xC (l:List BL) (x:Int×Int):Prop:= ∃i,i<l.length/\(l[i]!).2=x
theorem PN (l:List BL) (x:Int×Int) (hl:l.length<=1000000):bP l x=some (decide (xC l x)):=by
 unfold bP dX;have key:=mS (body:=cO) (fun i=>(l,x.1,x.2,(l.length:Int),(i:Int))) l.length (fun i=>(l[i]!).2=x) (fun i=>(i:Int)) (e:= -1) (fun i hi=>by
  have e1:decide ((i:Int)<(l.length:Int))=true:=aS (by omega)
  unfold cO CF;simp only [e1,cond_true,aD l i hi,aE,bD (show i<1000000000 by omega)]
  generalize l[i]! =y;constructor
  · intro h;rw [gL (congrArg Prod.fst h),gL (congrArg Prod.snd h)];rfl
  · intro h
    by_cases h1:y.2.1=x.1
    · rw [gL h1,fM (fun h2=>h (Prod.ext h1 h2))];rfl
    · rw [fM h1];rfl) (by
  unfold cO
  have:decide ((l.length:Int)<(l.length:Int))=false:=aM (by omega)
  simp only [this,cond_false])
 rw [aH]
 by_cases hx:xC l x
 · obtain ⟨k,h1,h2,h3⟩:=I0 hx
   have:=key.1 k h1 h2 h3
   rw [show ((0:Nat):Int)=0 from rfl] at this;rw [this,aS hx];simp only [aE,aS (show (0:Int)<=(k:Int) by omega)]
 · have:=key.2 fun i hi he=>hx ⟨i,hi,he⟩
   rw [show ((0:Nat):Int)=0 from rfl] at this;rw [this,aM hx];rfl
theorem FC:cZ=bP:=rfl
theorem xD (c:aW) (x:Int×Int) (hl:c.list.length<=1000000):rS c x=some (decide (xC c.list x)):=by
 unfold rS;have key:=cS (body:=rN) (fun i=>((i:Int),c.next_,c.list,x)) c.list.length (fun i=>(c.list[i]!).2=x) (r:=true) (e:=false) (fun i hi=>by
  have e1:decide ((i:Int)<(c.list.length:Int))=true:=aS (by omega)
  unfold rN;simp only [aH,e1,cond_true,aD c.list i hi,aE,bD (show i<1000000000 by omega)]
  generalize c.list[i]! =y;constructor
  · intro h;rw [gL (congrArg Prod.fst h),gL (congrArg Prod.snd h)];rfl
  · intro h
    by_cases h1:y.2.1=x.1
    · rw [gL h1,fM (fun h2=>h (Prod.ext h1 h2))];rfl
    · rw [fM h1];rfl) (by
  unfold rN
  have:decide ((c.list.length:Int)<(c.list.length:Int))=false:=aM (by omega)
  simp only [aH,this,cond_false])
 by_cases hx:xC c.list x
 · rw [aS hx];exact key.1 hx
 · rw [aM hx];exact key.2 fun i hi he=>hx ⟨i,hi,he⟩
def oA (c:aW) (x:Int×Int):aW:=⟨c.next_+1,c.list++[(c.next_,x)]⟩
def D6 (c:aW):Prop:=c.list.length=200\/c.next_=1000000
theorem PO {c:aW} (ok:eJ c) {x:Int×Int} (hx:iB x):DU c x=some (if xC c.list x then (⟨0,[]⟩,0,14) else if D6 c then (⟨0,[]⟩,0,18) else (oA c x,c.next_,0)):=by
 have:=ok.len;have:=ok.n0;have:=ok.n1
 unfold DU;rw [BO,if_pos ok,BM,aS hx,PN _ _ (by omega)]
 simp only [aE,show ((0:Int) !=0)=false from rfl,cond_false,Bool.not_true,aH]
 by_cases h1:xC c.list x
 · rw [aS h1,if_pos h1];rfl
 rw [aM h1,if_neg h1];unfold D6
 by_cases h2:c.list.length=200
 · rw [gL (show (c.list.length:Int)=200 by omega),if_pos (.inl h2)];rfl
 rw [fM (show¬(c.list.length:Int)=200 by omega)]
 by_cases h3:c.next_=1000000
 · rw [gL h3,if_pos (.inr h3)];rfl
 rw [fM h3,if_neg (by omega)]
 have e:aA .i64 (c.next_+1)=c.next_+1:=by rw [wi];omega
 simp only [cond_false,bQ (show c.list.length<=1048576 by omega),aE,mD (show c.list.length+[(c.next_,x)].length<=1048576 by simp;omega),e]
 rfl
theorem MW {c:aW} (ok:eJ c) {x:Int×Int} (hx:iB x):AE c x=some (if xC c.list x then (⟨0,[]⟩,0,14) else if D6 c then (⟨0,[]⟩,0,18) else (oA c x,c.next_,0)):=by
 have:=ok.len;have:=ok.n0;have:=ok.n1
 unfold AE oW;rw [zK,if_pos ok,BN,aS hx,xD _ _ (by omega)]
 simp only [aE,show ((0:Int) !=0)=false from rfl,cond_false,Bool.not_true,aH]
 by_cases h1:xC c.list x
 · rw [aS h1,if_pos h1];rfl
 rw [aM h1,if_neg h1];unfold D6
 by_cases h2:c.list.length=200
 · rw [gL (show (c.list.length:Int)=200 by omega),if_pos (.inl h2)];rfl
 rw [fM (show¬(c.list.length:Int)=200 by omega)]
 by_cases h3:c.next_=1000000
 · rw [gL h3,if_pos (.inr h3)];rfl
 rw [fM h3,if_neg (by omega)]
 have e:aA .i64 (c.next_+1)=c.next_+1:=by rw [wi];omega
 simp only [cond_false,bQ (show c.list.length<=1048576 by omega),aE,mD (show c.list.length+[(c.next_,x)].length<=1048576 by simp;omega),e]
 rfl
theorem sS {c:aW} {x:Int×Int} {i:Nat}:(oA c x).list[i]! =if i<c.list.length then c.list[i]! else if i=c.list.length then (c.next_,x) else default:=by
 show (c.list++[(c.next_,x)])[i]! =_
 by_cases h:i<c.list.length
 · rw [if_pos h,lO h]
 · rw [if_neg h,nW (by omega)]
   by_cases e:i=c.list.length
   · rw [if_pos e,e,Nat.sub_self];rfl
   · rw [if_neg e,getElem!_neg _ _ (by simp;omega)]
theorem AQ {c:aW} {x:Int×Int}:(oA c x).list.length=c.list.length+1:=by
 show (c.list++[(c.next_,x)]).length=_;simp
theorem RZ {c:aW} (ok:eJ c) {x:Int×Int} (hx:iB x) (hn: ¬xC c.list x) (hf: ¬D6 c):eJ (oA c x):=by
 have h1:=ok.len;have h2:=ok.n0;have h3:=ok.n1;unfold D6 at hf;refine ⟨by rw [AQ];omega,by show 0<=c.next_+1;omega,by show c.next_+1<=1000000;omega,?_,?_,?_,?_⟩
 · intro i hi
   rw [AQ] at hi;rw [sS]
   by_cases h:i<c.list.length
   · rw [if_pos h];exact ok.cv i h
   · rw [if_neg h,if_pos (by omega)];exact hx
 · intro i hi
   rw [AQ] at hi;rw [sS];show 0<=_/\_<c.next_+1
   by_cases h:i<c.list.length
   · rw [if_pos h];have:=ok.nr i h;omega
   · rw [if_neg h,if_pos (by omega)];dsimp only;omega
 · intro i j hij hj
   rw [AQ] at hj;rw [sS,sS,if_pos (by omega)]
   by_cases h:j<c.list.length
   · rw [if_pos h];exact ok.up i j hij h
   · rw [if_neg h,if_pos (by omega)]
     exact (ok.nr i (by omega)).2
 · intro i j hij hj
   rw [AQ] at hj;rw [sS,sS,if_pos (by omega)]
   by_cases h:j<c.list.length
   · rw [if_pos h];exact ok.nd i j hij h
   · rw [if_neg h,if_pos (by omega)]
     exact fun he=>hn ⟨i,by omega,he⟩
end Go.Proofs.YtmlghnibpjlchaaGreat
namespace Go.Proofs.YtmlghnibpjlchaaGreat
open Go.Vm Classical
def mW (l:List Pt) (id:Int):Prop:= ∃k,k<l.length/\(l[k]!).1=id
noncomputable def eE (l:List Pt) (id:Int):Pt:=if h:mW l id then l[h.choose]! else (-1,0,0)
theorem GP {l:List Pt} (hs:jO l) {k:Nat} (hk:k<l.length) {id:Int} (h:(l[k]!).1=id):eE l id=l[k]!:=by
 have hp:mW l id:=⟨k,hk,h⟩;unfold eE;rw [dif_pos hp]
 have:=hp.choose_spec
 rw [I6 hs this.1 hk (by rw [this.2,h])]
theorem gZ {l:List Pt} (ok:dC l) {id:Int} (h:mW l id):fW (eE l id)/\(eE l id).1=id:=by
 obtain ⟨k,hk,he⟩:=h;rw [GP ok.2.2 hk he];exact ⟨ok.2.1 _ (cR hk),he⟩
theorem FD {l:List Pt} {id:Int} (h: ¬mW l id):eE l id=(-1,0,0):=by unfold eE;rw [dif_neg h]
theorem oB {l:List Pt} (ok:dC l) (id:Int):hO ⟨l⟩ id=some (eE l id):=by
 have h1:=ok.1;have bs:=UD l id (by omega) (fun i j=>rT ok.2.2)
 unfold hO;dsimp only;rw [YV]
 by_cases h:mW l id
 · obtain ⟨k,hk,he⟩:=h
   rw [bs.1 k hk he];simp only [aE,Bool.not_true,cond_false,aD l k hk,GP ok.2.2 hk he]
 · obtain ⟨m,m1,m2,m3,e⟩:=bs.2 (fun k hk he=>h ⟨k,hk,he⟩)
   rw [e,FD h];rfl
theorem xE {l:List Pt} (ok:dC l) {id:Int} (h:mW l id): ∃k,k<l.length/\fD ⟨l⟩ id=some (k:Int)/\l[k]! =eE l id:=by
 have h1:=ok.1;obtain ⟨k,hk,he⟩:=h;exact ⟨k,hk,VM ok.2.2 (by omega) hk he,(GP ok.2.2 hk he).symm⟩
theorem R0 {l:List Pt} (ok:dC l) {id:Int} (h: ¬mW l id):fD ⟨l⟩ id=some (-1):=by
 have h1:=ok.1;exact aFO (by omega) fun k hk he=>h ⟨k,hk,he⟩
def lE (l:List Pt) (x:Int×Int):Prop:=mW l x.1/\mW l x.2
noncomputable def bL (l:List Pt) (x t:Int×Int):(Int×Int)×Bool:=BF (eE l x.2) (eE l x.1) t
theorem BP {l:List Pt} (ok:dC l) {x t:Int×Int} (hx:iB x) (ht:bX t) (h64:pC t):
 oU ⟨l⟩ x t=some (if lE l x then ((bL l x t).1,(bL l x t).2,0) else ((0,0),false,8)):=by
 unfold oU;rw [oB ok,oB ok];simp only [aE,F9 h64];have bad: ¬fW (-1,0,0):=by unfold fW;dsimp only;omega
 by_cases h1:mW l x.1
 · by_cases h2:mW l x.2
   · obtain ⟨p1,p2⟩:=gZ ok h1
     obtain ⟨q1,q2⟩:=gZ ok h2;rw [if_pos ⟨q1,p1,ht,by rw [p2,q2];exact fun h=>hx.2.2.2.2 h.symm⟩,if_pos ⟨h1,h2⟩]
     rfl
   · rw [FD h2,if_neg (fun h=>bad h.1),if_neg (fun h=>bad h.1),if_neg (fun h=>h2 h.2)]
 · rw [FD h1,if_neg (fun h=>bad h.2.1),if_neg (fun h=>bad h.2.1),if_neg (fun h=>h1 h.1)]
theorem BQ {l:List Pt} (ok:dC l) {x t:Int×Int} (h64:pC t) (hb:lE l x):oZ ⟨l⟩ x t=some (bL l x t):=by
 obtain ⟨h1,h2⟩:=hb;obtain ⟨j,j1,j2,j3⟩:=xE ok h1;obtain ⟨k,k1,k2,k3⟩:=xE ok h2;unfold oZ;simp only [j2,k2,aE,aD l j j1,aD l k k1,j3,k3,RO (gZ ok h2).1 (gZ ok h1).1 h64];rfl
theorem YW (c:aW) {l:List Pt} (ok:dC l) (hl:c.list.length<=200):tX c ⟨l⟩=some (decide (∀i,i<c.list.length->lE l (c.list[i]!).2)):=by
 unfold tX;have key:=cS (body:=nP) (fun i=>((i:Int),c.next_,c.list,l)) c.list.length (fun i=> ¬lE l (c.list[i]!).2) (r:=false) (e:=true) (fun i hi=>by
  have e1:decide ((i:Int)<(c.list.length:Int))=true:=aS (by omega)
  unfold nP lE;simp only [aH,e1,cond_true,aD c.list i hi,aE,bD (show i<1000000000 by omega)]
  by_cases h1:mW l (c.list[i]!).2.1
  · obtain ⟨k,k1,k2,_⟩:=xE ok h1
    rw [k2];simp only [aE,aM (show¬(k:Int)<0 by omega),cond_false]
    by_cases h2:mW l (c.list[i]!).2.2
    · obtain ⟨j,j1,j2,_⟩:=xE ok h2
      rw [j2];simp only [aE,aM (show¬(j:Int)<0 by omega),cond_false]
      exact ⟨fun h=>absurd ⟨h1,h2⟩ h,fun _=>trivial⟩
    · rw [R0 ok h2]
      exact ⟨fun _=>rfl,fun h=>absurd (Classical.not_not.1 h).2 h2⟩
  · rw [R0 ok h1]
    exact ⟨fun _=>rfl,fun h=>absurd (Classical.not_not.1 h).1 h1⟩) (by
  unfold nP
  have:decide ((c.list.length:Int)<(c.list.length:Int))=false:=aM (by omega)
  simp only [aH,this,cond_false])
 by_cases hx: ∀i,i<c.list.length->lE l (c.list[i]!).2
 · rw [aS hx];exact key.2 fun i hi=>Classical.not_not.2 (hx i hi)
 · rw [aM hx]
   obtain ⟨i,h⟩:=Classical.not_forall.1 hx;obtain ⟨hi,hx⟩:=Classical.not_imp.1 h;exact key.1 ⟨i,hi,hx⟩
def aV (l:List Pt) (t:Int×Int) (H:List Ev):List BL->List BL->Prop
 | [],ds=>ds=[]
 |x::cs,ds=>((bL l x.2 t).2=true-> ∃d ds',ds=d::ds'/\d.1=x.1/\((bL l x.2 t).1.1,(bL l x.2 t).1.2,x.1,d.2)∈H/\aV l t H cs ds')/\((bL l x.2 t).2=false->aV l t H cs ds)
structure bG (c:aO):Prop where
 nowv:bX c.now
 now64:pC c.now
 fld:dC c.field.points
 crt:eJ c.certs
 agd:fS c.agenda
 w200:c.agenda.where_.length=200
 hd:c.agenda.heap.length=c.due.length
 known: ∀i,i<c.certs.list.length->lE c.field.points (c.certs.list[i]!).2
 fol:aV c.field.points c.now c.agenda.heap c.certs.list c.due
structure sT (c:aO):Prop where
 now64:pC c.now
 ag:FZ c.agenda
 du:c.due.length<=1000000
theorem aGs {a:aJ} (ok:fS a) (w2:a.where_.length=200) (t:Int×Int) (n:Int) (h:Int×Int):
 (0<=h.1/\h.1<200/\0<=a.where_[h.1.toNat]!/\a.heap[(a.where_[h.1.toNat]!).toNat]! =(t.1,t.2,n,h))↔((t.1,t.2,n,h):Ev)∈a.heap:=by
 have wl:=ok.wl;have hu:=ok.so.ul;constructor
 · rintro ⟨h1,h2,h3,h4⟩
   cases hb:a.slots.used[h.1.toNat]! with
   |false=>
    have:=ok.un h.1.toNat (by omega) hb
    omega
   |true=>
    have:=ok.fwd h.1.toNat (by omega) hb
    rw [<- h4];exact cR (by omega)
 · intro hm
   obtain ⟨w,hw,he⟩:=bA.1 hm;obtain ⟨b1,b2,b3,b4,b5⟩:=ok.back hw;have e:Ev.ix a.heap[w]! =h.1:=by rw [he]
   have e2:Ev.n a.heap[w]! =h.1.toNat:=by rw [he]
   rw [e] at b1 b2;rw [e2] at b5;refine ⟨b1,by omega,by omega,?_⟩
   rw [b5,Int.toNat_natCast,he]
theorem YX {a:aJ} (ok:fS a) {i:Nat} (hi:i<a.slots.uses.length) (h:0<=a.where_[i]!):a.where_[i]!<a.heap.length:=by
 cases hb:a.slots.used[i]! with
 |false=>have:=ok.un i hi hb;omega
 |true=>exact (ok.fwd i hi hb).2.1
theorem FE {α:Type} [Inhabited α] {l:List α} {i:Nat} (h:i<l.length):l.drop i=l[i]!::l.drop (i+1):=by
 rw [getElem!_pos l i h];exact List.drop_eq_getElem_cons h
theorem PP {c : aO} (nowv : bX c.now) (now64 : pC c.now) (fld : dC c.field.points) (crt : eJ c.certs) (agd : fS c.agenda) (w2 : c.agenda.where_.length = 200) :
    ∀ (d i : Nat) (ds : List BL), c.certs.list.length - i <= d -> i <= c.certs.list.length -> ds.length <= 1000000 ->
      aK bW (ds, c.certs.list, (c.certs.list.length : Int), (i : Int), c.now.1, c.now.2, c.field.points, c.certs.next_, c.certs.list, c.agenda.slots.uses, c.agenda.slots.used, c.agenda.slots.free, c.agenda.heap, c.agenda.where_, c.due) =
        some (.done (if (∀ j, i <= j -> j < c.certs.list.length -> lE c.field.points (c.certs.list[j]!).2) /\ aV c.field.points c.now c.agenda.heap (c.certs.list.drop i) ds then 0 else 8)) := by
  have hl := crt.len
  have wl := agd.wl
  have fin : ∀ (ds : List BL), aK bW (ds, c.certs.list, (c.certs.list.length : Int), (c.certs.list.length : Int), c.now.1, c.now.2, c.field.points, c.certs.next_, c.certs.list, c.agenda.slots.uses, c.agenda.slots.used, c.agenda.slots.free, c.agenda.heap, c.agenda.where_, c.due) = some (.done (if ds = [] then 0 else 8)) := by
    intro ds
    refine aQ ?_
    unfold bW
    have e1 : decide ((c.certs.list.length : Int) < (c.certs.list.length : Int)) = false := aM (by omega)
    simp only [aH, e1, cond_false]
    cases ds with
    | nil => rw [aM (by simp), if_pos rfl]; rfl
    | cons d ds => rw [aS (by simp), if_neg (by simp)]; rfl
  intro d
  induction d with
  | zero =>
    intro i ds hd hi hds
    have : i = c.certs.list.length := by omega
    subst this
    rw [fin ds, List.drop_length]
    have : ((∀ j, c.certs.list.length <= j -> j < c.certs.list.length -> lE c.field.points (c.certs.list[j]!).2) /\ aV c.field.points c.now c.agenda.heap [] ds) ↔ ds = [] := ⟨fun h => h.2, fun h => ⟨fun j h1 h2 => by omega, h⟩⟩
    by_cases h : ds = []
    · rw [if_pos h, if_pos (this.2 h)]
    · rw [if_neg h, if_neg (fun k => h (this.1 k))]
  | succ d ih =>
    intro i ds hd hi hds
    by_cases he : i = c.certs.list.length
    · subst he
      rw [fin ds, List.drop_length]
      have : ((∀ j, c.certs.list.length <= j -> j < c.certs.list.length -> lE c.field.points (c.certs.list[j]!).2) /\ aV c.field.points c.now c.agenda.heap [] ds) ↔ ds = [] := ⟨fun h => h.2, fun h => ⟨fun j h1 h2 => by omega, h⟩⟩
      by_cases h : ds = []
      · rw [if_pos h, if_pos (this.2 h)]
      · rw [if_neg h, if_neg (fun k => h (this.1 k))]
    have hi' : i < c.certs.list.length := by omega
    have e1 : decide ((i : Int) < (c.certs.list.length : Int)) = true := aS (by omega)
    have hw := BP fld (x := (c.certs.list[i]!).2) (t := (c.now.1, c.now.2)) (crt.cv i hi') nowv now64
    have dr := FE hi'
    have all : (∀ j, i <= j -> j < c.certs.list.length -> lE c.field.points (c.certs.list[j]!).2) ↔ (lE c.field.points (c.certs.list[i]!).2 /\ ∀ j, i + 1 <= j -> j < c.certs.list.length -> lE c.field.points (c.certs.list[j]!).2) := by
      constructor
      · intro h; exact ⟨h i (Nat.le_refl _) hi', fun j h1 h2 => h j (by omega) h2⟩
      · rintro ⟨h1, h2⟩ j h3 h4
        by_cases e : j = i
        · rw [e]; exact h1
        · exact h2 j (by omega) h4
    have sc := bD (show i < 1000000000 by omega)
    by_cases hb : lE c.field.points (c.certs.list[i]!).2
    case neg =>
      rw [if_neg (fun h => hb (all.1 h.1).1)]
      refine aQ ?_
      unfold bW
      simp only [e1, cond_true, aD c.certs.list i hi', aE, hw, if_neg hb]
      rfl
    rw [if_pos hb] at hw
    by_cases is : (bL c.field.points (c.certs.list[i]!).2 c.now).2 = true
    case neg =>
      have is' : (bL c.field.points (c.certs.list[i]!).2 c.now).2 = false := by simpa using is
      rw [bE (y := (ds, c.certs.list, (c.certs.list.length : Int), ((i + 1 : Nat) : Int), c.now.1, c.now.2, c.field.points, c.certs.next_, c.certs.list, c.agenda.slots.uses, c.agenda.slots.used, c.agenda.slots.free, c.agenda.heap, c.agenda.where_, c.due)) (by
        unfold bW
        simp only [e1, cond_true, aD c.certs.list i hi', aE, hw, sc, is', show ((0 : Int) != 0) = false from rfl, cond_false, Bool.not_false]), ih (i + 1) ds (by omega) (by omega) hds]
      have same : ((∀ j, i <= j -> j < c.certs.list.length -> lE c.field.points (c.certs.list[j]!).2) /\ aV c.field.points c.now c.agenda.heap (c.certs.list.drop i) ds) ↔ ((∀ j, i + 1 <= j -> j < c.certs.list.length -> lE c.field.points (c.certs.list[j]!).2) /\ aV c.field.points c.now c.agenda.heap (c.certs.list.drop (i + 1)) ds) := by
        rw [dr, all]
        constructor
        · rintro ⟨⟨_, h1⟩, h2⟩; exact ⟨h1, h2.2 is'⟩
        · rintro ⟨h1, h2⟩; exact ⟨⟨hb, h1⟩, fun h => absurd h is, fun _ => h2⟩
      simp only [same]
    have stop : (¬ ((∀ j, i <= j -> j < c.certs.list.length -> lE c.field.points (c.certs.list[j]!).2) /\ aV c.field.points c.now c.agenda.heap (c.certs.list.drop i) ds)) -> bW (ds, c.certs.list, (c.certs.list.length : Int), (i : Int), c.now.1, c.now.2, c.field.points, c.certs.next_, c.certs.list, c.agenda.slots.uses, c.agenda.slots.used, c.agenda.slots.free, c.agenda.heap, c.agenda.where_, c.due) = some (.done (.done 8)) -> aK bW (ds, c.certs.list, (c.certs.list.length : Int), (i : Int), c.now.1, c.now.2, c.field.points, c.certs.next_, c.certs.list, c.agenda.slots.uses, c.agenda.slots.used, c.agenda.slots.free, c.agenda.heap, c.agenda.where_, c.due) =
        some (.done (if (∀ j, i <= j -> j < c.certs.list.length -> lE c.field.points (c.certs.list[j]!).2) /\ aV c.field.points c.now c.agenda.heap (c.certs.list.drop i) ds then 0 else 8)) := by
      intro h1 h2
      rw [if_neg h1]
      exact aQ h2
    cases ds with
    | nil =>
      refine stop (fun h => ?_) ?_
      · rw [dr] at h
        obtain ⟨d, ds', h1, _⟩ := h.2.1 is
        cases h1
      · unfold bW
        simp only [e1, cond_true, aD c.certs.list i hi', aE, hw, is, show ((0 : Int) != 0) = false from rfl, cond_false, Bool.not_true]
        rfl
    | cons d0 ds =>
      have l0 : ((((d0 :: ds).length : Nat) : Int) == 0) = false := fM (by simp; omega)
      have g0 : aL (d0 :: ds) 0 = some d0 := rfl
      have fol : ∀ P : Prop, (P ↔ d0.1 = (c.certs.list[i]!).1 /\ (((bL c.field.points (c.certs.list[i]!).2 c.now).1.1, (bL c.field.points (c.certs.list[i]!).2 c.now).1.2, (c.certs.list[i]!).1, d0.2) : Ev) ∈ c.agenda.heap) -> ¬ P -> ¬ ((∀ j, i <= j -> j < c.certs.list.length -> lE c.field.points (c.certs.list[j]!).2) /\ aV c.field.points c.now c.agenda.heap (c.certs.list.drop i) (d0 :: ds)) := by
        intro P hP hn h
        rw [dr] at h
        obtain ⟨d, ds', h1, h2, h3, _⟩ := h.2.1 is
        injection h1 with h1 _
        subst h1
        exact hn (hP.2 ⟨h2, h3⟩)
      by_cases b1 : d0.1 = (c.certs.list[i]!).1
      case neg =>
        refine stop (fol (d0.1 = (c.certs.list[i]!).1 /\ _) Iff.rfl (fun h => b1 h.1)) ?_
        unfold bW
        simp only [aH, e1, cond_true, aD c.certs.list i hi', aE, hw, is, show ((0 : Int) != 0) = false from rfl, cond_false, Bool.not_true, l0, g0, dM b1]
      have ea := aGs agd w2 (bL c.field.points (c.certs.list[i]!).2 c.now).1 (c.certs.list[i]!).1 d0.2
      by_cases b2 : d0.2.1 < 0
      · refine stop (fol (d0.1 = (c.certs.list[i]!).1 /\ _) Iff.rfl (fun h => by have := (ea.2 h.2).1; omega)) ?_
        unfold bW
        simp only [aH, e1, cond_true, aD c.certs.list i hi', aE, hw, is, show ((0 : Int) != 0) = false from rfl, cond_false, Bool.not_true, l0, g0, cB b1, aS b2]
      by_cases b3 : 200 <= d0.2.1
      · refine stop (fol (d0.1 = (c.certs.list[i]!).1 /\ _) Iff.rfl (fun h => by have := (ea.2 h.2).2.1; omega)) ?_
        unfold bW
        simp only [aH, e1, cond_true, aD c.certs.list i hi', aE, hw, is, show ((0 : Int) != 0) = false from rfl, cond_false, Bool.not_true, l0, g0, cB b1, aM b2, aS b3]
      have gw := jU (l := c.agenda.where_) (i := d0.2.1) (by omega) (by omega)
      by_cases b4 : c.agenda.where_[d0.2.1.toNat]! < 0
      · refine stop (fol (d0.1 = (c.certs.list[i]!).1 /\ _) Iff.rfl (fun h => by have := (ea.2 h.2).2.2.1; omega)) ?_
        unfold bW
        simp only [aH, e1, cond_true, aD c.certs.list i hi', aE, hw, is, show ((0 : Int) != 0) = false from rfl, cond_false, Bool.not_true, l0, g0, cB b1, aM b2, aM b3, gw, aS b4]
      have gh := jU (l := c.agenda.heap) (i := c.agenda.where_[d0.2.1.toNat]!) (by omega) (YX agd (by omega) (by omega))
      have sl : jJ (d0 :: ds) 1 ((((d0 :: ds).length : Nat) : Int)) = some ds := by
        unfold jJ
        rw [if_pos ⟨by omega, by simp; omega, by omega⟩]
        simp
      have evq : ∀ (e : Ev) (p : Int × Int) (n : Int) (h : Int × Int), ((e.1 == p.1) && ((e.2.1 == p.2) && ((e.2.2.1 == n) && ((e.2.2.2.1 == h.1) && (e.2.2.2.2 == h.2))))) = decide (e = (p.1, p.2, n, h)) := by
        intro e p n h
        rw [Bool.eq_iff_iff, decide_eq_true_iff]
        simp only [Bool.and_eq_true, beq_iff_eq]
        constructor
        · rintro ⟨h1, h2, h3, h4, h5⟩
          exact Prod.ext h1 (Prod.ext h2 (Prod.ext h3 (Prod.ext h4 h5)))
        · intro h; rw [h]; exact ⟨rfl, rfl, rfl, rfl, rfl⟩
      have evq' := evq c.agenda.heap[(c.agenda.where_[d0.2.1.toNat]!).toNat]! (bL c.field.points (c.certs.list[i]!).2 c.now).1 (c.certs.list[i]!).1 d0.2
      by_cases b5 : c.agenda.heap[(c.agenda.where_[d0.2.1.toNat]!).toNat]! = ((bL c.field.points (c.certs.list[i]!).2 c.now).1.1, (bL c.field.points (c.certs.list[i]!).2 c.now).1.2, (c.certs.list[i]!).1, d0.2)
      case neg =>
        refine stop (fol (d0.1 = (c.certs.list[i]!).1 /\ _) Iff.rfl (fun h => b5 (ea.2 h.2).2.2.2)) ?_
        unfold bW
        simp only [aH, e1, cond_true, aD c.certs.list i hi', aE, hw, is, show ((0 : Int) != 0) = false from rfl, cond_false, Bool.not_true, l0, g0, cB b1, aM b2, aM b3, gw, aM b4, gh]
        rw [evq', aM b5]
        rfl
      have hmem := ea.1 ⟨by omega, by omega, by omega, b5⟩
      rw [bE (y := (ds, c.certs.list, (c.certs.list.length : Int), ((i + 1 : Nat) : Int), c.now.1, c.now.2, c.field.points, c.certs.next_, c.certs.list, c.agenda.slots.uses, c.agenda.slots.used, c.agenda.slots.free, c.agenda.heap, c.agenda.where_, c.due)) (by
        unfold bW
        simp only [aH, e1, cond_true, aD c.certs.list i hi', aE, hw, is, show ((0 : Int) != 0) = false from rfl, cond_false, Bool.not_true, l0, g0, cB b1, aM b2, aM b3, gw, aM b4, gh, sl, sc]
        rw [evq', aS b5]
        rfl), ih (i + 1) ds (by omega) (by omega) (by simp at hds; omega)]
      have same : ((∀ j, i <= j -> j < c.certs.list.length -> lE c.field.points (c.certs.list[j]!).2) /\ aV c.field.points c.now c.agenda.heap (c.certs.list.drop i) (d0 :: ds)) ↔ ((∀ j, i + 1 <= j -> j < c.certs.list.length -> lE c.field.points (c.certs.list[j]!).2) /\ aV c.field.points c.now c.agenda.heap (c.certs.list.drop (i + 1)) ds) := by
        rw [dr, all]
        constructor
        · rintro ⟨⟨_, h1⟩, h2⟩
          obtain ⟨d, ds', k1, k2, k3, k4⟩ := h2.1 is
          injection k1 with k1 k5
          subst k5
          exact ⟨h1, k4⟩
        · rintro ⟨h1, h2⟩
          exact ⟨⟨hb, h1⟩, fun _ => ⟨d0, ds, rfl, b1, hmem, h2⟩, fun h => by rw [is] at h; cases h⟩
      simp only [same]
end Go.Proofs.YtmlghnibpjlchaaGreat
namespace Go.Proofs.YtmlghnibpjlchaaGreat
open Go.Vm Classical
theorem bG.iff {c:aO} (fit:sT c):bG c↔bX c.now/\dC c.field.points/\eJ c.certs/\fS c.agenda/\c.agenda.where_.length=200/\c.agenda.heap.length=c.due.length/\(∀i,i<c.certs.list.length->lE c.field.points (c.certs.list[i]!).2)/\aV c.field.points c.now c.agenda.heap c.certs.list c.due:=
 ⟨fun h=>⟨h.nowv,h.fld,h.crt,h.agd,h.w200,h.hd,h.known,h.fol⟩,fun ⟨h1,h2,h3,h4,h5,h6,h7,h8⟩=>⟨h1,fit.now64,h2,h3,h4,h5,h6,h7,h8⟩⟩
theorem bG.fit {c:aO} (ok:bG c):sT c:=⟨ok.now64,ok.agd.fit,by have:=ok.hd;have:=ok.agd.bd;omega⟩
theorem PQ {c:aO} {n0 n1 n2 n3:Int}:
 aK dP (4,0,c.now.1,c.now.2,c.field.points,c.certs.next_,c.certs.list,c.agenda.slots.uses,c.agenda.slots.used,c.agenda.slots.free,c.agenda.heap,c.agenda.where_,c.due,[n0,n1,n2,n3])=
  if n0=0/\n1=0/\n2=0/\n3=0 then aK dP (4,4,c.now.1,c.now.2,c.field.points,c.certs.next_,c.certs.list,c.agenda.slots.uses,c.agenda.slots.used,c.agenda.slots.free,c.agenda.heap,c.agenda.where_,c.due,[n0,n1,n2,n3]) else some 8:=by
 have st: ∀(i:Nat) (n:Int),i<4->aL [n0,n1,n2,n3] (i:Int)=some n->aK dP (4,(i:Int),c.now.1,c.now.2,c.field.points,c.certs.next_,c.certs.list,c.agenda.slots.uses,c.agenda.slots.used,c.agenda.slots.free,c.agenda.heap,c.agenda.where_,c.due,[n0,n1,n2,n3])=
  if n=0 then aK dP (4,((i+1:Nat):Int),c.now.1,c.now.2,c.field.points,c.certs.next_,c.certs.list,c.agenda.slots.uses,c.agenda.slots.used,c.agenda.slots.free,c.agenda.heap,c.agenda.where_,c.due,[n0,n1,n2,n3]) else some 8:=by
  intro i n hi hg;have e1:decide ((i:Int)<4)=true:=aS (by omega)
  by_cases h:n=0
  · rw [if_pos h]
    refine bE ?_;unfold dP;simp only [e1,cond_true,hg,aE,cB h,cond_false,bD (show i<1000000000 by omega)]
  · rw [if_neg h]
    refine aQ ?_;unfold dP;simp only [e1,cond_true,hg,aE,dM h]
 have s0:=st 0 n0 (by omega) rfl
 have s1:=st 1 n1 (by omega) rfl
 have s2:=st 2 n2 (by omega) rfl
 have s3:=st 3 n3 (by omega) rfl
 have c0:((0:Nat):Int)=0:=rfl;have c4:((3+1:Nat):Int)=4:=rfl;rw [c0] at s0;rw [c4] at s3;rw [s0]
 by_cases h0:n0=0
 · rw [if_pos h0,show ((0+1:Nat):Int)=((1:Nat):Int) from rfl,s1]
   by_cases h1:n1=0
   · rw [if_pos h1,show ((1+1:Nat):Int)=((2:Nat):Int) from rfl,s2]
     by_cases h2:n2=0
     · rw [if_pos h2,show ((2+1:Nat):Int)=((3:Nat):Int) from rfl,s3]
       by_cases h3:n3=0
       · rw [if_pos h3,if_pos ⟨h0,h1,h2,h3⟩]
       · rw [if_neg h3,if_neg (fun h=>h3 h.2.2.2)]
     · rw [if_neg h2,if_neg (fun h=>h2 h.2.2.1)]
   · rw [if_neg h1,if_neg (fun h=>h1 h.2.1)]
 · rw [if_neg h0,if_neg (fun h=>h0 h.1)]
theorem sU {c:aO} (fit:sT c):hU c=some (if bG c then 0 else 8):=by
 unfold hU;rw [fF fit.now64,sQ,BO,lW _ fit.ag];simp only [aE];have h4:Int.ofNat [if bX c.now then (0:Int) else 8,hY c.field.points,if eJ c.certs then (0:Int) else 8,if fS c.agenda then (0:Int) else 8].length=4:=rfl
 rw [h4,PQ];have z: ∀(p:Prop) [Decidable p],(if p then (0:Int) else 8)=0↔p:=fun p _=>by by_cases h:p<;>simp [h]
 simp only [z,mT];have f1:=bG.iff fit
 by_cases ok:bX c.now/\dC c.field.points/\eJ c.certs/\fS c.agenda
 case neg=>rw [if_neg ok,if_neg (c:=bG c) (fun h=>ok ⟨h.nowv,h.fld,h.crt,h.agd⟩)]
 obtain ⟨nowv,fld,crt,agd⟩:=ok;rw [if_pos ⟨nowv,fld,crt,agd⟩]
 by_cases w2:c.agenda.where_.length=200
 case neg=>
  rw [if_neg (c:=bG c) (fun h=>w2 h.w200)]
  refine aQ ?_;unfold dP;simp only [aH,aM (show¬(4:Int)<4 by omega),cond_false,dM (show¬(c.agenda.where_.length:Int)=200 by omega),cond_true]
 by_cases hd:c.agenda.heap.length=c.due.length
 case neg=>
  rw [if_neg (c:=bG c) (fun h=>hd h.hd)]
  refine aQ ?_;unfold dP;simp only [aH,aM (show¬(4:Int)<4 by omega),cond_false,cB (show (c.agenda.where_.length:Int)=200 by omega),dM (show¬(c.agenda.heap.length:Int)=(c.due.length:Int) by omega),cond_true]
 have run:=PP nowv fit.now64 fld crt agd w2 c.certs.list.length 0 c.due (by omega) (by omega) fit.du
 rw [List.drop_zero] at run;have same:((∀j,0<=j->j<c.certs.list.length->lE c.field.points (c.certs.list[j]!).2)/\aV c.field.points c.now c.agenda.heap c.certs.list c.due)↔bG c:=by
  rw [f1];constructor
  · rintro ⟨h1,h2⟩;exact ⟨nowv,fld,crt,agd,w2,hd,fun i hi=>h1 i (by omega) hi,h2⟩
  · rintro ⟨_,_,_,_,_,_,h1,h2⟩;exact ⟨fun j _ hj=>h1 j hj,h2⟩
 simp only [same] at run;refine aQ ?_;unfold dP;simp only [aH,aM (show¬(4:Int)<4 by omega),cond_false,cB (show (c.agenda.where_.length:Int)=200 by omega),cB (show (c.agenda.heap.length:Int)=(c.due.length:Int) by omega)]
 exact run
theorem aFR {a:aJ} (ok:fS a) (h:Int×Int):sM a h=some (if D2 a.slots h then (a.heap[(a.where_[h.1.toNat]!).toNat]!,0) else ((0,0,0,0,0),6)):=by
 unfold sM;rw [zI a ok.fit,if_pos ok,UC ok.so];simp only [aE,show ((0:Int) !=0)=false from rfl,cond_false]
 by_cases lv:D2 a.slots h
 · obtain ⟨i,hi,hw,hh⟩:=ok.live lv
   have:=lv.1;have:=lv.2.1;have:=ok.wl
   rw [aS lv,if_pos lv,jU (l:=a.where_) lv.1 (by omega),hw]
   simp only [Bool.not_true,cond_false,aE,aD a.heap i hi,Int.toNat_natCast]
 · rw [aM lv,if_neg lv];rfl
theorem PR {c : aO} (now64 : pC c.now) (fld : dC c.field.points) (crt : eJ c.certs) (agd : fS c.agenda) (w2 : c.agenda.where_.length = 200) (hdu : c.due.length <= 1000000)
    (kn : ∀ i, i < c.certs.list.length -> lE c.field.points (c.certs.list[i]!).2) :
    ∀ (d i k : Nat), c.certs.list.length - i <= d -> i <= c.certs.list.length -> k <= c.due.length ->
      aK cQ ((k : Int), (i : Int), c.now.1, c.now.2, c.field.points, c.certs.next_, c.certs.list, c.agenda.slots.uses, c.agenda.slots.used, c.agenda.slots.free, c.agenda.heap, c.agenda.where_, c.due) =
        some (if aV c.field.points c.now c.agenda.heap (c.certs.list.drop i) (c.due.drop k) then 0 else 8) := by
  have hl := crt.len
  have wl := agd.wl
  have fin : ∀ k : Nat, k <= c.due.length -> aK cQ ((k : Int), (c.certs.list.length : Int), c.now.1, c.now.2, c.field.points, c.certs.next_, c.certs.list, c.agenda.slots.uses, c.agenda.slots.used, c.agenda.slots.free, c.agenda.heap, c.agenda.where_, c.due) = some (if aV c.field.points c.now c.agenda.heap (c.certs.list.drop c.certs.list.length) (c.due.drop k) then 0 else 8) := by
    intro k hk
    rw [List.drop_length]
    refine aQ ?_
    unfold cQ
    have e1 : decide ((c.certs.list.length : Int) < (c.certs.list.length : Int)) = false := aM (by omega)
    simp only [aH, e1, cond_false]
    have : aV c.field.points c.now c.agenda.heap [] (c.due.drop k) ↔ k = c.due.length := by
      show c.due.drop k = [] ↔ _
      rw [List.drop_eq_nil_iff]
      omega
    by_cases h : k = c.due.length
    · rw [if_pos (this.2 h), cB (by omega)]; rfl
    · rw [if_neg (fun x => h (this.1 x)), dM (by omega)]; rfl
  intro d
  induction d with
  | zero =>
    intro i k hd hi hk
    have : i = c.certs.list.length := by omega
    subst this
    exact fin k hk
  | succ d ih =>
    intro i k hd hi hk
    by_cases he : i = c.certs.list.length
    · subst he; exact fin k hk
    have hi' : i < c.certs.list.length := by omega
    have e1 : decide ((i : Int) < (c.certs.list.length : Int)) = true := aS (by omega)
    have hw := BQ fld (x := (c.certs.list[i]!).2) (t := (c.now.1, c.now.2)) now64 (kn i hi')
    have dr := FE hi'
    have sc := bD (show i < 1000000000 by omega)
    have sk := bD (show k < 1000000000 by omega)
    by_cases is : (bL c.field.points (c.certs.list[i]!).2 c.now).2 = true
    case neg =>
      have is' : (bL c.field.points (c.certs.list[i]!).2 c.now).2 = false := by simpa using is
      rw [bE (y := ((k : Int), ((i + 1 : Nat) : Int), c.now.1, c.now.2, c.field.points, c.certs.next_, c.certs.list, c.agenda.slots.uses, c.agenda.slots.used, c.agenda.slots.free, c.agenda.heap, c.agenda.where_, c.due)) (by
        unfold cQ
        simp only [aH, e1, cond_true, aD c.certs.list i hi', aE, hw, sc, is', Bool.not_false]), ih (i + 1) k (by omega) (by omega) hk]
      have same : aV c.field.points c.now c.agenda.heap (c.certs.list.drop i) (c.due.drop k) ↔ aV c.field.points c.now c.agenda.heap (c.certs.list.drop (i + 1)) (c.due.drop k) := by
        rw [dr]
        exact ⟨fun h => h.2 is', fun h => ⟨fun h' => absurd h' is, fun _ => h⟩⟩
      simp only [same]
    have stop : (¬ aV c.field.points c.now c.agenda.heap (c.certs.list.drop i) (c.due.drop k)) -> cQ ((k : Int), (i : Int), c.now.1, c.now.2, c.field.points, c.certs.next_, c.certs.list, c.agenda.slots.uses, c.agenda.slots.used, c.agenda.slots.free, c.agenda.heap, c.agenda.where_, c.due) = some (.done 8) ->
        aK cQ ((k : Int), (i : Int), c.now.1, c.now.2, c.field.points, c.certs.next_, c.certs.list, c.agenda.slots.uses, c.agenda.slots.used, c.agenda.slots.free, c.agenda.heap, c.agenda.where_, c.due) = some (if aV c.field.points c.now c.agenda.heap (c.certs.list.drop i) (c.due.drop k) then 0 else 8) := by
      intro h1 h2
      rw [if_neg h1]
      exact aQ h2
    by_cases hkl : k = c.due.length
    · refine stop (fun h => ?_) ?_
      · rw [dr] at h
        obtain ⟨d, ds', h1, _⟩ := h.1 is
        rw [hkl, List.drop_length] at h1
        cases h1
      · unfold cQ
        simp only [aH, e1, cond_true, aD c.certs.list i hi', aE, hw, is, Bool.not_true, cond_false, aS (show (c.due.length : Int) <= (k : Int) by omega)]
    have hk' : k < c.due.length := by omega
    have dk := FE hk'
    have e2 : decide ((c.due.length : Int) <= (k : Int)) = false := aM (by omega)
    have fol : ¬ ((c.due[k]!).1 = (c.certs.list[i]!).1 /\ (((bL c.field.points (c.certs.list[i]!).2 c.now).1.1, (bL c.field.points (c.certs.list[i]!).2 c.now).1.2, (c.certs.list[i]!).1, (c.due[k]!).2) : Ev) ∈ c.agenda.heap) -> ¬ aV c.field.points c.now c.agenda.heap (c.certs.list.drop i) (c.due.drop k) := by
      intro hn h
      rw [dr, dk] at h
      obtain ⟨d, ds', h1, h2, h3, _⟩ := h.1 is
      injection h1 with h1 _
      subst h1
      exact hn ⟨h2, h3⟩
    by_cases b1 : (c.due[k]!).1 = (c.certs.list[i]!).1
    case neg =>
      refine stop (fol (fun h => b1 h.1)) ?_
      unfold cQ
      simp only [aH, e1, cond_true, aD c.certs.list i hi', aE, hw, is, Bool.not_true, cond_false, e2, aD c.due k hk', dM b1]
    have fi := aFR agd (c.due[k]!).2
    have ea := aGs agd w2 (bL c.field.points (c.certs.list[i]!).2 c.now).1 (c.certs.list[i]!).1 (c.due[k]!).2
    have fi' : sM (aJ.mk (aR.mk c.agenda.slots.uses c.agenda.slots.used c.agenda.slots.free) c.agenda.heap c.agenda.where_) (c.due[k]!).2 = _ := fi
    by_cases lv : D2 c.agenda.slots (c.due[k]!).2
    case neg =>
      rw [if_neg lv] at fi'
      refine stop (fol (fun h => lv ?_)) ?_
      · obtain ⟨w, hw', hev⟩ := bA.1 h.2
        have := (agd.handle hw').1
        rwa [hev] at this
      · unfold cQ
        simp only [aH, e1, cond_true, aD c.certs.list i hi', aE, hw, is, Bool.not_true, cond_false, e2, aD c.due k hk', cB b1, fi', show ((6 : Int) != 0) = true from rfl]
    rw [if_pos lv] at fi'
    obtain ⟨w, hw1, hw2, hw3⟩ := agd.live lv
    rw [hw2, Int.toNat_natCast] at fi'
    have q1 : (0 <= (c.due[k]!).2.1 /\ (c.due[k]!).2.1 < 200 /\ 0 <= c.agenda.where_[(c.due[k]!).2.1.toNat]!) := ⟨lv.1, by have := lv.2.1; omega, by rw [hw2]; omega⟩
    by_cases b2 : (c.agenda.heap[w]!).2.2.1 = (c.certs.list[i]!).1
    case neg =>
      refine stop (fol (fun h => b2 ?_)) ?_
      · have := (ea.2 h.2).2.2.2
        rw [hw2, Int.toNat_natCast] at this
        rw [this]
      · unfold cQ
        simp only [aH, e1, cond_true, aD c.certs.list i hi', aE, hw, is, Bool.not_true, cond_false, e2, aD c.due k hk', cB b1, fi', show ((0 : Int) != 0) = false from rfl, dM b2]
    have teq : ((c.agenda.heap[w]!).1 == (bL c.field.points (c.certs.list[i]!).2 c.now).1.1 && (c.agenda.heap[w]!).2.1 == (bL c.field.points (c.certs.list[i]!).2 c.now).1.2) = decide (((c.agenda.heap[w]!).1, (c.agenda.heap[w]!).2.1) = (bL c.field.points (c.certs.list[i]!).2 c.now).1) := by
      rw [Bool.eq_iff_iff, decide_eq_true_iff]
      simp only [Bool.and_eq_true, beq_iff_eq]
      constructor
      · rintro ⟨h1, h2⟩; exact Prod.ext h1 h2
      · intro h; rw [<- h]; exact ⟨rfl, rfl⟩
    by_cases b3 : ((c.agenda.heap[w]!).1, (c.agenda.heap[w]!).2.1) = (bL c.field.points (c.certs.list[i]!).2 c.now).1
    case neg =>
      refine stop (fol (fun h => b3 ?_)) ?_
      · have := (ea.2 h.2).2.2.2
        rw [hw2, Int.toNat_natCast] at this
        rw [this]
      · unfold cQ
        simp only [aH, e1, cond_true, aD c.certs.list i hi', aE, hw, is, Bool.not_true, cond_false, e2, aD c.due k hk', cB b1, fi', show ((0 : Int) != 0) = false from rfl, cB b2]
        rw [teq, aM b3]
        rfl
    have hmem := ea.1 ⟨q1.1, q1.2.1, q1.2.2, by
      rw [hw2, Int.toNat_natCast]
      have t1 := congrArg Prod.fst b3
      have t2 := congrArg Prod.snd b3
      exact Prod.ext t1 (Prod.ext t2 (Prod.ext b2 hw3))⟩
    rw [bE (y := (((k + 1 : Nat) : Int), ((i + 1 : Nat) : Int), c.now.1, c.now.2, c.field.points, c.certs.next_, c.certs.list, c.agenda.slots.uses, c.agenda.slots.used, c.agenda.slots.free, c.agenda.heap, c.agenda.where_, c.due)) (by
      unfold cQ
      simp only [aH, e1, cond_true, aD c.certs.list i hi', aE, hw, is, Bool.not_true, cond_false, e2, aD c.due k hk', cB b1, fi', show ((0 : Int) != 0) = false from rfl, cB b2, sc, sk]
      rw [teq, aS b3]
      rfl), ih (i + 1) (k + 1) (by omega) (by omega) (by omega)]
    have same : aV c.field.points c.now c.agenda.heap (c.certs.list.drop i) (c.due.drop k) ↔ aV c.field.points c.now c.agenda.heap (c.certs.list.drop (i + 1)) (c.due.drop (k + 1)) := by
      rw [dr, dk]
      constructor
      · intro h2
        obtain ⟨d, ds', k1, k2, k3, k4⟩ := h2.1 is
        injection k1 with k1 k5
        subst k5
        exact k4
      · intro h2
        exact ⟨fun _ => ⟨_, _, rfl, b1, hmem, h2⟩, fun h => by rw [is] at h; cases h⟩
    simp only [same]
theorem JI {c:aO} (fit:sT c):tZ c=some (if bG c then 0 else 8):=by
 unfold tZ;rw [nY fit.now64,nZ,zK,zI _ fit.ag];simp only [aE]
 by_cases nowv:bX c.now
 case neg=>rw [if_neg nowv,if_neg (c:=bG c) (fun h=>nowv h.nowv)];rfl
 rw [if_pos nowv]
 by_cases fld:dC c.field.points
 case neg=>rw [dM (fun h=>fld (mT.1 h)),if_neg (c:=bG c) (fun h=>fld h.fld)];rfl
 rw [cB (mT.2 fld)]
 by_cases crt:eJ c.certs
 case neg=>rw [if_neg crt,if_neg (c:=bG c) (fun h=>crt h.crt)];rfl
 rw [if_pos crt];have kn:=YW c.certs fld crt.len;simp only [show ((0:Int) !=0)=false from rfl,cond_false,kn,aE]
 by_cases known: ∀i,i<c.certs.list.length->lE c.field.points (c.certs.list[i]!).2
 case neg=>rw [aM known,if_neg (c:=bG c) (fun h=>known h.known)];rfl
 rw [aS known]
 by_cases agd:fS c.agenda
 case neg=>rw [if_neg agd,if_neg (c:=bG c) (fun h=>agd h.agd)];rfl
 rw [if_pos agd];simp only [aH,show ((0:Int) !=0)=false from rfl,cond_false,Bool.not_true]
 by_cases w2:c.agenda.where_.length=200
 case neg=>rw [dM (by omega),if_neg (c:=bG c) (fun h=>w2 h.w200)];rfl
 rw [cB (by omega)]
 by_cases hd:c.agenda.heap.length=c.due.length
 case neg=>rw [dM (by omega),if_neg (c:=bG c) (fun h=>hd h.hd)];rfl
 rw [cB (by omega)]
 have run:=PR fit.now64 fld crt agd w2 fit.du known c.certs.list.length 0 0 (by omega) (by omega) (by omega)
 rw [List.drop_zero,List.drop_zero] at run;have same:aV c.field.points c.now c.agenda.heap c.certs.list c.due↔bG c:=by
  rw [bG.iff fit];exact ⟨fun h=>⟨nowv,fld,crt,agd,w2,hd,known,h⟩,fun h=>h.2.2.2.2.2.2.2⟩
 simp only [same] at run;simp only [cond_false];exact run
end Go.Proofs.YtmlghnibpjlchaaGreat
namespace Go.Proofs.YtmlghnibpjlchaaGreat
open Go.Vm Classical
section
variable {l : List Pt} {t : Int × Int}
theorem aV.cons_true {H:List Ev} {x:BL} {cs ds:List BL} (h:(bL l x.2 t).2=true):aV l t H (x::cs) ds↔ ∃d ds',ds=d::ds'/\d.1=x.1/\(((bL l x.2 t).1.1,(bL l x.2 t).1.2,x.1,d.2):Ev)∈H/\aV l t H cs ds':=
 ⟨fun k=>k.1 h,fun k=>⟨fun _=>k,fun k'=>(by rw [h] at k';cases k')⟩⟩
theorem aV.cons_false {H:List Ev} {x:BL} {cs ds:List BL} (h:(bL l x.2 t).2=false):aV l t H (x::cs) ds↔aV l t H cs ds:=
 ⟨fun k=>k.2 h,fun k=>⟨fun k'=>(by rw [h] at k';cases k'),fun _=>k⟩⟩
theorem aV.mono {H H':List Ev}: ∀{cs ds:List BL},(∀x∈cs,∀e:Ev,e.num=x.1->e∈H->e∈H')->aV l t H cs ds->aV l t H' cs ds
 | [],_,_,h=>h
 |x::cs,ds,hm,h=>by
  have hm': ∀y∈cs,∀e:Ev,e.num=y.1->e∈H->e∈H':=fun y hy=>hm y (by simp [hy])
  cases hx:(bL l x.2 t).2 with
  |true=>
   rw [aV.cons_true hx] at h ⊢;obtain ⟨d,ds',h1,h2,h3,h4⟩:=h;exact ⟨d,ds',h1,h2,hm x (by simp) _ rfl h3,aV.mono hm' h4⟩
  |false=>
   rw [aV.cons_false hx] at h ⊢;exact aV.mono hm' h
theorem aV.due {H:List Ev}: ∀{cs ds:List BL},aV l t H cs ds-> ∀d∈ds,∃x∈cs,d.1=x.1/\(bL l x.2 t).2=true/\(((bL l x.2 t).1.1,(bL l x.2 t).1.2,x.1,d.2):Ev)∈H
 | [],ds,h,d,hd=>by
  have:ds=[]:=h
  subst this;cases hd
 |x::cs,ds,h,d,hd=>by
  cases hx:(bL l x.2 t).2 with
  |true=>
   rw [aV.cons_true hx] at h;obtain ⟨e,ds',h1,h2,h3,h4⟩:=h;subst h1;rcases List.mem_cons.1 hd with rfl|hd
   · exact ⟨x,by simp,h2,hx,h3⟩
   · obtain ⟨y,hy,k⟩:=aV.due h4 d hd
     exact ⟨y,by simp [hy],k⟩
  |false=>
   rw [aV.cons_false hx] at h;obtain ⟨y,hy,k⟩:=aV.due h d hd;exact ⟨y,by simp [hy],k⟩
theorem aV.has {H:List Ev}: ∀{cs ds:List BL},aV l t H cs ds-> ∀x∈cs,(bL l x.2 t).2=true-> ∃d∈ds,d.1=x.1/\(((bL l x.2 t).1.1,(bL l x.2 t).1.2,x.1,d.2):Ev)∈H
 | [],_,_,x,hx,_=>by cases hx
 |y::cs,ds,h,x,hx,hf=>by
  cases hy:(bL l y.2 t).2 with
  |true=>
   rw [aV.cons_true hy] at h;obtain ⟨e,ds',h1,h2,h3,h4⟩:=h;subst h1;rcases List.mem_cons.1 hx with rfl|hx
   · exact ⟨e,by simp,h2,h3⟩
   · obtain ⟨d,hd,k⟩:=aV.has h4 x hx hf
     exact ⟨d,by simp [hd],k⟩
  |false=>
   rw [aV.cons_false hy] at h;rcases List.mem_cons.1 hx with rfl|hx
   · rw [hf] at hy;cases hy
   · exact aV.has h x hx hf
def Up (cs:List BL):Prop:=cs.Pairwise fun x y=>x.1<y.1
theorem GQ {cs:List BL}:Up cs↔ ∀i j,i<j->j<cs.length->(cs[i]!).1<(cs[j]!).1:=by
 unfold Up;rw [List.pairwise_iff_getElem];constructor
 · intro h i j hij hj
   rw [getElem!_pos cs i (by omega),getElem!_pos cs j hj]
   exact h i j (by omega) hj hij
 · intro h i j hi hj hij
   have:=h i j hij hj
   rwa [getElem!_pos cs i hi,getElem!_pos cs j hj] at this
theorem aV.up {H:List Ev}: ∀{cs ds:List BL},aV l t H cs ds->Up cs->Up ds
 | [],ds,h,_=>by
  have:ds=[]:=h
  subst this;exact List.Pairwise.nil
 |x::cs,ds,h,hu=>by
  have hu':=List.pairwise_cons.1 hu;cases hx:(bL l x.2 t).2 with
  |true=>
   rw [aV.cons_true hx] at h;obtain ⟨e,ds',h1,h2,h3,h4⟩:=h;subst h1;refine List.pairwise_cons.2 ⟨fun d hd=>?_,aV.up h4 hu'.2⟩
   obtain ⟨y,hy,k,_⟩:=aV.due h4 d hd
   have:=hu'.1 y hy
   omega
  |false=>
   rw [aV.cons_false hx] at h;exact aV.up h hu'.2
theorem aV.snoc {H:List Ev}: ∀{cs ds:List BL} {x:BL},aV l t H cs ds->((bL l x.2 t).2=false->aV l t H (cs++[x]) ds)/\
 (∀d:BL,(bL l x.2 t).2=true->d.1=x.1->(((bL l x.2 t).1.1,(bL l x.2 t).1.2,x.1,d.2):Ev)∈H->aV l t H (cs++[x]) (ds++[d]))
 | [],ds,x,h=>by
  have:ds=[]:=h
  subst this;refine ⟨fun hx=>(aV.cons_false hx).2 rfl,fun d hx h1 h2=>(aV.cons_true hx).2 ⟨d,[],rfl,h1,h2,rfl⟩⟩
 |y::cs,ds,x,h=>by
  cases hy:(bL l y.2 t).2 with
  |true=>
   rw [aV.cons_true hy] at h;obtain ⟨e,ds',h1,h2,h3,h4⟩:=h;subst h1;have ih:=aV.snoc (x:=x) h4;refine ⟨fun hx=>(aV.cons_true hy).2 ⟨e,ds',rfl,h2,h3,ih.1 hx⟩,fun d hx k1 k2=>(aV.cons_true hy).2 ⟨e,ds'++[d],rfl,h2,h3,ih.2 d hx k1 k2⟩⟩
  |false=>
   rw [aV.cons_false hy] at h;have ih:=aV.snoc (x:=x) h;exact ⟨fun hx=>(aV.cons_false hy).2 (ih.1 hx),fun d hx k1 k2=>(aV.cons_false hy).2 (ih.2 d hx k1 k2)⟩
theorem aV.erase {H:List Ev}: ∀{cs ds:List BL} {i:Nat},aV l t H cs ds->i<cs.length->((bL l (cs[i]!).2 t).2=false->aV l t H (cs.eraseIdx i) ds)/\
 ((bL l (cs[i]!).2 t).2=true-> ∃k,k<ds.length/\(ds[k]!).1=(cs[i]!).1/\(((bL l (cs[i]!).2 t).1.1,(bL l (cs[i]!).2 t).1.2,(cs[i]!).1,(ds[k]!).2):Ev)∈H/\aV l t H (cs.eraseIdx i) (ds.eraseIdx k))
 | [],_,i,_,hi=>by cases hi
 |y::cs,ds,0,h,_=>by
  show ((bL l y.2 t).2=false->aV l t H cs ds)/\((bL l y.2 t).2=true-> ∃k,k<ds.length/\(ds[k]!).1=y.1/\(((bL l y.2 t).1.1,(bL l y.2 t).1.2,y.1,(ds[k]!).2):Ev)∈H/\aV l t H cs (ds.eraseIdx k));refine ⟨fun hy=>(aV.cons_false hy).1 h,fun hy=>?_⟩
  obtain ⟨e,ds',h1,h2,h3,h4⟩:=(aV.cons_true hy).1 h;subst h1;exact ⟨0,by simp,h2,h3,h4⟩
 |y::cs,ds,i+1,h,hi=>by
  have hi':i<cs.length:=by simpa using hi
  show ((bL l (cs[i]!).2 t).2=false->aV l t H (y::cs.eraseIdx i) ds)/\((bL l (cs[i]!).2 t).2=true-> ∃k,k<ds.length/\(ds[k]!).1=(cs[i]!).1/\(((bL l (cs[i]!).2 t).1.1,(bL l (cs[i]!).2 t).1.2,(cs[i]!).1,(ds[k]!).2):Ev)∈H/\aV l t H (y::cs.eraseIdx i) (ds.eraseIdx k));cases hy:(bL l y.2 t).2 with
  |true=>
   obtain ⟨e,ds',h1,h2,h3,h4⟩:=(aV.cons_true hy).1 h;subst h1;have ih:=aV.erase (i:=i) h4 hi';refine ⟨fun hx=>(aV.cons_true hy).2 ⟨e,ds',rfl,h2,h3,ih.1 hx⟩,fun hx=>?_⟩
   obtain ⟨k,k1,k2,k3,k4⟩:=ih.2 hx;exact ⟨k+1,by simp;omega,k2,k3,(aV.cons_true hy).2 ⟨e,ds'.eraseIdx k,rfl,h2,h3,k4⟩⟩
  |false=>
   have h:=(aV.cons_false hy).1 h;have ih:=aV.erase (i:=i) h hi';refine ⟨fun hx=>(aV.cons_false hy).2 (ih.1 hx),fun hx=>?_⟩
   obtain ⟨k,k1,k2,k3,k4⟩:=ih.2 hx;exact ⟨k,k1,k2,k3,(aV.cons_false hy).2 k4⟩
end
theorem PS {H:List Ev} {ns:List Int} (hd:ns.Nodup) (hl:H.length<=ns.length) (he: ∀n∈ns,∃e∈H,Ev.num e=n): ∀e∈H,Ev.num e∈ns:=by
 have pos: ∀n,n∈ns-> ∃w,w<H.length/\Ev.num H[w]! =n:=fun n hn=>by
  obtain ⟨e,he,h2⟩:=he n hn;obtain ⟨w,hw,rfl⟩:=bA.1 he;exact ⟨w,hw,h2⟩
 let f:Int->Nat:=fun n=>if h: ∃w,w<H.length/\Ev.num H[w]! =n then h.choose else 0
 have hf: ∀n∈ns,f n<H.length/\Ev.num H[f n]! =n:=fun n hn=>by
  have h:=pos n hn;show (if h: ∃w,w<H.length/\Ev.num H[w]! =n then h.choose else 0)<_/\Ev.num H[(if h: ∃w,w<H.length/\Ev.num H[w]! =n then h.choose else 0)]! =n
  rw [dif_pos h];exact h.choose_spec
 have full:=FX (n:=H.length) (l:=ns.map f) (AP hd fun x hx y hy h=>by
  have h1:=(hf x hx).2;have h2:=(hf y hy).2;rw [h] at h1
  omega) (fun x hx=>by
  obtain ⟨n,hn,rfl⟩:=List.mem_map.1 hx;exact (hf n hn).1) (by rw [List.length_map];exact hl)
 intro e hm;obtain ⟨w,hw,rfl⟩:=bA.1 hm;obtain ⟨n,hn,h⟩:=List.mem_map.1 (full w hw);rw [<- h,(hf n hn).2];exact hn
theorem YY {cs:List BL} (h:Up cs):(cs.map fun x=>x.1).Nodup:=by
 refine AP ?_ ?_
 · unfold Up at h
   exact h.imp fun hab he=>by rw [he] at hab;omega
 · intro x hx y hy he
   obtain ⟨i,hi,rfl⟩:=bA.1 hx;obtain ⟨j,hj,rfl⟩:=bA.1 hy;rcases Nat.lt_trichotomy i j with h1|h1|h1
   · have:=GQ.1 h i j h1 hj;omega
   · rw [h1]
   · have:=GQ.1 h j i h1 hi;omega
theorem bG.crt_up {c:aO} (ok:bG c):Up c.certs.list:=GQ.2 ok.crt.up
theorem bG.due_up {c:aO} (ok:bG c):Up c.due:=ok.fol.up ok.crt_up
theorem bG.nums {c:aO} (ok:bG c): ∀e∈c.agenda.heap,∃d∈c.due,d.1=Ev.num e:=by
 have:=PS (H:=c.agenda.heap) (YY ok.due_up) (by rw [List.length_map,ok.hd];exact Nat.le_refl _) (fun n hn=>by
  obtain ⟨d,hd,rfl⟩:=List.mem_map.1 hn;obtain ⟨x,hx,h1,h2,h3⟩:=ok.fol.due d hd;exact ⟨_,h3,h1.symm⟩)
 intro e he;obtain ⟨d,hd,h⟩:=List.mem_map.1 (this e he);exact ⟨d,hd,h⟩
end Go.Proofs.YtmlghnibpjlchaaGreat
