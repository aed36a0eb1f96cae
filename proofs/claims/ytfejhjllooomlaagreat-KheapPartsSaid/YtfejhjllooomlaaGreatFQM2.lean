/- Plain laws (2). -/
import Derived.Test.YtfejhjllooomlaaGreatFQM1
namespace Go.Proofs.YtfejhjllooomlaaGreat
open Go.Vm Classical
theorem OR (a:aG) (fit:BP a) (so:eH a.slots) (wl:a.where_.length=a.slots.uses.length):
 aJ lG (a.where_,(a.where_.length:Int),0,a.slots.uses,a.slots.used,a.slots.free,a.heap,a.where_)=some (if (∀i,i<a.slots.uses.length->K6 a i)/\(∀k,k<a.heap.length->L1 a.heap k) then 0 else 8):=by
 have hu:=so.ul;have hn:=so.n2;have hh:=fit.hp;have inner:=OQ a.heap a.slots.uses a.slots.free a.where_ a.slots.used fit.hp fit.at64
 have key:=dA (body:=lG) (fun i=>(a.where_,(a.where_.length:Int),(i:Int),a.slots.uses,a.slots.used,a.slots.free,a.heap,a.where_)) a.where_.length (fun i=> ¬K6 a i) (r:=8) (e:=if (∀k,k<a.heap.length->L1 a.heap k) then 0 else 8) (fun i hi=>by
  have e1:decide ((i:Int)<(a.where_.length:Int))=true:=aR (by omega)
  unfold lG;simp only [aE,e1,cond_true,aC a.where_ i hi,aC a.slots.used i (by omega),aC a.slots.uses i (by omega),aB,bD (show i<1000000000 by omega)]
  unfold K6;generalize a.where_[i]! =w at*;cases hb:a.slots.used[i]! with
  |false=>
   simp only [Bool.not_false,cond_true]
   by_cases hw:w= -1
   · rw [bX hw]
     exact ⟨fun h=>absurd ⟨fun h=>(by cases h),fun _=>hw⟩ h,fun _=>rfl⟩
   · rw [eS hw]
     exact ⟨fun _=>rfl,fun h=>absurd ((Classical.not_not.1 h).2 trivial) hw⟩
  |true=>
   simp only [Bool.not_true,cond_false]
   by_cases b1:w<0
   · rw [aR b1]
     exact ⟨fun _=>rfl,fun h=>absurd ((Classical.not_not.1 h).1 trivial).1 (by omega)⟩
   by_cases b2:(a.heap.length:Int)<=w
   · rw [aM b1,aR b2]
     exact ⟨fun _=>rfl,fun h=>absurd ((Classical.not_not.1 h).1 trivial).2.1 (by omega)⟩
   rw [aM b1,aM b2];simp only [cond_false,dF (l:=a.heap) (i:=w) (by omega) (by omega),aB]
   by_cases b3:(a.heap[w.toNat]!).2.2.2.1=i
   · by_cases b4:(a.heap[w.toNat]!).2.2.2.2=a.slots.uses[i]!
     · rw [fM b3,fM b4]
       exact ⟨fun h=>absurd ⟨fun _=>⟨by omega,by omega,b3,b4⟩,fun h=>(by cases h)⟩ h,fun _=>rfl⟩
     · rw [fM b3,fR b4]
       exact ⟨fun _=>rfl,fun h=>absurd ((Classical.not_not.1 h).1 trivial).2.2.2 b4⟩
   · rw [fR b3]
     exact ⟨fun _=>rfl,fun h=>absurd ((Classical.not_not.1 h).1 trivial).2.2.1 b3⟩) (by
  unfold lG
  have:decide ((a.where_.length:Int)<(a.where_.length:Int))=false:=aM (by omega)
  simp only [aE,this,cond_false]
  by_cases hx: ∀k,k<a.heap.length->L1 a.heap k
  · rw [if_pos hx];exact inner.1 hx
  · rw [if_neg hx];exact inner.2 hx)
 by_cases hw: ∀i,i<a.slots.uses.length->K6 a i
 · refine (key.2 fun i hi=>Classical.not_not.2 (hw i (by omega))).trans ?_
   by_cases hx: ∀k,k<a.heap.length->L1 a.heap k
   · rw [if_pos hx,if_pos ⟨hw,hx⟩]
   · rw [if_neg hx,if_neg (fun h=>hx h.2)]
 · rw [if_neg (fun h=>hw h.1)]
   obtain ⟨i,h⟩:=Classical.not_forall.1 hw;obtain ⟨hi,hx⟩:=Classical.not_imp.1 h;exact key.1 ⟨i,by omega,hx⟩
theorem iU (a:aG) (fit:BP a):jA a=some (if eB a then 0 else 8):=by
 have hh:=fit.hp;unfold jA;rw [wM _ fit.fr];simp only [aE]
 by_cases so:eH a.slots
 case neg=>rw [if_neg so,if_neg (fun h=>so h.so)];rfl
 have hu:=so.ul;have hn:=so.n2;have hf:=so.fl;rw [if_pos so];simp only [aB,show ((0:Int) !=0)=false from rfl,cond_false]
 by_cases wl:a.where_.length=a.slots.uses.length
 case neg=>
  rw [eS (by omega),if_neg (fun h=>wl h.wl)];rfl
 rw [bX (by omega)]
 have e:aA .i64 ((a.slots.used.length:Int) - (a.slots.free.length:Int))=((a.slots.uses.length-a.slots.free.length:Nat):Int):=by rw [wi];omega
 rw [e]
 by_cases hl:a.heap.length+a.slots.free.length=a.slots.uses.length
 case neg=>
  rw [eS (by omega),if_neg (fun h=>hl h.hl)];rfl
 rw [bX (by omega)]
 simp only [cond_false];rw [OR a fit so wl]
 by_cases ok:eB a
 · rw [if_pos ok,if_pos ok.to]
 · rw [if_neg ok,if_neg]
   intro h;exact ok (eB.of fit so wl hl h.1 h.2)
theorem aAC {x y:Ev} (hx:lO (x.1,x.2.1)) (hy:lO (y.1,y.2.1)):dU x y=some (decide (dB x y)):=by
 unfold dU dB;rw [zM hx hy];simp only [aB];generalize fC (x.1,x.2.1) (y.1,y.2.1)=c
 by_cases h1:c<0
 · simp [h1]
 · by_cases h2:c=0
   · subst h2;simp
   · simp only [h1,fR h2,h2,decide_false,cond_false,false_or,false_and]
theorem V5 {s:aS} (ok:eH s) (h:Int×Int):uF s h=some (decide (vT s h)):=by
 have hu:=ok.ul;unfold uF vT;simp only [aE]
 by_cases a1:0<=h.1
 · by_cases a2:h.1<s.uses.length
   · simp only [a1,a2,decide_true,cond_true,dF (l:=s.used) a1 (by omega),dF (l:=s.uses) a1 a2,aB,true_and]
     generalize s.uses[h.1.toNat]! =u;cases s.used[h.1.toNat]!<;>simp [V3]
   · simp [a1,a2]
 · simp [a1]
theorem XT (a:aG) (so:eH a.slots):tH a=some (decide (a.where_.length=a.slots.uses.length/\a.heap.length+a.slots.free.length=a.slots.uses.length/\ ∀i,i<a.slots.uses.length->K6 a i)):=by
 have hu:=so.ul;have hn:=so.n2;have hf:=so.fl;unfold tH;simp only [aE]
 by_cases wl:a.where_.length=a.slots.uses.length
 case neg=>
  rw [eS (by omega),aM (fun h=>wl h.1)];rfl
 rw [bX (by omega)]
 have e:aA .i64 ((a.slots.uses.length:Int) - (a.slots.free.length:Int))=((a.slots.uses.length-a.slots.free.length:Nat):Int):=by rw [wi];omega
 rw [e]
 by_cases hl:a.heap.length+a.slots.free.length=a.slots.uses.length
 case neg=>
  rw [eS (by omega),aM (fun h=>hl h.2.1)];rfl
 rw [bX (by omega)]
 simp only [cond_false];have key:=dA (body:=nH) (fun i=>((a.slots.uses.length:Int),(i:Int),a.slots.uses,a.slots.used,a.slots.free,a.heap,a.where_)) a.slots.uses.length (fun i=> ¬K6 a i) (r:=false) (e:=true) (fun i hi=>by
  have e1:decide ((i:Int)<(a.slots.uses.length:Int))=true:=aR (by omega)
  unfold nH;simp only [aE,e1,cond_true,aC a.where_ i (by omega),aC a.slots.used i (by omega),aB,bD (show i<1000000000 by omega)]
  unfold K6;generalize a.where_[i]! =w at*;cases hb:a.slots.used[i]! with
  |false=>
   simp only [Bool.not_false,cond_true]
   by_cases hw:w= -1
   · rw [bX hw]
     exact ⟨fun h=>absurd ⟨fun h=>(by cases h),fun _=>hw⟩ h,fun _=>rfl⟩
   · rw [eS hw]
     exact ⟨fun _=>rfl,fun h=>absurd ((Classical.not_not.1 h).2 trivial) hw⟩
  |true=>
   simp only [Bool.not_true,cond_false]
   by_cases b1:w<0
   · rw [aR b1]
     exact ⟨fun _=>rfl,fun h=>absurd ((Classical.not_not.1 h).1 trivial).1 (by omega)⟩
   by_cases b2:(a.heap.length:Int)<=w
   · rw [aM b1,aR b2]
     exact ⟨fun _=>rfl,fun h=>absurd ((Classical.not_not.1 h).1 trivial).2.1 (by omega)⟩
   rw [aM b1,aM b2];simp only [cond_false,dF (l:=a.heap) (i:=w) (by omega) (by omega),aB]
   by_cases b3:(a.heap[w.toNat]!).2.2.2.1=i
   · rw [bX b3]
     simp only [cond_false];rw [V5 (s:=⟨a.slots.uses,a.slots.used,a.slots.free⟩) so];have lv:vT ⟨a.slots.uses,a.slots.used,a.slots.free⟩ (a.heap[w.toNat]!).2.2.2↔(a.heap[w.toNat]!).2.2.2.2=a.slots.uses[i]!:=by
      unfold vT;dsimp only;rw [b3];constructor
      · intro h;exact h.2.2.2.symm
      · intro h;exact ⟨by omega,by omega,by rw [Int.toNat_natCast];exact hb,by rw [Int.toNat_natCast];exact h.symm⟩
     simp only [aB,lv]
     by_cases b4:(a.heap[w.toNat]!).2.2.2.2=a.slots.uses[i]!
     · rw [aR b4]
       exact ⟨fun h=>absurd ⟨fun _=>⟨by omega,by omega,b3,b4⟩,fun h=>(by cases h)⟩ h,fun _=>rfl⟩
     · rw [aM b4]
       exact ⟨fun _=>rfl,fun h=>absurd ((Classical.not_not.1 h).1 trivial).2.2.2 b4⟩
   · rw [eS b3]
     exact ⟨fun _=>rfl,fun h=>absurd ((Classical.not_not.1 h).1 trivial).2.2.1 b3⟩) (by
  unfold nH
  have:decide ((a.slots.uses.length:Int)<(a.slots.uses.length:Int))=false:=aM (by omega)
  simp only [this,cond_false])
 by_cases hw: ∀i,i<a.slots.uses.length->K6 a i
 · rw [aR ⟨wl,hl,hw⟩]
   exact key.2 fun i hi=>Classical.not_not.2 (hw i hi)
 · rw [aM (fun h=>hw h.2.2)]
   obtain ⟨i,h⟩:=Classical.not_forall.1 hw;obtain ⟨hi,hx⟩:=Classical.not_imp.1 h;exact key.1 ⟨i,hi,hx⟩
theorem RR (H:List Ev) (u fr W:List Int) (us:List Bool) (k:Nat) (hk:k<H.length) (hl:H.length<=1000000) (x:Ev):
 ((∃j,j<k/\(H[j]!).2.2.1=x.2.2.1)->aJ kB ((k:Int),0,u,us,fr,H,W,x)=some (.done 8))/\
 ((∀j,j<k-> ¬(H[j]!).2.2.1=x.2.2.1)->aJ kB ((k:Int),0,u,us,fr,H,W,x)=some (.next (((k+1:Nat):Int),u,us,fr,H,W))):=by
 refine dA (body:=kB) (fun j=>((k:Int),(j:Int),u,us,fr,H,W,x)) k (fun j=>(H[j]!).2.2.1=x.2.2.1) (r:= .done 8) (e:= .next (((k+1:Nat):Int),u,us,fr,H,W)) (fun j hj=>?_) ?_
 · have e1:decide ((j:Int)<(k:Int))=true:=aR (by omega)
   unfold kB;simp only [e1,cond_true,aC H j (by omega),aB,bD (show j<1000000000 by omega)]
   constructor
   · intro h;rw [fM h];rfl
   · intro h;rw [fR h];rfl
 · unfold kB
   have:decide ((k:Int)<(k:Int))=false:=aM (by omega)
   simp only [this,cond_false,bD (show k<1000000000 by omega)]
theorem RS (H:List Ev) (u fr W:List Int) (us:List Bool) (hl:H.length<=1000000) (r64: ∀w,w<H.length->lO ((H[w]!).1,(H[w]!).2.1)):
 aJ kC (1,u,us,fr,H,W)=some (.done (if∀k,0<k->k<H.length-> ¬dB H[k]! H[(k-1) / 2]! then 0 else 8)):=by
 by_cases h0:H.length=0
 · rw [if_pos (fun k _ hk=>by omega)]
   refine aO ?_;unfold kC
   have:decide ((1:Int)<(H.length:Int))=false:=aM (by omega)
   simp only [aE,this,cond_false]
 have key:=dA (body:=kC) (fun i=>(((i+1:Nat):Int),u,us,fr,H,W)) (H.length-1) (fun i=>dB H[i+1]! H[i / 2]!) (r:= .done 8) (e:= .done 0) (fun i hi=>by
  have e1:decide (((i+1:Nat):Int)<(H.length:Int))=true:=aR (by omega)
  unfold kC;simp only [aE,e1,cond_true,sR (show i<1000000000 by omega),aC H (i+1) (by omega),aC H (i / 2) (by omega),aB,aAC (r64 (i+1) (by omega)) (r64 (i / 2) (by omega)),bD (show i+1<1000000000 by omega)]
  constructor
  · intro h;rw [aR h];rfl
  · intro h;rw [aM h];rfl) (by
  unfold kC
  have:decide (((H.length-1+1:Nat):Int)<(H.length:Int))=false:=aM (by omega)
  simp only [aE,this,cond_false])
 by_cases ho: ∀k,0<k->k<H.length-> ¬dB H[k]! H[(k-1) / 2]!
 · rw [if_pos ho]
   refine key.2 fun i hi hc=>ho (i+1) (by omega) (by omega) ?_
   rwa [show (i+1-1) / 2=i / 2 by omega]
 · rw [if_neg ho]
   obtain ⟨k,h⟩:=Classical.not_forall.1 ho;obtain ⟨k0,h⟩:=Classical.not_imp.1 h;obtain ⟨hk,hx⟩:=Classical.not_imp.1 h;refine key.1 ⟨k-1,by omega,?_⟩
   rw [show k-1+1=k by omega]
   exact Classical.not_not.1 hx
def OS (H:List Ev) (k:Nat):Prop:=bF ((H[k]!).1,(H[k]!).2.1)/\0<=(H[k]!).2.2.1/\(H[k]!).2.2.1<=1000000/\(∀j,j<k-> ¬(H[j]!).2.2.1=(H[k]!).2.2.1)
theorem BQ (a:aG) (fit:BP a):sA a=some (if eB a then 0 else 8):=by
 have hh:=fit.hp;unfold sA;rw [K5 _ fit.fr]
 by_cases so:eH a.slots
 case neg=>rw [if_neg so,if_neg (fun h=>so h.so)];rfl
 rw [if_pos so];simp only [aB,show ((0:Int) !=0)=false from rfl,cond_false,XT a so]
 by_cases pl:a.where_.length=a.slots.uses.length/\a.heap.length+a.slots.free.length=a.slots.uses.length/\ ∀i,i<a.slots.uses.length->K6 a i
 case neg=>
  rw [aM pl,if_neg (fun h=>pl ⟨h.wl,h.hl,h.to.1⟩)];rfl
 rw [aR pl];obtain ⟨wl,hl,hw⟩:=pl;simp only [Bool.not_true,cond_false];have key:=dA (body:=oV) (fun k=>((k:Int),a.slots.uses,a.slots.used,a.slots.free,a.heap,a.where_)) a.heap.length (fun k=> ¬OS a.heap k) (r:=8) (e:=if∀k,0<k->k<a.heap.length-> ¬dB a.heap[k]! a.heap[(k-1) / 2]! then 0 else 8) (fun k hk=>by
  have e1:decide ((k:Int)<(a.heap.length:Int))=true:=aR (by omega)
  have l1:=RR a.heap a.slots.uses a.slots.free a.where_ a.slots.used k hk hh a.heap[k]!;unfold oV;simp only [aE,e1,cond_true,aC a.heap k hk,aB,mE (fit.at64 k hk)];unfold OS
  by_cases b1:bF ((a.heap[k]!).1,(a.heap[k]!).2.1)
  case neg=>
   rw [if_neg b1];exact ⟨fun _=>rfl,fun h=>absurd (Classical.not_not.1 h).1 b1⟩
  rw [if_pos b1]
  by_cases b2:(a.heap[k]!).2.2.1<0
  · rw [aR b2]
    exact ⟨fun _=>rfl,fun h=>absurd (Classical.not_not.1 h).2.1 (by omega)⟩
  by_cases b3:1000000<(a.heap[k]!).2.2.1
  · rw [aM b2,aR b3]
    exact ⟨fun _=>rfl,fun h=>absurd (Classical.not_not.1 h).2.2.1 (by omega)⟩
  rw [aM b2,aM b3];simp only [show ((0:Int) !=0)=false from rfl,cond_false]
  by_cases b4: ∃j,j<k/\(a.heap[j]!).2.2.1=(a.heap[k]!).2.2.1
  · refine ⟨fun _=>l1.1 b4,fun h=>?_⟩
    obtain ⟨j,j1,j2⟩:=b4;exact absurd j2 ((Classical.not_not.1 h).2.2.2 j j1)
  · have b4': ∀j,j<k-> ¬(a.heap[j]!).2.2.1=(a.heap[k]!).2.2.1:=fun j h1 h2=>b4 ⟨j,h1,h2⟩
    exact ⟨fun h=>absurd ⟨b1,by omega,by omega,b4'⟩ h,fun _=>l1.2 b4'⟩) (by
  unfold oV
  have:decide ((a.heap.length:Int)<(a.heap.length:Int))=false:=aM (by omega)
  simp only [aE,this,cond_false];exact RS a.heap _ _ _ _ hh fit.at64)
 have same:eB a↔(∀k,k<a.heap.length->OS a.heap k)/\ ∀k,0<k->k<a.heap.length-> ¬dB a.heap[k]! a.heap[(k-1) / 2]!:=by
  constructor
  · intro ok
    refine ⟨fun k hk=>?_,ok.ord⟩
    have:=ok.to.2 k hk
    exact ⟨this.1,this.2.1,this.2.2.1,this.2.2.2.1⟩
  · rintro ⟨h1,h2⟩
    refine eB.of fit so wl hl hw fun k hk=>?_
    obtain ⟨c1,c2,c3,c4⟩:=h1 k hk;refine ⟨c1,c2,c3,c4,fun k0=>?_⟩
    unfold T7;rw [if_pos ⟨c1,(h1 ((k-1) / 2) (by omega)).1⟩,FP]
    exact h2 k k0 hk
 by_cases he: ∀k,k<a.heap.length->OS a.heap k
 · refine (key.2 fun i hi=>Classical.not_not.2 (he i hi)).trans ?_
   by_cases ho: ∀k,0<k->k<a.heap.length-> ¬dB a.heap[k]! a.heap[(k-1) / 2]!
   · rw [if_pos ho,if_pos (same.2 ⟨he,ho⟩)]
   · rw [if_neg ho,if_neg (fun h=>ho (same.1 h).2)]
 · rw [if_neg (fun h=>he (same.1 h).1)]
   obtain ⟨i,h⟩:=Classical.not_forall.1 he;obtain ⟨hi,hx⟩:=Classical.not_imp.1 h;exact key.1 ⟨i,hi,hx⟩
end Go.Proofs.YtfejhjllooomlaaGreat
namespace Go.Proofs.YtfejhjllooomlaaGreat
open Go.Vm Classical
theorem DC {l:List Ev} {n:Nat} {e:Ev} (hn:n<=l.length):e∈l.take n↔ ∃w,w<n/\l[w]! =e:=by
 rw [cT];constructor
 · rintro ⟨i,h1,_,h3⟩;exact ⟨i,h1,h3⟩
 · rintro ⟨i,h1,h3⟩;exact ⟨i,h1,by omega,h3⟩
theorem aHi {s:aS} (so:eH s) {n:Nat} {H:List Ev} {W:List Int} (E:Ev->Prop) (hn:n<=H.length) (wl:W.length=s.uses.length) (hl:n+s.free.length=s.uses.length)
 (ix: ∀w,w<n->0<=(H[w]!).ix/\(H[w]!).ix<W.length/\W[(H[w]!).n]! =(w:Int)) (mem: ∀e,(∃w,w<n/\H[w]! =e)↔E e) (ord: ∀k,0<k->k<n-> ¬dB H[k]! H[(k-1) / 2]!)
 (ue: ∀i,i<s.uses.length->s.used[i]! =true-> ∃e:Ev,E e/\e.ix=i/\e.2.2.2.2=s.uses[i]!) (un: ∀i,i<s.uses.length->s.used[i]! =false->W[i]! = -1)
 (ev: ∀e,E e->qG e) (nums: ∀e f:Ev,E e->E f->e.num=f.num->e.ix=f.ix):eB ⟨s,H.take n,W⟩:=by
 have len:(H.take n).length=n:=by rw [List.length_take];omega
 have cell: ∀w,w<n->(H.take n)[w]! =H[w]!:=fun w hw=>lN hw
 refine ⟨so,wl,by show (H.take n).length+_=_;rw [len];exact hl,?_,un,?_,?_,?_⟩
 · intro i hi hu
   dsimp only at hi hu ⊢;rw [len];obtain ⟨e,he,e1,e2⟩:=ue i hi hu;obtain ⟨w,hw,rfl⟩:=(mem e).2 he;obtain ⟨a1,a2,a3⟩:=ix w hw;have hn':(H[w]!).n=i:=by show ((H[w]!).ix).toNat=i;omega
   rw [hn'] at a3;rw [a3,Int.toNat_natCast,cell w hw];exact ⟨by omega,by omega,e1,e2⟩
 · intro w hw
   dsimp only at hw ⊢;rw [len] at hw;rw [cell w hw];exact ev _ ((mem _).1 ⟨w,hw,rfl⟩)
 · intro v w hv hw
   dsimp only at hw ⊢;rw [len] at hw;rw [cell v (by omega),cell w hw]
   intro hc
   have:=nums _ _ ((mem _).1 ⟨v,by omega,rfl⟩) ((mem _).1 ⟨w,hw,rfl⟩) hc
   obtain ⟨a1,a2,a3⟩:=ix v (by omega)
   obtain ⟨b1,b2,b3⟩:=ix w hw;have hn':(H[v]!).n=(H[w]!).n:=by show ((H[v]!).ix).toNat=((H[w]!).ix).toNat;rw [this]
   rw [hn'] at a3;omega
 · intro k k0 hk
   dsimp only at hk ⊢;rw [len] at hk;rw [cell k hk,cell _ (by omega)]
   exact ord k k0 hk
theorem wP {s:aS} (so:eH s) {n:Nat} {x:Ev} {M:Ev->Prop} {K:Nat->Prop} {H H1:List Ev} {W W1:List Int} (st:CL n x M K H W H1 W1) (hn:n<=H.length) (wl:W.length=s.uses.length) (hl:n+s.free.length=s.uses.length)
 (ue: ∀i,i<s.uses.length->s.used[i]! =true-> ∃e:Ev,(e=x\/M e)/\e.ix=i/\e.2.2.2.2=s.uses[i]!) (un: ∀i,i<s.uses.length->s.used[i]! =false->K i/\W[i]! = -1)
 (ev: ∀e,(e=x\/M e)->qG e) (nums: ∀e f:Ev,(e=x\/M e)->(f=x\/M f)->e.num=f.num->e.ix=f.ix):eB ⟨s,H1.take n,W1⟩:=by
 refine aHi so (fun e=>e=x\/M e) (by rw [st.hl];exact hn) (by rw [st.wl];exact wl) hl (by rw [st.wl];exact st.ix) st.mem st.ord ue ?_ ev nums
 intro i hi hu;rw [st.out i (un i hi hu).1];exact (un i hi hu).2
theorem eB.bd {a:aG} (ok:eB a):a.heap.length<=200/\a.where_.length<=200:=by
 have:=ok.hl;have:=ok.wl;have:=ok.so.n2
 omega
theorem eB.cells {a:aG} (ok:eB a):mF a.heap.length a.heap a.where_:=by
 have:=ok.bd
 refine ⟨Nat.le_refl _,by omega,fun w hw=>?_⟩
 obtain ⟨b1,b2,b3,b4,b5⟩:=ok.back hw;exact ⟨ok.ev w hw,b1,by rw [ok.wl];exact b2⟩
theorem eB.inj {a:aG} (ok:eB a) {v w:Nat} (hv:v<a.heap.length) (hw:w<a.heap.length) (h:Ev.ix a.heap[v]! =Ev.ix a.heap[w]!):v=w:=by
 have h1:=(ok.back hv).2.2.2.2;have h2:=(ok.back hw).2.2.2.2
 have:Ev.n a.heap[v]! =Ev.n a.heap[w]!:=by show (Ev.ix a.heap[v]!).toNat=(Ev.ix a.heap[w]!).toNat;rw [h]
 rw [this] at h1;omega
theorem eB.grand {a:aG} (ok:eB a) {i k:Nat} (i0:0<i) (k0:0<k) (hk:k<a.heap.length) (hp:(k-1) / 2=i): ¬dB a.heap[k]! a.heap[(i-1) / 2]!:=by
 have h1:=ok.ord k k0 hk;rw [hp] at h1;exact xM (ok.ev _ (by omega)).den (ok.ev _ (by omega)).den (ok.ev _ hk).den (ok.ord i i0 (by omega)) h1
theorem eB.live {a:aG} (ok:eB a) {h:Int×Int} (lv:vT a.slots h): ∃i,i<a.heap.length/\a.where_[h.1.toNat]! =(i:Int)/\(a.heap[i]!).2.2.2=h:=by
 obtain ⟨l1,l2,l3,l4⟩:=lv;obtain ⟨f1,f2,f3,f4⟩:=ok.fwd h.1.toNat (by omega) l3
 refine ⟨(a.where_[h.1.toNat]!).toNat,by omega,by omega,?_⟩
 have e1:(a.heap[(a.where_[h.1.toNat]!).toNat]!).2.2.2.1=h.1:=by
  have:Ev.ix a.heap[(a.where_[h.1.toNat]!).toNat]! =(h.1.toNat:Int):=f3
  have h2:Ev.ix a.heap[(a.where_[h.1.toNat]!).toNat]! =(a.heap[(a.where_[h.1.toNat]!).toNat]!).2.2.2.1:=rfl;omega
 exact Prod.ext e1 (by rw [f4,l4])
theorem eB.handle {a:aG} (ok:eB a) {i:Nat} (hi:i<a.heap.length):vT a.slots (a.heap[i]!).2.2.2/\a.where_[((a.heap[i]!).2.2.2.1).toNat]! =(i:Int):=by
 obtain ⟨b1,b2,b3,b4,b5⟩:=ok.back hi;exact ⟨⟨b1,b2,b3,b4⟩,b5⟩
theorem eB.used_ev {a:aG} (ok:eB a) {i:Nat} (hi:i<a.slots.uses.length) (hu:a.slots.used[i]! =true): ∃w,w<a.heap.length/\Ev.ix a.heap[w]! =i/\(a.heap[w]!).2.2.2.2=a.slots.uses[i]!:=by
 obtain ⟨f1,f2,f3,f4⟩:=ok.fwd i hi hu;exact ⟨(a.where_[i]!).toNat,by omega,f3,f4⟩
theorem eB.no_ev {a:aG} (ok:eB a) {i:Nat} (hu:a.slots.used[i]! =false) {w:Nat} (hw:w<a.heap.length):Ev.n a.heap[w]!≠i:=by
 intro h
 have:=(ok.back hw).2.2.1
 rw [h,hu] at this;cases this
theorem eB.nums {a:aG} (ok:eB a) {v w:Nat} (hv:v<a.heap.length) (hw:w<a.heap.length) (h:Ev.num a.heap[v]! =Ev.num a.heap[w]!):v=w:=by
 rcases Nat.lt_trichotomy v w with h1|h1|h1
 · exact absurd h (ok.nd v w h1 hw)
 · exact h1
 · exact absurd h.symm (ok.nd w v h1 hv)
theorem set_same {α:Type} [Inhabited α] {l:List α} {k:Nat} {v:α} (h:l[k]! =v):l.set k v=l:=by
 by_cases hk:k<l.length
 · apply KO (by rw [List.length_set])
   intro i hi;rw [bE];split
   · rename_i e;rw [e.1];exact h.symm
   · rfl
 · exact List.set_eq_of_length_le (by omega)
def qH (x:Ev) (t:Int×Int):Ev:=(t.1,t.2,x.2.2)
noncomputable def jT (a:aG) (i:Nat) (t:Int×Int):aG:=⟨a.slots,(bZ a.heap.length (qH a.heap[i]! t) i a.heap a.where_).1,(bZ a.heap.length (qH a.heap[i]! t) i a.heap a.where_).2⟩
theorem K7 {a:aG} (ok:eB a) {i:Nat} (hi:i<a.heap.length) {t:Int×Int} (ht:bF t) (h64:lO t):qG (qH a.heap[i]! t):=by
 have:=ok.ev i hi
 exact ⟨ht,h64,this.2.2.1,this.2.2.2⟩
theorem K8 {a:aG} (ok:eB a) {i:Nat} (hi:i<a.heap.length) (t:Int×Int):EA a.heap.length (qH a.heap[i]! t) (fun e=> ∃w,w<a.heap.length/\w≠i/\a.heap[w]! =e) a.heap a.where_ i:=by
 obtain ⟨b1,b2,b3,b4,b5⟩:=ok.back hi;refine ⟨hi,Nat.le_refl _,fun w hw hwi=>?_,b1,by rw [ok.wl];exact b2,fun e=>Iff.rfl⟩
 obtain ⟨c1,c2,c3,c4,c5⟩:=ok.back hw;exact ⟨c1,by rw [ok.wl];exact c2,c5,fun h=>hwi (ok.inj hw hi h)⟩
theorem M0 {a:aG} (ok:eB a) (i:Nat):EF a.heap.length a.heap i:=
 ⟨fun w hw=>(ok.ev w hw).den,fun k k0 hk _ _=>ok.ord k k0 hk,fun i0 _k k0 hk hp=>ok.grand i0 k0 hk hp⟩
theorem nC {a:aG} (ok:eB a) {i:Nat} (hi:i<a.heap.length) {t:Int×Int} (ht:bF t):
 CL a.heap.length (qH a.heap[i]! t) (fun e=> ∃w,w<a.heap.length/\w≠i/\a.heap[w]! =e) (fun k=>k≠Ev.n (qH a.heap[i]! t)/\ ∀w,w<a.heap.length->w≠i->Ev.n a.heap[w]!≠k) a.heap a.where_ (jT a i t).heap (jT a i t).where_:=
 BN (x:=qH a.heap[i]! t) ht.1 (K8 ok hi t) (M0 ok i)
theorem GW {a:aG} (ok:eB a) {i:Nat} (hi:i<a.heap.length) {t:Int×Int} (ht:bF t):(jT a i t).heap.length=a.heap.length/\(jT a i t).where_.length=a.where_.length:=
 ⟨(nC ok hi ht).hl,(nC ok hi ht).wl⟩
theorem XU {a:aG} (ok:eB a) {i:Nat} (hi:i<a.heap.length) {t:Int×Int} (ht:bF t) (e:Ev):e∈(jT a i t).heap↔(e=qH a.heap[i]! t\/(e∈a.heap/\e≠a.heap[i]!)):=by
 have st:=nC ok hi ht;have h1:e∈(jT a i t).heap↔ ∃w,w<a.heap.length/\((jT a i t).heap)[w]! =e:=by
  rw [aY,(GW ok hi ht).1]
 rw [h1];refine (st.mem e).trans ?_;constructor
 · rintro (h|⟨w,hw,hwi,rfl⟩)
   · exact .inl h
   · exact .inr ⟨bL hw,fun h=>hwi (ok.inj hw hi (by rw [h]))⟩
 · rintro (h|⟨h,hne⟩)
   · exact .inl h
   · obtain ⟨w,hw,rfl⟩:=aY.1 h
     exact .inr ⟨w,hw,fun h=>hne (by rw [h]),rfl⟩
theorem aAD {a:aG} (ok:eB a) {i:Nat} (hi:i<a.heap.length) {t:Int×Int} (ht:bF t) (h64:lO t):eB (jT a i t):=by
 have st:=nC ok hi ht;have len:=(GW ok hi ht).1;have hx:Ev.ix (qH a.heap[i]! t)=Ev.ix a.heap[i]!:=rfl;have key:=wP ok.so st (Nat.le_refl _) ok.wl ok.hl (fun j hj hu=>by
  obtain ⟨w,hw,e1,e2⟩:=ok.used_ev hj hu
  by_cases e:w=i
  · subst e;exact ⟨qH a.heap[w]! t,.inl rfl,e1,e2⟩
  · exact ⟨a.heap[w]!,.inr ⟨w,hw,e,rfl⟩,e1,e2⟩) (fun j hj hu=>⟨⟨(ok.no_ev hu hi).symm,fun w hw _=>ok.no_ev hu hw⟩,ok.un j hj hu⟩) (by
  rintro e (rfl|⟨w,hw,_,rfl⟩)
  · exact K7 ok hi ht h64
  · exact ok.ev w hw) (by
  rintro e f (rfl|⟨v,hv,hvi,rfl⟩) (rfl|⟨w,hw,hwi,rfl⟩) he
  · rfl
  · exact absurd (ok.nums hi hw he).symm hwi
  · exact absurd (ok.nums hv hi he) hvi
  · rw [ok.nums hv hw he])
 have:(jT a i t).heap.take a.heap.length=(jT a i t).heap:=List.take_of_length_le (by rw [len];exact Nat.le_refl _)
 show eB ⟨a.slots,(jT a i t).heap,(jT a i t).where_⟩;rw [<- this];exact key
theorem RU {a:aG} (ok:eB a) (fit:BP a) {h:Int×Int} {i:Nat} (hi:i<a.heap.length) (hh:(a.heap[i]!).2.2.2=h):oN a h=some ((i:Int),0):=by
 obtain ⟨lv,wv⟩:=ok.handle hi;rw [hh] at lv;unfold oN;rw [iU a fit,if_pos ok];simp only [aB,show ((0:Int) !=0)=false from rfl,cond_false,HN ok.so,aR lv,Bool.not_true]
 have:=lv.2.1;have:=lv.1;have:=ok.wl
 have e:(a.heap[i]!).2.2.2.1=h.1:=by rw [hh]
 rw [dF (l:=a.where_) lv.1 (by omega),<- e,wv]
 rfl
theorem ID {a:aG} (ok:eB a) (fit:BP a) {h t:Int×Int} {i:Nat} (hi:i<a.heap.length) (hh:(a.heap[i]!).2.2.2=h) (ht:bF t) (h64:lO t):tG a h t=some (jT a i t,0):=by
 have bd:=ok.bd;obtain ⟨b1,b2,b3,b4,b5⟩:=ok.back hi;unfold tG;rw [iU a fit,if_pos ok,eL h64,if_pos ht];have pl:=RU ok fit hi hh;have se:=K2 (u:=a.slots.uses) (us:=a.slots.used) (fr:=a.slots.free) (K7 ok hi ht h64) (show 0<=Ev.ix (qH a.heap[i]! t) from b1) ok.cells rfl hi (show Ev.ix (qH a.heap[i]! t)<a.where_.length by rw [ok.wl];exact b2)
 have se':eE (a.slots.uses,a.slots.used,a.slots.free,(i:Int),t.1,t.2,(a.heap[i]!).2.2.1,(a.heap[i]!).2.2.2.1,(a.heap[i]!).2.2.2.2,a.heap,a.where_)=some (bZ a.heap.length (qH a.heap[i]! t) i a.heap a.where_):=se
 simp only [aB,gt_iff_lt,Int.lt_irrefl,if_false,show ((0:Int) !=0)=false from rfl,cond_false,pl,bI (show a.heap.length<=1048576 by omega),bI (show a.where_.length<=1048576 by omega),aC a.heap i hi,se']
 rfl
theorem rA {a:aG} (ok:eB a):pZ a=some a:=by
 have bd:=ok.bd;unfold pZ;simp only [wN ok.so,aB,bI (show a.heap.length<=1048576 by omega),bI (show a.where_.length<=1048576 by omega)]
theorem GX {a:aG} (ok:eB a) {h t:Int×Int} {i:Nat} (hi:i<a.heap.length) (hh:(a.heap[i]!).2.2.2=h) (ht:bF t) (h64:lO t):wJ a h t=some (jT a i t):=by
 have bd:=ok.bd;obtain ⟨b1,b2,b3,b4,b5⟩:=ok.back hi;obtain ⟨lv,wv⟩:=ok.handle hi;have hx:=K7 ok hi ht h64;have x1:Ev.ix (qH a.heap[i]! t)<a.where_.length:=by rw [ok.wl];exact b2
 have st:=nC ok hi ht;obtain ⟨j,H1,W1,e1,e3,e4,e5,e6,e7,e8,e9,e10⟩:=IQ (x:=qH a.heap[i]! t) ht.1 i a.heap a.where_ (K8 ok hi t) (M0 ok i);have w1:a.where_.set (Ev.n (qH a.heap[i]! t)) (i:Int)=a.where_:=set_same b5;unfold wJ;rw [rA ok];have g1:aL a.where_ h.1=some (i:Int):=by
  have e:(a.heap[i]!).2.2.2.1=h.1:=by rw [hh]
  rw [dF (l:=a.where_) (i:=h.1) (by rw [<- e];exact b1) (by rw [<- e,ok.wl];exact b2),<- e,wv]
 have u1:uJ ((i:Int),a.slots.uses,a.slots.used,a.slots.free,a.heap.set i (qH a.heap[i]! t),a.where_)=some ((j:Int),a.slots.uses,a.slots.used,a.slots.free,H1.set j (qH a.heap[i]! t),W1.set (Ev.n (qH a.heap[i]! t)) (j:Int)):=by
  unfold uJ
  have:=aAy (c0:=((i:Int),a.slots.uses,a.slots.used,a.slots.free,a.heap.set i (qH a.heap[i]! t),a.where_)) (u:=a.slots.uses) (us:=a.slots.used) (fr:=a.slots.free) hx b1 rfl rfl rfl i a.heap a.where_ ok.cells hi rfl x1 List.length_set rfl
  rw [w1,e1] at this;exact this
 have cells1:mF a.heap.length H1 W1:=by
  refine ⟨by rw [e5];exact Nat.le_refl _,by omega,fun w hw=>?_⟩
  exact ⟨(BO ok.cells hi e1 w hw).1,(BO ok.cells hi e1 w hw).2.1,by rw [e6];exact (BO ok.cells hi e1 w hw).2.2⟩
 have d1:qC ((j:Int),a.slots.uses,a.slots.used,a.slots.free,H1.set j (qH a.heap[i]! t),W1.set (Ev.n (qH a.heap[i]! t)) (j:Int))=some (a.slots.uses,a.slots.used,a.slots.free,(bZ a.heap.length (qH a.heap[i]! t) i a.heap a.where_).1,(bZ a.heap.length (qH a.heap[i]! t) i a.heap a.where_).2):=by
  unfold qC
  have:=RP (c0:=((j:Int),a.slots.uses,a.slots.used,a.slots.free,H1.set j (qH a.heap[i]! t),W1.set (Ev.n (qH a.heap[i]! t)) (j:Int))) (n:=a.heap.length) (u:=a.slots.uses) (us:=a.slots.used) (fr:=a.slots.free) hx b1 rfl rfl rfl a.heap.length j H1 W1 (by omega) cells1 e3.lt e5 (by rw [e6];exact x1) List.length_set List.length_set
  rw [this];unfold bZ;rw [e1]
 have s1:bT a.heap (i:Int) (t.1,t.2,(a.heap[i]!).2.2)=a.heap.set i (qH a.heap[i]! t):=rfl;simp only [aB,g1,aC a.heap i hi,s1,u1,d1];rfl
end Go.Proofs.YtfejhjllooomlaaGreat
namespace Go.Proofs.YtfejhjllooomlaaGreat
open Go.Vm Classical
theorem M1 (H:List Ev) (n:Int) (hl:H.length<=1000000):cI H n=some (decide (∃w,w<H.length/\(H[w]!).2.2.1=n)):=by
 unfold cI dY;have key:=jC (body:=cH) (fun i=>(H,n,(H.length:Int),(i:Int))) H.length (fun i=>(H[i]!).2.2.1=n) (fun i=>(i:Int)) (e:= -1) (fun i hi=>by
  have e1:decide ((i:Int)<(H.length:Int))=true:=aR (by omega)
  unfold cH wH;simp only [e1,cond_true,aC H i hi,aB,bD (show i<1000000000 by omega)]
  constructor
  · intro h;rw [fM h];rfl
  · intro h;rw [fR h];rfl) (by
  unfold cH
  have:decide ((H.length:Int)<(H.length:Int))=false:=aM (by omega)
  simp only [this,cond_false])
 rw [aE]
 by_cases hx: ∃w,w<H.length/\(H[w]!).2.2.1=n
 · obtain ⟨k,h1,h2,h3⟩:=HK hx
   have:=key.1 k h1 h2 h3
   rw [show ((0:Nat):Int)=0 from rfl] at this;rw [this,aR hx];simp only [aB,aR (show (0:Int)<=(k:Int) by omega)]
 · have:=key.2 fun i hi he=>hx ⟨i,hi,he⟩
   rw [show ((0:Nat):Int)=0 from rfl] at this;rw [this,aM hx];rfl
noncomputable def cU (a:aG) (t:Int×Int) (n:Int):Ev:=(t.1,t.2,n,lB a.slots)
noncomputable def lC (a:aG) (t:Int×Int) (n:Int):aG:=
 ⟨gG a.slots,(bZ (a.heap.length+1) (cU a t n) a.heap.length (a.heap++[cU a t n]) a.where_).1,(bZ (a.heap.length+1) (cU a t n) a.heap.length (a.heap++[cU a t n]) a.where_).2⟩
section
variable {a : aG} (ok : eB a) (op : AH a.slots) {t : Int × Int} (ht : bF t) (h64 : lO t) {n : Int} (n0 : 0 <= n) (n1 : n <= 1000000)
include ok op
theorem F0s:Ev.ix (cU a t n)=(cO a.slots:Int)/\cO a.slots<a.slots.uses.length/\a.slots.used[cO a.slots]! =false/\a.slots.free.length=(gG a.slots).free.length+1:=by
 obtain ⟨h1,h2,h3⟩:=CK ok.so op.1;refine ⟨rfl,h1,?_,?_⟩
 · have:=ok.so.uf (cO a.slots) h1
   cases h:a.slots.used[cO a.slots]! with
   |false=>rfl
   |true=>exact absurd h3 (this.1 h)
 · show _=(a.slots.free.take (a.slots.free.length-1)).length+1
   have:=op.1
   rw [List.length_take];omega
theorem M2:EA (a.heap.length+1) (cU a t n) (fun e=>e∈a.heap) (a.heap++[cU a t n]) a.where_ a.heap.length:=by
 obtain ⟨h1,h2,h3,h4⟩:=F0s (t:=t) (n:=n) ok op;have cell: ∀w,w<a.heap.length->(a.heap++[cU a t n])[w]! =a.heap[w]!:=fun w hw=>jH hw
 refine ⟨by omega,by simp,fun w hw hwi=>?_,by rw [h1];omega,by rw [h1,ok.wl];omega,fun e=>?_⟩
 · have hw':w<a.heap.length:=by omega
   rw [cell w hw'];obtain ⟨c1,c2,c3,c4,c5⟩:=ok.back hw';refine ⟨c1,by rw [ok.wl];exact c2,c5,fun h=>?_⟩
   rw [h1] at h
   have:Ev.n a.heap[w]! =cO a.slots:=by show (Ev.ix a.heap[w]!).toNat=_;omega
   exact ok.no_ev h3 hw' this
 · constructor
   · rintro ⟨w,hw,hwi,rfl⟩
     rw [cell w (by omega)]
     exact bL (by omega)
   · intro h
     obtain ⟨w,hw,rfl⟩:=aY.1 h;exact ⟨w,by omega,by omega,cell w hw⟩
theorem RW (ht:bF t):EF (a.heap.length+1) (a.heap++[cU a t n]) a.heap.length:=by
 have _:=op;have cell: ∀w,w<a.heap.length->(a.heap++[cU a t n])[w]! =a.heap[w]!:=fun w hw=>jH hw
 refine ⟨fun w hw=>?_,fun k k0 hk k1 k2=>?_,fun i0 k k0 hk hp=>by omega⟩
 · by_cases h:w<a.heap.length
   · rw [cell w h];exact (ok.ev w h).den
   · have:w=a.heap.length:=by omega
     subst this;rw [kF (Nat.le_refl _),Nat.sub_self];exact ht.1
 · rw [cell k (by omega),cell _ (by omega)]
   exact ok.ord k k0 (by omega)
theorem zQ (ht:bF t):CL (a.heap.length+1) (cU a t n) (fun e=>e∈a.heap) (fun k=>k≠Ev.n (cU a t n)/\ ∀w,w<a.heap.length+1->w≠a.heap.length->Ev.n (a.heap++[cU a t n])[w]!≠k) (a.heap++[cU a t n]) a.where_ (lC a t n).heap (lC a t n).where_:=
 BN (x:=cU a t n) ht.1 (M2 ok op) (RW ok op ht)
theorem FT (ht:bF t):(lC a t n).heap.length=a.heap.length+1:=by
 have:=(zQ (n:=n) ok op ht).hl
 rw [this];simp
theorem RX (ht:bF t) (e:Ev):e∈(lC a t n).heap↔(e=cU a t n\/e∈a.heap):=by
 have st:=zQ (n:=n) ok op ht;rw [aY,FT ok op ht];exact st.mem e
theorem OT (ht:bF t) (h64:lO t) (n0:0<=n) (n1:n<=1000000):qG (cU a t n):=by
 have _:=ok;have _:=op;exact ⟨ht,h64,n0,n1⟩
theorem V6 (ht:bF t) (h64:lO t) (n0:0<=n) (n1:n<=1000000) (nn: ∀e∈a.heap,Ev.num e≠n):eB (lC a t n):=by
 have st:=zQ (n:=n) ok op ht;have len:=FT (n:=n) ok op ht;obtain ⟨h1,h2,h3,h4⟩:=F0s (t:=t) (n:=n) ok op;have hu:=ok.so.ul;have ul:(gG a.slots).uses.length=a.slots.uses.length:=List.length_set;have key:=wP (aAw ok.so op) st (by simp) (by rw [ul];exact ok.wl) (by rw [ul];have:=ok.hl;omega) (fun j hj hu'=>by
  rw [ul] at hj;change (a.slots.used.set (cO a.slots) true)[j]! =true at hu';rw [bE] at hu'
  show∃e:Ev,_/\_/\_=(a.slots.uses.set (cO a.slots) (a.slots.uses[cO a.slots]!+1))[j]!
  rw [bE]
  by_cases e:j=cO a.slots
  · rw [if_pos ⟨e,h2⟩]
    exact ⟨cU a t n,.inl rfl,by rw [h1,e],rfl⟩
  · rw [if_neg (fun k=>e k.1)]
    rw [if_neg (fun k=>e k.1)] at hu'
    obtain ⟨w,hw,e1,e2⟩:=ok.used_ev hj hu';exact ⟨a.heap[w]!,.inr (bL hw),e1,e2⟩) (fun j hj hu'=>by
  rw [ul] at hj;change (a.slots.used.set (cO a.slots) true)[j]! =false at hu';rw [bE] at hu'
  by_cases e:j=cO a.slots
  · rw [if_pos ⟨e,by omega⟩] at hu';cases hu'
  · rw [if_neg (fun k=>e k.1)] at hu'
    refine ⟨⟨?_,fun w hw hwi=>?_⟩,ok.un j hj hu'⟩
    · show j≠(Ev.ix (cU a t n)).toNat
      omega
    · rw [jH (by omega)]
      exact ok.no_ev hu' (by omega)) (by
  rintro e (rfl|h)
  · exact OT ok op ht h64 n0 n1
  · obtain ⟨w,hw,rfl⟩:=aY.1 h
    exact ok.ev w hw) (by
  rintro e f (rfl|he) (rfl|hf) hn
  · rfl
  · exact absurd hn.symm (nn f hf)
  · exact absurd hn (nn e he)
  · obtain ⟨v,hv,rfl⟩:=aY.1 he
    obtain ⟨w,hw,rfl⟩:=aY.1 hf;rw [ok.nums hv hw hn])
 have:(lC a t n).heap.take (a.heap.length+1)=(lC a t n).heap:=List.take_of_length_le (by rw [len];exact Nat.le_refl _)
 show eB ⟨gG a.slots,(lC a t n).heap,(lC a t n).where_⟩;rw [<- this];exact key
theorem K9 (ht:bF t) (h64:lO t) (n0:0<=n) (n1:n<=1000000):mF (a.heap.length+1) (a.heap++[cU a t n]) a.where_:=by
 have bd:=ok.bd;obtain ⟨h1,h2,h3,h4⟩:=F0s (t:=t) (n:=n) ok op;refine ⟨by simp,by simp;omega,fun w hw=>?_⟩
 by_cases h:w<a.heap.length
 · rw [jH h];exact ok.cells.ev w h
 · have:w=a.heap.length:=by omega
   subst this;rw [kF (Nat.le_refl _),Nat.sub_self];exact ⟨OT ok op ht h64 n0 n1,by show 0<=Ev.ix (cU a t n);omega,by show Ev.ix (cU a t n)<_;rw [ok.wl];omega⟩
theorem xN (fit:BP a) (ht:bF t) (h64:lO t) (n0:0<=n) (n1:n<=1000000) (nn: ∀e∈a.heap,Ev.num e≠n):kN a t n=some (lC a t n,lB a.slots,0):=by
 have bd:=ok.bd;obtain ⟨h1,h2,h3,h4⟩:=F0s (t:=t) (n:=n) ok op;have hn: ¬ ∃w,w<a.heap.length/\(a.heap[w]!).2.2.1=n:=by
  rintro ⟨w,hw,e⟩;exact nn _ (bL hw) e
 unfold kN;rw [iU a fit,if_pos ok,eL h64,if_pos ht,M1 _ _ (by omega),aM hn,FO ok.so,if_pos op]
 have se:=K2 (u:=(gG a.slots).uses) (us:=(gG a.slots).used) (fr:=(gG a.slots).free) (OT ok op ht h64 n0 n1) (show 0<=Ev.ix (cU a t n) by omega) (K9 ok op ht h64 n0 n1) (by simp) (show a.heap.length<a.heap.length+1 by omega) (show Ev.ix (cU a t n)<a.where_.length by rw [ok.wl];omega)
 have e1:aA .i64 (((a.heap++[cU a t n]).length:Int) -1)=(a.heap.length:Int):=by rw [wi,List.length_append];simp;omega
 have ap:bR a.heap [(t.1,t.2,n,lB a.slots)]=some (a.heap++[cU a t n]):=eU (by simp;omega)
 have se':eE ((gG a.slots).uses,(gG a.slots).used,(gG a.slots).free,(a.heap.length:Int),t.1,t.2,n,(lB a.slots).1,(lB a.slots).2,a.heap++[cU a t n],a.where_)=some (bZ (a.heap.length+1) (cU a t n) a.heap.length (a.heap++[cU a t n]) a.where_):=se
 simp only [aB,gt_iff_lt,Int.lt_irrefl,if_false,show ((0:Int) !=0)=false from rfl,cond_false,aM (show¬n<0 by omega),aM (show¬1000000<n by omega),bI (show a.heap.length<=1048576 by omega),bI (show a.where_.length<=1048576 by omega),ap,aE,e1,se']
 rfl
theorem AI (ht:bF t) (h64:lO t) (n0:0<=n) (n1:n<=1000000):eQ a t n=some (lC a t n,lB a.slots):=by
 have bd:=ok.bd;obtain ⟨h1,h2,h3,h4⟩:=F0s (t:=t) (n:=n) ok op;unfold eQ;rw [rA ok];have e1:aA .i64 (((a.heap++[cU a t n]).length:Int) -1)=(a.heap.length:Int):=by rw [wi,List.length_append];simp;omega
 have ap:bR a.heap [(t.1,t.2,n,lB a.slots)]=some (a.heap++[cU a t n]):=eU (by simp;omega)
 have hx:=OT (n:=n) ok op ht h64 n0 n1;have last:bZ (a.heap.length+1) (cU a t n) a.heap.length (a.heap++[cU a t n]) a.where_=_:=RN (x:=cU a t n) ht.1 (M2 ok op) (RW ok op ht) (fun k k0 hk hp=>by omega)
 have hs:(a.heap++[cU a t n]).set a.heap.length (cU a t n)=a.heap++[cU a t n]:=set_same (by rw [kF (Nat.le_refl _),Nat.sub_self];rfl)
 have ws:bT a.where_ (lB a.slots).1 (a.heap.length:Int)=a.where_.set (Ev.n (cU a t n)) (a.heap.length:Int):=rfl
 have u1:uK ((gG a.slots).uses,(gG a.slots).used,(gG a.slots).free,(a.heap.length:Int),a.heap++[cU a t n],a.where_.set (Ev.n (cU a t n)) (a.heap.length:Int))=some (((iL (cU a t n) a.heap.length (a.heap++[cU a t n]) a.where_).1:Int),(iL (cU a t n) a.heap.length (a.heap++[cU a t n]) a.where_).2.1.set (iL (cU a t n) a.heap.length (a.heap++[cU a t n]) a.where_).1 (cU a t n),(iL (cU a t n) a.heap.length (a.heap++[cU a t n]) a.where_).2.2.set (Ev.n (cU a t n)) ((iL (cU a t n) a.heap.length (a.heap++[cU a t n]) a.where_).1:Int)):=by
  unfold uK
  have:=aAA (c0:=((gG a.slots).uses,(gG a.slots).used,(gG a.slots).free,(a.heap.length:Int),a.heap++[cU a t n],a.where_.set (Ev.n (cU a t n)) (a.heap.length:Int))) (u:=(gG a.slots).uses) (us:=(gG a.slots).used) (fr:=(gG a.slots).free) hx (show 0<=Ev.ix (cU a t n) by omega) a.heap.length (a.heap++[cU a t n]) a.where_ (K9 ok op ht h64 n0 n1) (by omega) (by simp) (by rw [ok.wl];omega) rfl List.length_set
  rw [hs] at this;exact this
 have g1:aL a.where_ (lB a.slots).1=some a.where_[cO a.slots]!:=aC a.where_ (cO a.slots) (by rw [ok.wl];exact h2)
 simp only [aB,KY ok.so op,ap,g1,aE,e1,ws,u1];unfold lC;rw [last]
end
theorem xO {a:aG} (ok:eB a) (op: ¬AH a.slots) (fit:BP a) {t:Int×Int} (ht:bF t) (h64:lO t) {n:Int} (n0:0<=n) (n1:n<=1000000) (nn: ∀e∈a.heap,Ev.num e≠n):kN a t n=some (⟨⟨[],[],[]⟩,[],[]⟩,(0,0),18):=by
 have bd:=ok.bd;have hn: ¬ ∃w,w<a.heap.length/\(a.heap[w]!).2.2.1=n:=by
  rintro ⟨w,hw,e⟩;exact nn _ (bL hw) e
 unfold kN;rw [iU a fit,if_pos ok,eL h64,if_pos ht,M1 _ _ (by omega),aM hn,FO ok.so,if_neg op]
 simp only [aB,gt_iff_lt,Int.lt_irrefl,if_false,show ((0:Int) !=0)=false from rfl,cond_false,aM (show¬n<0 by omega),aM (show¬1000000<n by omega),show ((18:Int) !=0)=true from rfl,cond_true]
end Go.Proofs.YtfejhjllooomlaaGreat
namespace Go.Proofs.YtfejhjllooomlaaGreat
open Go.Vm Classical
theorem vU {l:List Ev} {n i:Nat} {v:Ev}:(l.set i v).take n=(l.take n).set i v:=by
 apply List.ext_getElem?;intro j;rw [List.getElem?_take,List.getElem?_set,List.getElem?_set,List.getElem?_take,List.length_take]
 by_cases h1:j<n
 · rw [if_pos h1]
   by_cases h2:i=j
   · subst h2
     by_cases h3:i<l.length
     · rw [if_pos rfl,if_pos h3,if_pos rfl,if_pos (by omega)]
     · rw [if_pos rfl,if_neg h3,if_pos rfl,if_neg (by omega)]
   · rw [if_neg h2,if_neg h2,if_pos h1]
 · rw [if_neg h1]
   by_cases h2:i=j
   · rw [if_pos h2,if_neg (by omega)]
   · rw [if_neg h2,if_neg h1]
theorem RY {n:Nat} {x:Ev}: ∀(i:Nat) (H:List Ev) (W:List Int),i<n->iL x i (H.take n) W=((iL x i H W).1,(iL x i H W).2.1.take n,(iL x i H W).2.2)
 |0,H,W,hi=>by rw [iL,iL]
 |i+1,H,W,hi=>by
  have e:(H.take n)[i / 2]! =H[i / 2]!:=lN (by omega)
  rw [iL,iL,e]
  by_cases h:dB x H[i / 2]!
  · rw [if_pos h,if_pos h,<- vU]
    exact RY (i / 2) _ _ (by omega)
  · rw [if_neg h,if_neg h]
termination_by i=>i
decreasing_by omega
theorem aAE {x:Ev}: ∀(i:Nat) (H:List Ev) (W:List Int),(iL x i H W).1<=i
 |0,H,W=>by rw [iL];exact Nat.le_refl _
 |i+1,H,W=>by
  rw [iL];split
  · exact Nat.le_trans (aAE (i / 2) _ _) (by omega)
  · exact Nat.le_refl _
termination_by i=>i
decreasing_by omega
theorem LA {n:Nat} {H:List Ev} {i:Nat} (hk:2*i+1<n):gW n (H.take n) i=gW n H i:=by
 unfold gW
 by_cases h:2*i+2<n
 · rw [lN h,lN (show 2*i+1<n by omega)]
 · rw [if_neg (fun k=>h k.1),if_neg (fun k=>h k.1)]
theorem RZ {n:Nat} {x:Ev} {i:Nat} {H:List Ev} {W:List Int} (h:2*i+1<n) (hl:dB H[gW n H i]! x):dK n x i H W=dK n x (gW n H i) (H.set i H[gW n H i]!) (W.set (H[gW n H i]!).n (i:Int)):=by
 rw [dK,dif_pos h,if_pos hl]
theorem zR {n:Nat} {x:Ev} {i:Nat} {H:List Ev} {W:List Int} (h: ¬(2*i+1<n/\dB H[gW n H i]! x)):dK n x i H W=(i,H,W):=by
 rw [dK];split
 · rename_i h1;rw [if_neg (fun k=>h ⟨h1,k⟩)]
 · rfl
theorem LB {n : Nat} {x : Ev} : ∀ (d i : Nat) (H : List Ev) (W : List Int), n - i <= d -> dK n x i (H.take n) W = ((dK n x i H W).1, (dK n x i H W).2.1.take n, (dK n x i H W).2.2)
  | 0, i, H, W, hd => by
    rw [zR (fun h => by omega), zR (fun h => by omega)]
  | d + 1, i, H, W, hd => by
    have kc := oA n H i
    by_cases h : 2 * i + 1 < n /\ dB H[gW n H i]! x
    · have e : (H.take n)[gW n (H.take n) i]! = H[gW n H i]! := by rw [LA h.1, lN (by omega)]
      rw [RZ h.1 h.2, RZ (H := H.take n) h.1 (by rw [e]; exact h.2), e, LA h.1, <- vU]
      exact LB d _ _ _ (by omega)
    · have h' : ¬ (2 * i + 1 < n /\ dB (H.take n)[gW n (H.take n) i]! x) := by
        rintro ⟨k1, k2⟩
        rw [LA k1, lN (by omega)] at k2
        exact h ⟨k1, k2⟩
      rw [zR h, zR h']
theorem V7 {x:Ev}: ∀(i:Nat) (H:List Ev) (W:List Int),(iL x i H W).2.1.length=H.length/\(iL x i H W).2.2.length=W.length
 |0,H,W=>by rw [iL];exact ⟨rfl,rfl⟩
 |i+1,H,W=>by
  rw [iL];split
  · have:=V7 (x:=x) (i / 2) (H.set (i+1) H[i / 2]!) (W.set (H[i / 2]!).n ((i+1:Nat):Int))
    rwa [List.length_set,List.length_set] at this
  · exact ⟨rfl,rfl⟩
termination_by i=>i
decreasing_by omega
theorem FU {n:Nat} {x:Ev} {i:Nat} {H:List Ev} {W:List Int} (hi:i<n):bZ n x i (H.take n) W=((bZ n x i H W).1.take n,(bZ n x i H W).2):=by
 unfold bZ;rw [RY i H W hi];dsimp only;rw [LB n _ _ _ (by omega)]
 dsimp only;rw [vU]
noncomputable def dV (a:aG) (i:Nat):aG:=
 if i<a.heap.length-1 then ⟨fA a.slots (a.heap[i]!).2.2.2,(bZ (a.heap.length-1) a.heap[a.heap.length-1]! i a.heap (a.where_.set (Ev.n a.heap[i]!) (-1))).1.take (a.heap.length-1),(bZ (a.heap.length-1) a.heap[a.heap.length-1]! i a.heap (a.where_.set (Ev.n a.heap[i]!) (-1))).2⟩
 else ⟨fA a.slots (a.heap[i]!).2.2.2,a.heap.take (a.heap.length-1),a.where_.set (Ev.n a.heap[i]!) (-1)⟩
section
variable {a : aG} (ok : eB a) {i : Nat} (hi : i < a.heap.length)
include ok hi
theorem xP {w:Nat} (hw:w<a.heap.length) (hne:w≠i):Ev.n a.heap[w]!≠Ev.n a.heap[i]!:=by
 have h1:=(ok.back hw).1;have h2:=(ok.back hi).1;exact aNY h1 h2 fun h=>hne (ok.inj hw hi h)
theorem M3:mF (a.heap.length-1) a.heap (a.where_.set (Ev.n a.heap[i]!) (-1)):=by
 have c:=ok.cells;refine ⟨by omega,c.hb,fun w hw=>?_⟩
 rw [List.length_set];exact c.ev w (by omega)
theorem aAF (hlt:i<a.heap.length-1):EA (a.heap.length-1) a.heap[a.heap.length-1]! (fun e=> ∃w,w<a.heap.length-1/\w≠i/\a.heap[w]! =e) a.heap (a.where_.set (Ev.n a.heap[i]!) (-1)) i:=by
 obtain ⟨b1,b2,b3,b4,b5⟩:=ok.back (show a.heap.length-1<a.heap.length by omega)
 refine ⟨hlt,by omega,fun w hw hwi=>?_,b1,by rw [List.length_set,ok.wl];exact b2,fun e=>Iff.rfl⟩
 obtain ⟨c1,c2,c3,c4,c5⟩:=ok.back (show w<a.heap.length by omega)
 refine ⟨c1,by rw [List.length_set,ok.wl];exact c2,?_,fun h=>?_⟩
 · rw [bE,if_neg (fun h=>xP ok hi (show w<a.heap.length by omega) hwi h.1)]
   exact c5
 · have:=ok.inj (show w<a.heap.length by omega) (show a.heap.length-1<a.heap.length by omega) h
   omega
theorem aGx:EF (a.heap.length-1) a.heap i:=
 ⟨fun w hw=>(ok.ev w (by omega)).den,fun k k0 hk _ _=>ok.ord k k0 (by omega),fun i0 k k0 hk hp=>ok.grand i0 k0 (by omega) hp⟩
theorem HO (hlt:i<a.heap.length-1):
 CL (a.heap.length-1) a.heap[a.heap.length-1]! (fun e=> ∃w,w<a.heap.length-1/\w≠i/\a.heap[w]! =e) (fun k=>k≠Ev.n a.heap[a.heap.length-1]!/\ ∀w,w<a.heap.length-1->w≠i->Ev.n a.heap[w]!≠k) a.heap (a.where_.set (Ev.n a.heap[i]!) (-1))
  (bZ (a.heap.length-1) a.heap[a.heap.length-1]! i a.heap (a.where_.set (Ev.n a.heap[i]!) (-1))).1 (bZ (a.heap.length-1) a.heap[a.heap.length-1]! i a.heap (a.where_.set (Ev.n a.heap[i]!) (-1))).2:=
 BN (ok.ev (a.heap.length-1) (by omega)).den (aAF ok hi hlt) (aGx ok hi)
theorem M4:eH (fA a.slots (a.heap[i]!).2.2.2):=aAv ok.so (ok.handle hi).1
theorem BS {j:Nat} (hj:j<a.slots.uses.length):(fA a.slots (a.heap[i]!).2.2.2).used[j]! =if j=Ev.n a.heap[i]! then false else a.slots.used[j]!:=by
 have _:=hi;show (a.slots.used.set (Ev.n a.heap[i]!) false)[j]! =_;rw [bE]
 have:=ok.so.ul
 by_cases e:j=Ev.n a.heap[i]!
 · rw [if_pos ⟨e,by omega⟩,if_pos e]
 · rw [if_neg (fun k=>e k.1),if_neg e]
theorem GY:eB (dV a i):=by
 have hb:=ok.back hi;have hl:a.heap.length-1+(fA a.slots (a.heap[i]!).2.2.2).free.length=a.slots.uses.length:=by
  show a.heap.length-1+(a.slots.free++[_]).length=_;rw [List.length_append]
  have:=ok.hl
  simp only [List.length_cons,List.length_nil];omega
 have un: ∀j,j<a.slots.uses.length->(fA a.slots (a.heap[i]!).2.2.2).used[j]! =false->(a.where_.set (Ev.n a.heap[i]!) (-1))[j]! = -1:=by
  intro j hj hu;rw [BS ok hi hj] at hu;rw [bE]
  by_cases e:j=Ev.n a.heap[i]!
  · rw [if_pos ⟨e.symm▸rfl,by rw [ok.wl];omega⟩]
  · rw [if_neg e] at hu
    rw [if_neg (fun k=>e k.1)]
    exact ok.un j hj hu
 unfold dV
 by_cases hlt:i<a.heap.length-1
 · rw [if_pos hlt]
   have st:=HO ok hi hlt;refine wP (M4 ok hi) st (by omega) (by rw [List.length_set];exact ok.wl) hl (fun j hj hu=>?_) (fun j hj hu=>⟨⟨?_,fun w hw hwi=>?_⟩,un j hj hu⟩) ?_ ?_
   · change j<a.slots.uses.length at hj
     rw [BS ok hi hj] at hu
     by_cases e:j=Ev.n a.heap[i]!
     · rw [if_pos e] at hu;cases hu
     · rw [if_neg e] at hu
       obtain ⟨w,hw,e1,e2⟩:=ok.used_ev hj hu;refine ⟨a.heap[w]!,?_,e1,e2⟩
       by_cases hl':w=a.heap.length-1
       · left;rw [hl']
       · refine .inr ⟨w,by omega,fun h=>e ?_,rfl⟩
         rw [<- h];show j=(Ev.ix a.heap[w]!).toNat;omega
   · change j<a.slots.uses.length at hj
     rw [BS ok hi hj] at hu
     by_cases e:j=Ev.n a.heap[i]!
     · rw [e];exact (xP ok hi (by omega) (by omega)).symm
     · rw [if_neg e] at hu
       exact (ok.no_ev hu (by omega)).symm
   · change j<a.slots.uses.length at hj
     rw [BS ok hi hj] at hu
     by_cases e:j=Ev.n a.heap[i]!
     · rw [e];exact xP ok hi (by omega) hwi
     · rw [if_neg e] at hu
       exact ok.no_ev hu (by omega)
   · rintro e (rfl|⟨w,hw,_,rfl⟩)
     · exact ok.ev _ (by omega)
     · exact ok.ev w (by omega)
   · rintro e f (rfl|⟨v,hv,hvi,rfl⟩) (rfl|⟨w,hw,hwi,rfl⟩) he
     · rfl
     · rw [ok.nums (by omega) (by omega) he]
     · rw [ok.nums (by omega) (by omega) he]
     · rw [ok.nums (by omega) (by omega) he]
 · rw [if_neg hlt]
   have hie:i=a.heap.length-1:=by omega
   refine aHi (M4 ok hi) (fun e=> ∃w,w<a.heap.length-1/\a.heap[w]! =e) (by omega) (by rw [List.length_set];exact ok.wl) hl (fun w hw=>?_) (fun e=>Iff.rfl) (fun k k0 hk=>ok.ord k k0 (by omega)) (fun j hj hu=>?_) un ?_ ?_
   · obtain ⟨c1,c2,c3,c4,c5⟩:=ok.back (show w<a.heap.length by omega)
     refine ⟨c1,by rw [List.length_set,ok.wl];exact c2,?_⟩
     rw [bE,if_neg (fun h=>xP ok hi (show w<a.heap.length by omega) (by omega) h.1)]
     exact c5
   · change j<a.slots.uses.length at hj
     rw [BS ok hi hj] at hu
     by_cases e:j=Ev.n a.heap[i]!
     · rw [if_pos e] at hu;cases hu
     · rw [if_neg e] at hu
       obtain ⟨w,hw,e1,e2⟩:=ok.used_ev hj hu;refine ⟨a.heap[w]!,⟨w,?_,rfl⟩,e1,e2⟩
       have:w≠i:=fun h=>e (by rw [<- h];show j=(Ev.ix a.heap[w]!).toNat;omega)
       omega
   · rintro e ⟨w,hw,rfl⟩
     exact ok.ev w (by omega)
   · rintro e f ⟨v,hv,rfl⟩ ⟨w,hw,rfl⟩ he
     rw [ok.nums (by omega) (by omega) he]
theorem LC (e:Ev):e∈(dV a i).heap↔(e∈a.heap/\e≠a.heap[i]!):=by
 have other: ∀w,w<a.heap.length->(a.heap[w]!≠a.heap[i]!↔w≠i):=fun w hw=>⟨fun h k=>h (by rw [k]),fun h k=>h (ok.inj hw hi (by rw [k]))⟩
 unfold dV
 by_cases hlt:i<a.heap.length-1
 · rw [if_pos hlt]
   have st:=HO ok hi hlt;show e∈(_:List Ev).take _↔_;rw [DC (by rw [st.hl];omega)]
   refine (st.mem e).trans ?_;constructor
   · rintro (h|⟨w,hw,hwi,rfl⟩)
     · rw [h];exact ⟨bL (by omega),(other _ (by omega)).2 (by omega)⟩
     · exact ⟨bL (by omega),(other _ (by omega)).2 hwi⟩
   · rintro ⟨h,hne⟩
     obtain ⟨w,hw,rfl⟩:=aY.1 h
     by_cases c:w=a.heap.length-1
     · left;rw [c]
     · exact .inr ⟨w,by omega,(other w hw).1 hne,rfl⟩
 · rw [if_neg hlt]
   show e∈a.heap.take _↔_;rw [DC (by omega)]
   constructor
   · rintro ⟨w,hw,rfl⟩
     exact ⟨bL (by omega),(other _ (by omega)).2 (by omega)⟩
   · rintro ⟨h,hne⟩
     obtain ⟨w,hw,rfl⟩:=aY.1 h
     have:=(other w hw).1 hne
     exact ⟨w,by omega,rfl⟩
theorem GZ:qR a (i:Int)=some (dV a i,a.heap[i]!,0):=by
 have bd:=ok.bd;obtain ⟨b1,b2,b3,b4,b5⟩:=ok.back hi;obtain ⟨c1,c2,c3,c4,c5⟩:=ok.back (show a.heap.length-1<a.heap.length by omega)
 unfold qR;have e1:aA .i64 ((a.heap.length:Int) -1)=((a.heap.length-1:Nat):Int):=zN (by omega) (by omega)
 have g1:aL a.where_ (a.heap[i]!).2.2.2.1=some a.where_[(a.heap[i]!).2.2.2.1.toNat]!:=dF b1 (by rw [ok.wl];exact b2)
 have ws:bT a.where_ (a.heap[i]!).2.2.2.1 (-1)=a.where_.set (Ev.n a.heap[i]!) (-1):=rfl
 simp only [aC a.heap i hi,aB,ON ok.so (ok.handle hi).1,show ((0:Int) !=0)=false from rfl,cond_false,bI (show a.heap.length<=1048576 by omega),bI (show a.where_.length<=1048576 by omega),aE,e1,aC a.heap (a.heap.length-1) (by omega),qF a.heap (a.heap.length-1) (by omega),g1,ws,Int.toNat_natCast]
 unfold dV
 by_cases hlt:i<a.heap.length-1
 · rw [aR (by omega),if_pos hlt]
   have se:=T6 (cap:=a.heap.length) (u:=(fA a.slots (a.heap[i]!).2.2.2).uses) (us:=(fA a.slots (a.heap[i]!).2.2.2).used) (fr:=(fA a.slots (a.heap[i]!).2.2.2).free) (ok.ev (a.heap.length-1) (by omega)) (show 0<=Ev.ix a.heap[a.heap.length-1]! from c1) (M3 ok hi) hlt (show Ev.ix a.heap[a.heap.length-1]!<_ by rw [List.length_set,ok.wl];exact c2)
   rw [se];rfl
 · rw [aM (by omega),if_neg hlt]
   rfl
theorem xQ (fit:BP a) {h:Int×Int} (hh:(a.heap[i]!).2.2.2=h):jE a h=some (dV a i,a.heap[i]!,0):=by
 unfold jE;rw [RU ok fit hi hh];simp only [aB,show ((0:Int) !=0)=false from rfl,cond_false,GZ ok hi]
theorem xR {h:Int×Int} (hh:(a.heap[i]!).2.2.2=h):lM a h=some (dV a i):=by
 have bd:=ok.bd;subst hh;obtain ⟨b1,b2,b3,b4,b5⟩:=ok.back hi;obtain ⟨c1,c2,c3,c4,c5⟩:=ok.back (show a.heap.length-1<a.heap.length by omega)
 unfold lM;rw [rA ok];have e1:aA .i64 ((a.heap.length:Int) -1)=((a.heap.length-1:Nat):Int):=zN (by omega) (by omega)
 have g1:aL a.where_ (a.heap[i]!).2.2.2.1=some (i:Int):=by
  rw [dF (l:=a.where_) b1 (by rw [ok.wl];exact b2)]
  exact congrArg some b5
 have gv:=KX ok.so (ok.handle hi).1;simp only [aB,g1,aE,e1,Int.toNat_natCast];unfold dV
 by_cases hlt:i<a.heap.length-1
 · rw [eS (show (i:Int)≠((a.heap.length-1:Nat):Int) by omega),if_pos hlt]
   have hne:a.heap.length-1≠i:=by omega
   have nn:Ev.n a.heap[a.heap.length-1]!≠Ev.n a.heap[i]!:=xP ok hi (by omega) hne
   have sw:=FQ (n:=a.heap.length) (x:=a.heap[i]!) (u:=a.slots.uses) (us:=a.slots.used) (fr:=a.slots.free) (H:=a.heap) (W:=a.where_) hi (show a.heap.length-1<a.heap.length by omega) hne rfl b1 (by rw [ok.wl];exact b2) c1 (by rw [ok.wl];exact c2)
   rw [set_same (l:=a.heap) rfl,set_same (l:=a.where_) b5] at sw;have hs:(a.heap.set i a.heap[a.heap.length-1]!).set (a.heap.length-1) a.heap[i]! =(a.heap.set (a.heap.length-1) a.heap[i]!).set i a.heap[a.heap.length-1]!:=List.set_comm _ _ (by omega)
   have ws:bT ((a.where_.set (Ev.n a.heap[a.heap.length-1]!) (i:Int)).set (Ev.n a.heap[i]!) ((a.heap.length-1:Nat):Int)) (a.heap[i]!).2.2.2.1 (-1)=(a.where_.set (Ev.n a.heap[i]!) (-1)).set (Ev.n a.heap[a.heap.length-1]!) (i:Int):=by
    show ((a.where_.set (Ev.n a.heap[a.heap.length-1]!) (i:Int)).set (Ev.n a.heap[i]!) ((a.heap.length-1:Nat):Int)).set (Ev.n a.heap[i]!) (-1)=_;rw [List.set_set,List.set_comm _ _ nn]
   have g2:aL ((a.where_.set (Ev.n a.heap[a.heap.length-1]!) (i:Int)).set (Ev.n a.heap[i]!) ((a.heap.length-1:Nat):Int)) (a.heap[i]!).2.2.2.1=some _:=dF b1 (by rw [List.length_set,List.length_set,ok.wl];exact b2)
   have cells:mF (a.heap.length-1) (a.heap.set (a.heap.length-1) a.heap[i]!) (a.where_.set (Ev.n a.heap[i]!) (-1)):=by
    refine ⟨by rw [List.length_set];omega,by rw [List.length_set];omega,fun w hw=>?_⟩
    rw [bE,if_neg (by omega)]
    exact (M3 ok hi).ev w hw
   have x1:Ev.ix a.heap[a.heap.length-1]!<(a.where_.set (Ev.n a.heap[i]!) (-1)).length:=by rw [List.length_set,ok.wl];exact c2
   have hx:=ok.ev (a.heap.length-1) (by omega)
   have gv':sE (aS.mk a.slots.uses a.slots.used a.slots.free) (a.heap[i]!).2.2.2=some (fA a.slots (a.heap[i]!).2.2.2):=gv;have tk:(a.heap.set (a.heap.length-1) a.heap[i]!).take (a.heap.length-1)=a.heap.take (a.heap.length-1):=by rw [vU];exact List.set_eq_of_length_le (by rw [List.length_take];omega)
   have U:oY ((fA a.slots (a.heap[i]!).2.2.2).uses,(fA a.slots (a.heap[i]!).2.2.2).used,(fA a.slots (a.heap[i]!).2.2.2).free,a.heap.length-1,((a.heap.set (a.heap.length-1) a.heap[i]!).set i a.heap[a.heap.length-1]!).length,(i:Int),(a.heap.set (a.heap.length-1) a.heap[i]!).set i a.heap[a.heap.length-1]!,(a.where_.set (Ev.n a.heap[i]!) (-1)).set (Ev.n a.heap[a.heap.length-1]!) (i:Int))=
    some (((iL a.heap[a.heap.length-1]! i (a.heap.set (a.heap.length-1) a.heap[i]!) (a.where_.set (Ev.n a.heap[i]!) (-1))).1:Int),(iL a.heap[a.heap.length-1]! i (a.heap.set (a.heap.length-1) a.heap[i]!) (a.where_.set (Ev.n a.heap[i]!) (-1))).2.1.set (iL a.heap[a.heap.length-1]! i (a.heap.set (a.heap.length-1) a.heap[i]!) (a.where_.set (Ev.n a.heap[i]!) (-1))).1 a.heap[a.heap.length-1]!,(iL a.heap[a.heap.length-1]! i (a.heap.set (a.heap.length-1) a.heap[i]!) (a.where_.set (Ev.n a.heap[i]!) (-1))).2.2.set (Ev.n a.heap[a.heap.length-1]!) ((iL a.heap[a.heap.length-1]! i (a.heap.set (a.heap.length-1) a.heap[i]!) (a.where_.set (Ev.n a.heap[i]!) (-1))).1:Int)):=by
    unfold oY
    exact aAx (n:=a.heap.length-1) (c0:=((fA a.slots (a.heap[i]!).2.2.2).uses,(fA a.slots (a.heap[i]!).2.2.2).used,(fA a.slots (a.heap[i]!).2.2.2).free,a.heap.length-1,((a.heap.set (a.heap.length-1) a.heap[i]!).set i a.heap[a.heap.length-1]!).length,(i:Int),(a.heap.set (a.heap.length-1) a.heap[i]!).set i a.heap[a.heap.length-1]!,(a.where_.set (Ev.n a.heap[i]!) (-1)).set (Ev.n a.heap[a.heap.length-1]!) (i:Int))) hx c1 i _ _ cells hlt x1 List.length_set List.length_set
   have ul:=aAE (x:=a.heap[a.heap.length-1]!) i (a.heap.set (a.heap.length-1) a.heap[i]!) (a.where_.set (Ev.n a.heap[i]!) (-1));have un:=V7 (x:=a.heap[a.heap.length-1]!) i (a.heap.set (a.heap.length-1) a.heap[i]!) (a.where_.set (Ev.n a.heap[i]!) (-1));have uc:=fun w hw=>BO (x:=a.heap[a.heap.length-1]!) cells hlt (i:=i) rfl w hw
   have cells1:mF (a.heap.length-1) (iL a.heap[a.heap.length-1]! i (a.heap.set (a.heap.length-1) a.heap[i]!) (a.where_.set (Ev.n a.heap[i]!) (-1))).2.1 (iL a.heap[a.heap.length-1]! i (a.heap.set (a.heap.length-1) a.heap[i]!) (a.where_.set (Ev.n a.heap[i]!) (-1))).2.2:=by
    refine ⟨by rw [un.1,List.length_set];omega,by rw [un.1,List.length_set];omega,fun w hw=>?_⟩
    rw [un.2];exact uc w hw
   have D:mO ((fA a.slots (a.heap[i]!).2.2.2).uses,(fA a.slots (a.heap[i]!).2.2.2).used,(fA a.slots (a.heap[i]!).2.2.2).free,a.heap.length-1,((a.heap.set (a.heap.length-1) a.heap[i]!).set i a.heap[a.heap.length-1]!).length,((iL a.heap[a.heap.length-1]! i (a.heap.set (a.heap.length-1) a.heap[i]!) (a.where_.set (Ev.n a.heap[i]!) (-1))).1:Int),(iL a.heap[a.heap.length-1]! i (a.heap.set (a.heap.length-1) a.heap[i]!) (a.where_.set (Ev.n a.heap[i]!) (-1))).2.1.set (iL a.heap[a.heap.length-1]! i (a.heap.set (a.heap.length-1) a.heap[i]!) (a.where_.set (Ev.n a.heap[i]!) (-1))).1 a.heap[a.heap.length-1]!,(iL a.heap[a.heap.length-1]! i (a.heap.set (a.heap.length-1) a.heap[i]!) (a.where_.set (Ev.n a.heap[i]!) (-1))).2.2.set (Ev.n a.heap[a.heap.length-1]!) ((iL a.heap[a.heap.length-1]! i (a.heap.set (a.heap.length-1) a.heap[i]!) (a.where_.set (Ev.n a.heap[i]!) (-1))).1:Int))=
    some (bZ (a.heap.length-1) a.heap[a.heap.length-1]! i (a.heap.set (a.heap.length-1) a.heap[i]!) (a.where_.set (Ev.n a.heap[i]!) (-1))):=by
    unfold mO
    exact RO (n:=a.heap.length-1) (c0:=((fA a.slots (a.heap[i]!).2.2.2).uses,(fA a.slots (a.heap[i]!).2.2.2).used,(fA a.slots (a.heap[i]!).2.2.2).free,a.heap.length-1,((a.heap.set (a.heap.length-1) a.heap[i]!).set i a.heap[a.heap.length-1]!).length,((iL a.heap[a.heap.length-1]! i (a.heap.set (a.heap.length-1) a.heap[i]!) (a.where_.set (Ev.n a.heap[i]!) (-1))).1:Int),(iL a.heap[a.heap.length-1]! i (a.heap.set (a.heap.length-1) a.heap[i]!) (a.where_.set (Ev.n a.heap[i]!) (-1))).2.1.set (iL a.heap[a.heap.length-1]! i (a.heap.set (a.heap.length-1) a.heap[i]!) (a.where_.set (Ev.n a.heap[i]!) (-1))).1 a.heap[a.heap.length-1]!,(iL a.heap[a.heap.length-1]! i (a.heap.set (a.heap.length-1) a.heap[i]!) (a.where_.set (Ev.n a.heap[i]!) (-1))).2.2.set (Ev.n a.heap[a.heap.length-1]!) ((iL a.heap[a.heap.length-1]! i (a.heap.set (a.heap.length-1) a.heap[i]!) (a.where_.set (Ev.n a.heap[i]!) (-1))).1:Int))) hx c1 a.heap.length (iL a.heap[a.heap.length-1]! i (a.heap.set (a.heap.length-1) a.heap[i]!) (a.where_.set (Ev.n a.heap[i]!) (-1))).1 (iL a.heap[a.heap.length-1]! i (a.heap.set (a.heap.length-1) a.heap[i]!) (a.where_.set (Ev.n a.heap[i]!) (-1))).2.1 (iL a.heap[a.heap.length-1]! i (a.heap.set (a.heap.length-1) a.heap[i]!) (a.where_.set (Ev.n a.heap[i]!) (-1))).2.2 (by omega) cells1 (by omega) (by rw [un.2];exact x1) List.length_set List.length_set
   have st:=FU (n:=(a.heap.length-1)) (x:=a.heap[a.heap.length-1]!) (i:=i) (H:=(a.heap.set (a.heap.length-1) a.heap[i]!)) (W:=(a.where_.set (Ev.n a.heap[i]!) (-1))) hlt;have st2:=FU (n:=(a.heap.length-1)) (x:=a.heap[a.heap.length-1]!) (i:=i) (H:=a.heap) (W:=(a.where_.set (Ev.n a.heap[i]!) (-1))) hlt;rw [tk,st2] at st;injection st with st1 st3
   simp only [cond_true,sw,aB,qF _ (a.heap.length-1) (show a.heap.length-1<=((a.heap.set (a.heap.length-1) a.heap[i]!).set i a.heap[a.heap.length-1]!).length by rw [List.length_set,List.length_set];omega),g2,gv',ws,hs,U,D,<- st1,<- st3]
 · rw [bX (show (i:Int)=((a.heap.length-1:Nat):Int) by omega),if_neg hlt]
   have ws:bT a.where_ (a.heap[i]!).2.2.2.1 (-1)=a.where_.set (Ev.n a.heap[i]!) (-1):=rfl;simp only [cond_false,qF a.heap (a.heap.length-1) (by omega),aB,gv,ws]
end
end Go.Proofs.YtfejhjllooomlaaGreat
namespace Go.Proofs.YtfejhjllooomlaaGreat
open Go.Vm Classical
abbrev sH:=Int×Int×Int
theorem eB.fit {a:aG} (ok:eB a):BP a:=by
 have bd:=ok.bd
 have:=ok.so.fl
 have:=ok.so.n2
 exact ⟨by omega,by omega,by omega,fun w hw=>(ok.ev w hw).2.1⟩
theorem IT (l:List sH) (id:Int) (hl:l.length<=1000000) (hs: ∀i j,i<j->j<l.length->(l[i]!).1<(l[j]!).1):
 (∀k,k<l.length->(l[k]!).1=id->aV l id ()=some ((k:Int),true))/\
 ((∀k,k<l.length->(l[k]!).1≠id)-> ∃m,m<=l.length/\(∀i,i<m->(l[i]!).1<id)/\(∀i,m<=i->i<l.length->id<(l[i]!).1)/\aV l id ()=some ((m:Int),false)):=by
 obtain ⟨m,m1,m2,m3⟩:=RM (fun i=>(l[i]!).1) id l.length hs
 have run:aV l id ()=aJ aU (l,id,(l.length:Int),(m:Int),(m:Int)):=by
  unfold aV;refine GU (body:=aU) (fun lo hi=>(l,id,(l.length:Int),(lo:Int),(hi:Int))) l.length m (fun i=>(l[i]!).1<id) (fun lo hi h1 h2=>?_) m2 (fun i h1 h2 h3=>by have:=m3 i h1 h2;omega) l.length 0 l.length (by omega) (by omega) m1 (Nat.le_refl _)
  have e1:decide ((lo:Int)<(hi:Int))=true:=aR (by omega)
  have hh:=aGs (a:=lo) (b:=hi) (by omega) (by omega)
  unfold aU rQ;simp only [e1,cond_true,hh,aC l ((lo+hi) / 2) (by omega),kG,aB,bD (show (lo+hi) / 2<1000000000 by omega)]
  constructor
  · intro h
    have:decide (jN (l[(lo+hi) / 2]!).1 id<0)=true:=by
     rcases dI (l[(lo+hi) / 2]!).1 id with ⟨a,e⟩|⟨a,e⟩|⟨a,e⟩<;>rw [e]<;>first|rfl|omega
    rw [this];rfl
  · intro h
    have:decide (jN (l[(lo+hi) / 2]!).1 id<0)=false:=by
     rcases dI (l[(lo+hi) / 2]!).1 id with ⟨a,e⟩|⟨a,e⟩|⟨a,e⟩<;>rw [e]<;>first|rfl|omega
    rw [this];rfl
 have fin:aJ aU (l,id,(l.length:Int),(m:Int),(m:Int))=if m<l.length/\(l[m]!).1=id then some ((m:Int),true) else some ((m:Int),false):=by
  have e1:decide ((m:Int)<(m:Int))=false:=aM (by omega)
  by_cases hm:m<l.length
  · have e2:decide ((m:Int)<(l.length:Int))=true:=aR (by omega)
    have body:aU (l,id,(l.length:Int),(m:Int),(m:Int))=some (.done ((m:Int),jN (l[m]!).1 id==0)):=by
     unfold aU rQ;simp only [e1,e2,cond_true,cond_false,aC l m hm,kG,aB]
    rw [aO body];rcases dI (l[m]!).1 id with ⟨a,e⟩|⟨a,e⟩|⟨a,e⟩
    · rw [e,if_neg (fun h=>by omega)];rfl
    · rw [e,if_pos ⟨hm,a⟩];rfl
    · rw [e,if_neg (fun h=>by omega)];rfl
  · have e2:decide ((m:Int)<(l.length:Int))=false:=aM (by omega)
    have body:aU (l,id,(l.length:Int),(m:Int),(m:Int))=some (.done ((m:Int),false)):=by
     unfold aU;simp only [e1,e2,cond_false]
    rw [aO body,if_neg (fun h=>hm h.1)]
 rw [run,fin];constructor
 · intro k hk he
   have hkm:k=m:=by
    rcases Nat.lt_trichotomy k m with h|h|h
    · have:=m2 k h;omega
    · exact h
    · have h1:=m3 m (Nat.le_refl _) (by omega)
      have h2:=hs m k h hk;omega
   subst hkm;rw [if_pos ⟨hk,he⟩]
 · intro h
   refine ⟨m,m1,m2,fun i h1 h2=>?_,?_⟩
   · have:=m3 i h1 h2
     have:=h i h2
     omega
   · rw [if_neg (fun k=>h m k.1 k.2)]
theorem aLQ:cS=aV:=rfl
theorem aAG:cM=aV:=rfl
theorem aGy:cR=aV:=rfl
theorem uO {α:Type} (l:List α) (k:Nat):l.eraseIdx k=l.take k++l.drop (k+1):=List.eraseIdx_eq_take_drop_succ l k
theorem HP (l:List sH) (k:Nat) (hk:k<l.length): ∃L:List sH,eX ((k:Int),((k+1:Nat):Int),l)=some (l.length-1,l.length,L)/\L.take (l.length-1)=l.eraseIdx k:=by
 unfold eX;have e1:decide ((0:Int)<=(k:Int))=true:=aR (by omega)
 have e2:decide ((k:Int)<=((k+1:Nat):Int))=true:=aR (by omega)
 have e3:decide (((k+1:Nat):Int)<=(l.length:Int))=true:=aR (by omega)
 have e4:decide ((l.length:Int)<=(l.length:Int))=true:=aR (by omega)
 have e5:((k:Int)==((k+1:Nat):Int))=false:=fR (by omega)
 have e6:decide ((0:Int)<=((k+1:Nat):Int))=true:=aR (by omega)
 have e7:decide ((k:Int)<=(l.length:Int))=true:=aR (by omega)
 have dr:(l.drop (k+1)).take (l.length- (k+1))=l.drop (k+1):=List.take_of_length_le (by rw [List.length_drop];exact Nat.le_refl _)
 have dl:(l.drop (k+1)).length=l.length- (k+1):=List.length_drop;simp only [aE,e1,e2,e3,e4,e5,e6,e7,Bool.and_self,cond_true,cond_false,qF l k (by omega),aB,Int.toNat_natCast,Nat.zero_add,dr,dl,Bool.not_false,Bool.and_true]
 by_cases h:k+1=l.length
 · have em:(l.drop (k+1)).isEmpty=true:=by rw [List.isEmpty_iff,List.drop_eq_nil_iff];omega
   have n1:Nat.beq (l.length-k) 0=false:=by
    cases hb:Nat.beq (l.length-k) 0 with
    |false=>rfl
    |true=>have:=Nat.eq_of_beq_eq_true hb;omega
   have n2:Nat.ble (k+(l.length-k)) l.length=true:=Nat.ble_eq_true_of_le (by omega)
   have ll:(gX l k (List.replicate (l.length-k) ((0:Int),(0:Int),(0:Int)))).length=l.length:=by
    unfold gX;simp;omega
   simp only [em,cond_true,n1,cond_false,n2,ll,beq_self_eq_true];refine ⟨_,by rw [show k=l.length-1 by omega],?_⟩
   rw [uO,show l.length-1=k by omega]
   unfold gX;rw [List.append_assoc,List.take_append_of_le_length (by rw [List.length_take];omega),List.take_take,Nat.min_self]
   rw [List.drop_eq_nil_of_le (by omega),List.append_nil]
 · have em:(l.drop (k+1)).isEmpty=false:=by
    cases hb:(l.drop (k+1)).isEmpty with
    |false=>rfl
    |true=>rw [List.isEmpty_iff,List.drop_eq_nil_iff] at hb;omega
   have n1:Nat.ble (k+(l.length- (k+1))) l.length=true:=Nat.ble_eq_true_of_le (by omega)
   have n2:decide ((0:Int)<=((k+(l.length- (k+1)):Nat):Int))=true:=aR (by omega)
   have n3:decide (((k+(l.length- (k+1)):Nat):Int)<=(l.length:Int))=true:=aR (by omega)
   have n4:Nat.beq (l.length- (k+(l.length- (k+1)))) 0=false:=by
    cases hb:Nat.beq (l.length- (k+(l.length- (k+1)))) 0 with
    |false=>rfl
    |true=>have:=Nat.eq_of_beq_eq_true hb;omega
   have l1:(gX l k (l.drop (k+1))).length=l.length:=by
    unfold gX;simp;omega
   have n5:Nat.ble (k+(l.length- (k+1))+(l.length- (k+(l.length- (k+1))))) l.length=true:=Nat.ble_eq_true_of_le (by omega)
   have l2:(gX (gX l k (l.drop (k+1))) (k+(l.length- (k+1))) (List.replicate (l.length- (k+(l.length- (k+1)))) ((0:Int),(0:Int),(0:Int)))).length=l.length:=by
    unfold gX;simp;omega
   simp only [em,cond_false,n1,cond_true,n2,n3,Bool.and_self,n4,l1,n5,l2,beq_self_eq_true];refine ⟨_,by rw [show k+(l.length- (k+1))=l.length-1 by omega],?_⟩
   rw [uO]
   have:k+(l.length- (k+1))=l.length-1:=by omega
   unfold gX;rw [List.append_assoc,List.take_append_of_le_length (by simp;omega),List.take_take,Nat.min_self,List.append_assoc]
   rw [show (l.take k++(l.drop (k+1)++l.drop (k+(l.drop (k+1)).length)))=(l.take k++l.drop (k+1))++l.drop (k+(l.drop (k+1)).length) by rw [List.append_assoc]]
   rw [List.take_append_of_le_length (by simp;omega),List.take_of_length_le (by simp;omega)]
theorem T8:hO=eX:=rfl
theorem LD {α:Type} [Inhabited α] {l:List α} {k i:Nat}:(l.eraseIdx k)[i]! =if i<k then l[i]! else l[i+1]!:=by
 rw [uO]
 by_cases hk:k<l.length
 · by_cases h:i<k
   · rw [if_pos h,jH (by rw [List.length_take];omega),lN h]
   · rw [if_neg h,kF (by rw [List.length_take];omega),tP,List.length_take]
     congr 1;omega
 · have e1:l.take k=l:=List.take_of_length_le (by omega)
   have e2:l.drop (k+1)=[]:=List.drop_eq_nil_of_le (by omega)
   rw [e1,e2,List.append_nil];split
   · rfl
   · rw [getElem!_neg l i (by omega),getElem!_neg l (i+1) (by omega)]
end Go.Proofs.YtfejhjllooomlaaGreat
namespace Go.Proofs.YtfejhjllooomlaaGreat
open Go.Vm Classical
def jD (x:Int×Int):Prop:=0<=x.1/\x.1<=65535/\0<=x.2/\x.2<=65535/\x.1≠x.2
theorem DD (x:Int×Int):uA x=some (decide (jD x)):=by
 obtain ⟨a,b⟩:=x;unfold uA;dsimp only
 by_cases h1:0<=a
 · by_cases h3:0<=b
   · have e1:decide (0<=if b<a then b else a)=true:=aR (by split<;>omega)
     rw [e1]
     by_cases h2:a<=65535
     · by_cases h4:b<=65535
       · have e2:decide ((if b>a then b else a)<=65535)=true:=aR (by split<;>omega)
         rw [e2]
         by_cases h5:a=b
         · rw [bX h5,aM (p:=jD (a,b)) (fun h=>h.2.2.2.2 h5)];rfl
         · rw [eS h5,aR (p:=jD (a,b)) ⟨h1,h2,h3,h4,h5⟩];rfl
       · have e2:decide ((if b>a then b else a)<=65535)=false:=aM (by split<;>omega)
         rw [e2,aM (p:=jD (a,b)) (fun h=>h4 h.2.2.2.1)];rfl
     · have e2:decide ((if b>a then b else a)<=65535)=false:=aM (by split<;>omega)
       rw [e2,aM (p:=jD (a,b)) (fun h=>h2 h.2.1)];rfl
   · have e1:decide (0<=if b<a then b else a)=false:=aM (by split<;>omega)
     rw [e1,aM (p:=jD (a,b)) (fun h=>h3 h.2.2.1)];rfl
 · have e1:decide (0<=if b<a then b else a)=false:=aM (by split<;>omega)
   rw [e1,aM (p:=jD (a,b)) (fun h=>h1 h.1)];rfl
theorem DE (x:Int×Int):uE x=some (decide (jD x)):=by
 obtain ⟨a,b⟩:=x;unfold uE;dsimp only
 by_cases h1:0<=a
 · by_cases h2:a<=65535
   · by_cases h3:0<=b
     · by_cases h4:b<=65535
       · by_cases h5:a=b
         · rw [bX h5,aR h1,aR h2,aR h3,aR h4,aM (p:=jD (a,b)) (fun h=>h.2.2.2.2 h5)];rfl
         · rw [eS h5,aR h1,aR h2,aR h3,aR h4,aR (p:=jD (a,b)) ⟨h1,h2,h3,h4,h5⟩];rfl
       · rw [aR h1,aR h2,aR h3,aM h4,aM (p:=jD (a,b)) (fun h=>h4 h.2.2.2.1)];rfl
     · rw [aR h1,aR h2,aM h3,aM (p:=jD (a,b)) (fun h=>h3 h.2.2.1)];rfl
   · rw [aR h1,aM h2,aM (p:=jD (a,b)) (fun h=>h2 h.2.1)];rfl
 · rw [aM h1,aM (p:=jD (a,b)) (fun h=>h1 h.1)];rfl
structure dZ (c:aW):Prop where
 len:c.list.length<=200
 n0:0<=c.next_
 n1:c.next_<=1000000
 cv: ∀i,i<c.list.length->jD (c.list[i]!).2
 nr: ∀i,i<c.list.length->0<=(c.list[i]!).1/\(c.list[i]!).1<c.next_
 up: ∀i j,i<j->j<c.list.length->(c.list[i]!).1<(c.list[j]!).1
 nd: ∀i j,i<j->j<c.list.length->(c.list[i]!).2≠(c.list[j]!).2
def BT (l:List sH) (i:Nat):Int:=if i=0 then -1 else (l[i-1]!).1
def T9 (c:aW) (i:Nat):Prop:=jD (c.list[i]!).2/\(∀j,j<i->(c.list[j]!).2≠(c.list[i]!).2)/\BT c.list i<(c.list[i]!).1/\(c.list[i]!).1<c.next_
theorem dZ.iff {c:aW} (h1:c.list.length<=200) (h2:0<=c.next_) (h3:c.next_<=1000000):dZ c↔ ∀i,i<c.list.length->T9 c i:=by
 constructor
 · intro ok i hi
   refine ⟨ok.cv i hi,fun j hj=>ok.nd j i hj hi,?_,(ok.nr i hi).2⟩
   unfold BT;split
   · have:=(ok.nr i hi).1;omega
   · exact ok.up (i-1) i (by omega) hi
 · intro h
   have low: ∀i,i<c.list.length->0<=(c.list[i]!).1:=by
    intro i
    induction i with
    |zero=>
     intro hi
     have:=(h 0 hi).2.2.1
     unfold BT at this;rw [if_pos rfl] at this;omega
    |succ i ih=>
     intro hi;have h1:=(h (i+1) hi).2.2.1;unfold BT at h1;rw [if_neg (by omega),show i+1-1=i by omega] at h1
     have:=ih (by omega)
     omega
   have up: ∀i j,i<j->j<c.list.length->(c.list[i]!).1<(c.list[j]!).1:=by
    intro i j
    induction j with
    |zero=>intro h;omega
    |succ j ih=>
     intro hij hj;have h1:=(h (j+1) hj).2.2.1;unfold BT at h1;rw [if_neg (by omega),show j+1-1=j by omega] at h1
     by_cases e:i=j
     · subst e;exact h1
     · have:=ih (by omega) (by omega)
       omega
   exact ⟨h1,h2,h3,fun i hi=>(h i hi).1,fun i hi=>⟨low i hi,(h i hi).2.2.2⟩,up,fun i j hij hj=>(h j hj).2.1 i hij⟩
theorem LE (l:List sH) (k:Nat) (a b:Int):oH [a,b] ((l.take k).map fun x=>[x.2.1,x.2.2])=true:=by
 unfold oH;rw [List.all_eq_true];intro x hx;obtain ⟨y,hy,rfl⟩:=List.mem_map.1 hx;rfl
theorem LF (l:List sH) (k:Nat) (x:Int×Int):IA ((l.take k).map fun y=>[y.2.1,y.2.2]) [x.1,x.2]=decide (∃j,j<k/\j<l.length/\(l[j]!).2=x):=by
 unfold IA;rw [Bool.eq_iff_iff,List.any_eq_true,decide_eq_true_iff];constructor
 · rintro ⟨y,hy,he⟩
   obtain ⟨z,hz,rfl⟩:=List.mem_map.1 hy;obtain ⟨j,h1,h2,rfl⟩:=cT.1 hz
   have:[x.1,x.2]=[(l[j]!).2.1,(l[j]!).2.2]:=by simpa using he
   injection this with e1 e2;injection e2 with e2 _;exact ⟨j,h1,h2,Prod.ext e1.symm e2.symm⟩
 · rintro ⟨j,h1,h2,h3⟩
   refine ⟨[(l[j]!).2.1,(l[j]!).2.2],List.mem_map.2 ⟨l[j]!,cT.2 ⟨j,h1,h2,rfl⟩,rfl⟩,?_⟩;rw [h3];simp
theorem wQ (c:aW):pQ c=some (if dZ c then 0 else 8):=by
 unfold pQ;simp only [aE]
 by_cases h1:200<c.list.length
 · rw [aR (show (200:Int)<(c.list.length:Int) by omega),if_neg (fun h=>by have:=h.len;omega)];rfl
 rw [aM (show¬(200:Int)<(c.list.length:Int) by omega)]
 by_cases h2:c.next_<0
 · rw [aR h2,if_neg (fun h=>by have:=h.n0;omega)];rfl
 rw [aM h2]
 by_cases h3:1000000<c.next_
 · rw [aR h3,if_neg (fun h=>by have:=h.n1;omega)];rfl
 rw [aM h3];simp only [cond_false];have key:=dA (body:=qN) (fun i=>(BT c.list i,c.list,(c.list.length:Int),(i:Int),c.next_,c.list,(c.list.take i).map fun x=>[x.2.1,x.2.2])) c.list.length (fun i=> ¬T9 c i) (r:=8) (e:=0) (fun i hi=>by
  have e1:decide ((i:Int)<(c.list.length:Int))=true:=aR (by omega)
  have has:PY ((c.list.take i).map fun x=>[x.2.1,x.2.2]) [(c.list[i]!).2.1,(c.list[i]!).2.2]=some (decide (∃j,j<i/\j<c.list.length/\(c.list[j]!).2=(c.list[i]!).2)):=by
   unfold PY;rw [LE,LF];rfl
  have nx:(c.list.take (i+1)).map (fun x=>[x.2.1,x.2.2])=((c.list.take i).map fun x=>[x.2.1,x.2.2])++[[(c.list[i]!).2.1,(c.list[i]!).2.2]]:=by
   rw [kH hi,List.map_append];rfl
  have ln:BT c.list (i+1)=(c.list[i]!).1:=by unfold BT;rw [if_neg (by omega),show i+1-1=i by omega]
  unfold qN;simp only [e1,cond_true,aC c.list i hi,aB,DD,has,nx,ln,bD (show i<1000000000 by omega)]
  unfold T9
  by_cases b1:jD (c.list[i]!).2
  case neg=>
   rw [aM b1];exact ⟨fun _=>rfl,fun h=>absurd (Classical.not_not.1 h).1 b1⟩
  rw [aR b1]
  by_cases b2: ∃j,j<i/\j<c.list.length/\(c.list[j]!).2=(c.list[i]!).2
  · rw [aR b2]
    refine ⟨fun _=>rfl,fun h=>?_⟩
    obtain ⟨j,j1,j2,j3⟩:=b2;exact absurd j3 ((Classical.not_not.1 h).2.1 j j1)
  rw [aM b2];have b2': ∀j,j<i->(c.list[j]!).2≠(c.list[i]!).2:=fun j hj he=>b2 ⟨j,hj,by omega,he⟩
  by_cases b3:(c.list[i]!).1<=BT c.list i
  · rw [aR b3]
    exact ⟨fun _=>rfl,fun h=>absurd (Classical.not_not.1 h).2.2.1 (by omega)⟩
  rw [aM b3]
  by_cases b4:c.next_<=(c.list[i]!).1
  · rw [aR b4]
    exact ⟨fun _=>rfl,fun h=>absurd (Classical.not_not.1 h).2.2.2 (by omega)⟩
  rw [aM b4];have ins:PZ ((c.list.take i).map fun x=>[x.2.1,x.2.2]) [(c.list[i]!).2.1,(c.list[i]!).2.2]=some (((c.list.take i).map fun x=>[x.2.1,x.2.2])++[[(c.list[i]!).2.1,(c.list[i]!).2.2]]):=by
   unfold PZ S5;rw [LE,LF,aM b2];rfl
  rw [ins];exact ⟨fun h=>absurd ⟨b1,b2',by omega,by omega⟩ h,fun _=>rfl⟩) (by
  unfold qN
  have:decide ((c.list.length:Int)<(c.list.length:Int))=false:=aM (by omega)
  simp only [this,cond_false])
 have h0:BT c.list 0= -1:=rfl;rw [h0] at key
 by_cases ok:dZ c
 · rw [if_pos ok]
   exact key.2 fun i hi=>Classical.not_not.2 ((dZ.iff (by omega) (by omega) (by omega)).1 ok i hi)
 · rw [if_neg ok]
   rw [dZ.iff (by omega) (by omega) (by omega)] at ok
   obtain ⟨i,h⟩:=Classical.not_forall.1 ok;obtain ⟨hi,hx⟩:=Classical.not_imp.1 h;exact key.1 ⟨i,hi,hx⟩
theorem R0 (c:aW) (i:Nat) (hi:i<c.list.length) (hl:c.list.length<=200):
 ((∃j,j<i/\(c.list[j]!).2=(c.list[i]!).2)->aJ fL ((i:Int),0,c.next_,c.list,c.list[i]!)=some (.done 8))/\
 ((∀j,j<i-> ¬(c.list[j]!).2=(c.list[i]!).2)->aJ fL ((i:Int),0,c.next_,c.list,c.list[i]!)=some (.next (((i+1:Nat):Int),c.next_,c.list))):=by
 refine dA (body:=fL) (fun j=>((i:Int),(j:Int),c.next_,c.list,c.list[i]!)) i (fun j=>(c.list[j]!).2=(c.list[i]!).2) (r:= .done 8) (e:= .next (((i+1:Nat):Int),c.next_,c.list)) (fun j hj=>?_) ?_
 · have e1:decide ((j:Int)<(i:Int))=true:=aR (by omega)
   unfold fL;simp only [e1,cond_true,aC c.list j (by omega),aB,bD (show j<1000000000 by omega)]
   generalize c.list[j]! =x;generalize c.list[i]! =y;constructor
   · intro h;rw [fM (congrArg Prod.fst h),fM (congrArg Prod.snd h)];rfl
   · intro h
     by_cases h1:x.2.1=y.2.1
     · rw [fM h1,fR (fun h2=>h (Prod.ext h1 h2))];rfl
     · rw [fR h1];rfl
 · unfold fL
   have:decide ((i:Int)<(i:Int))=false:=aM (by omega)
   simp only [this,cond_false,bD (show i<1000000000 by omega)]
theorem BU (c:aW):rY c=some (if dZ c then 0 else 8):=by
 unfold rY;simp only [aE]
 by_cases h1:200<c.list.length
 · rw [aR (show (200:Int)<(c.list.length:Int) by omega),if_neg (fun h=>by have:=h.len;omega)];rfl
 rw [aM (show¬(200:Int)<(c.list.length:Int) by omega)]
 by_cases h2:c.next_<0
 · rw [aR h2,if_neg (fun h=>by have:=h.n0;omega)];rfl
 rw [aM h2]
 by_cases h3:1000000<c.next_
 · rw [aR h3,if_neg (fun h=>by have:=h.n1;omega)];rfl
 rw [aM h3];simp only [cond_false];have key:=dA (body:=oS) (fun i=>((i:Int),c.next_,c.list)) c.list.length (fun i=> ¬(jD (c.list[i]!).2/\0<=(c.list[i]!).1/\(c.list[i]!).1<c.next_/\(0<i->(c.list[i-1]!).1<(c.list[i]!).1)/\ ∀j,j<i-> ¬(c.list[j]!).2=(c.list[i]!).2)) (r:=8) (e:=0) (fun i hi=>by
  have e1:decide ((i:Int)<(c.list.length:Int))=true:=aR (by omega)
  have l1:=R0 c i hi (by omega)
  unfold oS;simp only [aE,e1,cond_true,aC c.list i hi,aB,DE]
  by_cases b1:jD (c.list[i]!).2
  case neg=>
   rw [aM b1];exact ⟨fun _=>rfl,fun h=>absurd (Classical.not_not.1 h).1 b1⟩
  rw [aR b1]
  by_cases b2:(c.list[i]!).1<0
  · rw [aR b2]
    exact ⟨fun _=>rfl,fun h=>absurd (Classical.not_not.1 h).2.1 (by omega)⟩
  rw [aM b2]
  by_cases b3:c.next_<=(c.list[i]!).1
  · rw [aR b3]
    exact ⟨fun _=>rfl,fun h=>absurd (Classical.not_not.1 h).2.2.1 (by omega)⟩
  rw [aM b3];simp only [Bool.not_true,cond_false];have go:(0<i->(c.list[i-1]!).1<(c.list[i]!).1)->(¬(jD (c.list[i]!).2/\0<=(c.list[i]!).1/\(c.list[i]!).1<c.next_/\(0<i->(c.list[i-1]!).1<(c.list[i]!).1)/\ ∀j,j<i-> ¬(c.list[j]!).2=(c.list[i]!).2)->aJ fL ((i:Int),0,c.next_,c.list,c.list[i]!)=some (.done 8))/\
   (¬¬(jD (c.list[i]!).2/\0<=(c.list[i]!).1/\(c.list[i]!).1<c.next_/\(0<i->(c.list[i-1]!).1<(c.list[i]!).1)/\ ∀j,j<i-> ¬(c.list[j]!).2=(c.list[i]!).2)->aJ fL ((i:Int),0,c.next_,c.list,c.list[i]!)=some (.next (((i+1:Nat):Int),c.next_,c.list))):=by
   intro hp;constructor
   · intro h
     refine l1.1 (Classical.byContradiction fun hx=>h ⟨b1,by omega,by omega,hp,fun j hj he=>hx ⟨j,hj,he⟩⟩)
   · intro h
     exact l1.2 (Classical.not_not.1 h).2.2.2.2
  by_cases b4:0<i
  · have f1:decide ((0:Int)<(i:Int))=true:=aR (by omega)
    simp only [f1,cond_true,zN (show i<1000000000 by omega) b4,aC c.list (i-1) (by omega),aB]
    by_cases b5:(c.list[i]!).1<=(c.list[i-1]!).1
    · rw [aR b5]
      exact ⟨fun _=>rfl,fun h=>absurd ((Classical.not_not.1 h).2.2.2.1 b4) (by omega)⟩
    · rw [aM b5]
      exact go fun _=>by omega
  · have f1:decide ((0:Int)<(i:Int))=false:=aM (by omega)
    rw [f1];exact go fun h=>absurd h b4) (by
  unfold oS
  have:decide ((c.list.length:Int)<(c.list.length:Int))=false:=aM (by omega)
  simp only [aE,this,cond_false])
 have same:dZ c↔ ∀i,i<c.list.length->(jD (c.list[i]!).2/\0<=(c.list[i]!).1/\(c.list[i]!).1<c.next_/\(0<i->(c.list[i-1]!).1<(c.list[i]!).1)/\ ∀j,j<i-> ¬(c.list[j]!).2=(c.list[i]!).2):=by
  constructor
  · intro ok i hi
    exact ⟨ok.cv i hi,(ok.nr i hi).1,(ok.nr i hi).2,fun h=>ok.up (i-1) i (by omega) hi,fun j hj=>ok.nd j i hj hi⟩
  · intro h
    rw [dZ.iff (by omega) (by omega) (by omega)]
    intro i hi;obtain ⟨a1,a2,a3,a4,a5⟩:=h i hi;refine ⟨a1,a5,?_,a3⟩;unfold BT;split
    · omega
    · exact a4 (by omega)
 by_cases ok:dZ c
 · rw [if_pos ok]
   exact key.2 fun i hi=>Classical.not_not.2 (same.1 ok i hi)
 · rw [if_neg ok]
   rw [same] at ok;obtain ⟨i,h⟩:=Classical.not_forall.1 ok;obtain ⟨hi,hx⟩:=Classical.not_imp.1 h;exact key.1 ⟨i,hi,hx⟩
end Go.Proofs.YtfejhjllooomlaaGreat
namespace Go.Proofs.YtfejhjllooomlaaGreat
open Go.Vm Classical
def uP (l:List sH) (x:Int×Int):Prop:= ∃i,i<l.length/\(l[i]!).2=x
theorem R1 (l:List sH) (x:Int×Int) (hl:l.length<=1000000):bW l x=some (decide (uP l x)):=by
 unfold bW eZ;have key:=jC (body:=cV) (fun i=>(l,x.1,x.2,(l.length:Int),(i:Int))) l.length (fun i=>(l[i]!).2=x) (fun i=>(i:Int)) (e:= -1) (fun i hi=>by
  have e1:decide ((i:Int)<(l.length:Int))=true:=aR (by omega)
  unfold cV D3;simp only [e1,cond_true,aC l i hi,aB,bD (show i<1000000000 by omega)]
  generalize l[i]! =y;constructor
  · intro h;rw [fM (congrArg Prod.fst h),fM (congrArg Prod.snd h)];rfl
  · intro h
    by_cases h1:y.2.1=x.1
    · rw [fM h1,fR (fun h2=>h (Prod.ext h1 h2))];rfl
    · rw [fR h1];rfl) (by
  unfold cV
  have:decide ((l.length:Int)<(l.length:Int))=false:=aM (by omega)
  simp only [this,cond_false])
 rw [aE]
 by_cases hx:uP l x
 · obtain ⟨k,h1,h2,h3⟩:=HK hx
   have:=key.1 k h1 h2 h3
   rw [show ((0:Nat):Int)=0 from rfl] at this;rw [this,aR hx];simp only [aB,aR (show (0:Int)<=(k:Int) by omega)]
 · have:=key.2 fun i hi he=>hx ⟨i,hi,he⟩
   rw [show ((0:Nat):Int)=0 from rfl] at this;rw [this,aM hx];rfl
theorem G0:dQ=bW:=rfl
theorem zS (c:aW) (x:Int×Int) (hl:c.list.length<=1000000):tO c x=some (decide (uP c.list x)):=by
 unfold tO;have key:=dA (body:=tI) (fun i=>((i:Int),c.next_,c.list,x)) c.list.length (fun i=>(c.list[i]!).2=x) (r:=true) (e:=false) (fun i hi=>by
  have e1:decide ((i:Int)<(c.list.length:Int))=true:=aR (by omega)
  unfold tI;simp only [aE,e1,cond_true,aC c.list i hi,aB,bD (show i<1000000000 by omega)]
  generalize c.list[i]! =y;constructor
  · intro h;rw [fM (congrArg Prod.fst h),fM (congrArg Prod.snd h)];rfl
  · intro h
    by_cases h1:y.2.1=x.1
    · rw [fM h1,fR (fun h2=>h (Prod.ext h1 h2))];rfl
    · rw [fR h1];rfl) (by
  unfold tI
  have:decide ((c.list.length:Int)<(c.list.length:Int))=false:=aM (by omega)
  simp only [aE,this,cond_false])
 by_cases hx:uP c.list x
 · rw [aR hx];exact key.1 hx
 · rw [aM hx];exact key.2 fun i hi he=>hx ⟨i,hi,he⟩
def pB (c:aW) (x:Int×Int):aW:=⟨c.next_+1,c.list++[(c.next_,x)]⟩
def FV (c:aW):Prop:=c.list.length=200\/c.next_=1000000
theorem R2 {c:aW} (ok:dZ c) {x:Int×Int} (hx:jD x):FI c x=some (if uP c.list x then (⟨0,[]⟩,0,14) else if FV c then (⟨0,[]⟩,0,18) else (pB c x,c.next_,0)):=by
 have:=ok.len;have:=ok.n0;have:=ok.n1
 unfold FI;rw [wQ,if_pos ok,DD,aR hx,R1 _ _ (by omega)]
 simp only [aB,show ((0:Int) !=0)=false from rfl,cond_false,Bool.not_true,aE]
 by_cases h1:uP c.list x
 · rw [aR h1,if_pos h1];rfl
 rw [aM h1,if_neg h1];unfold FV
 by_cases h2:c.list.length=200
 · rw [fM (show (c.list.length:Int)=200 by omega),if_pos (.inl h2)];rfl
 rw [fR (show¬(c.list.length:Int)=200 by omega)]
 by_cases h3:c.next_=1000000
 · rw [fM h3,if_pos (.inr h3)];rfl
 rw [fR h3,if_neg (by omega)]
 have e:aA .i64 (c.next_+1)=c.next_+1:=by rw [wi];omega
 simp only [cond_false,bI (show c.list.length<=1048576 by omega),aB,eU (show c.list.length+[(c.next_,x)].length<=1048576 by simp;omega),e]
 rfl
theorem OU {c:aW} (ok:dZ c) {x:Int×Int} (hx:jD x):GT c x=some (if uP c.list x then (⟨0,[]⟩,0,14) else if FV c then (⟨0,[]⟩,0,18) else (pB c x,c.next_,0)):=by
 have:=ok.len;have:=ok.n0;have:=ok.n1
 unfold GT zJ;rw [BU,if_pos ok,DE,aR hx,zS _ _ (by omega)]
 simp only [aB,show ((0:Int) !=0)=false from rfl,cond_false,Bool.not_true,aE]
 by_cases h1:uP c.list x
 · rw [aR h1,if_pos h1];rfl
 rw [aM h1,if_neg h1];unfold FV
 by_cases h2:c.list.length=200
 · rw [fM (show (c.list.length:Int)=200 by omega),if_pos (.inl h2)];rfl
 rw [fR (show¬(c.list.length:Int)=200 by omega)]
 by_cases h3:c.next_=1000000
 · rw [fM h3,if_pos (.inr h3)];rfl
 rw [fR h3,if_neg (by omega)]
 have e:aA .i64 (c.next_+1)=c.next_+1:=by rw [wi];omega
 simp only [cond_false,bI (show c.list.length<=1048576 by omega),aB,eU (show c.list.length+[(c.next_,x)].length<=1048576 by simp;omega),e]
 rfl
theorem uQ {c:aW} {x:Int×Int} {i:Nat}:(pB c x).list[i]! =if i<c.list.length then c.list[i]! else if i=c.list.length then (c.next_,x) else default:=by
 show (c.list++[(c.next_,x)])[i]! =_
 by_cases h:i<c.list.length
 · rw [if_pos h,jH h]
 · rw [if_neg h,kF (by omega)]
   by_cases e:i=c.list.length
   · rw [if_pos e,e,Nat.sub_self];rfl
   · rw [if_neg e,getElem!_neg _ _ (by simp;omega)]
theorem CP {c:aW} {x:Int×Int}:(pB c x).list.length=c.list.length+1:=by
 show (c.list++[(c.next_,x)]).length=_;simp
theorem UA {c:aW} (ok:dZ c) {x:Int×Int} (hx:jD x) (hn: ¬uP c.list x) (hf: ¬FV c):dZ (pB c x):=by
 have h1:=ok.len;have h2:=ok.n0;have h3:=ok.n1;unfold FV at hf;refine ⟨by rw [CP];omega,by show 0<=c.next_+1;omega,by show c.next_+1<=1000000;omega,?_,?_,?_,?_⟩
 · intro i hi
   rw [CP] at hi;rw [uQ]
   by_cases h:i<c.list.length
   · rw [if_pos h];exact ok.cv i h
   · rw [if_neg h,if_pos (by omega)];exact hx
 · intro i hi
   rw [CP] at hi;rw [uQ];show 0<=_/\_<c.next_+1
   by_cases h:i<c.list.length
   · rw [if_pos h];have:=ok.nr i h;omega
   · rw [if_neg h,if_pos (by omega)];dsimp only;omega
 · intro i j hij hj
   rw [CP] at hj;rw [uQ,uQ,if_pos (by omega)]
   by_cases h:j<c.list.length
   · rw [if_pos h];exact ok.up i j hij h
   · rw [if_neg h,if_pos (by omega)]
     exact (ok.nr i (by omega)).2
 · intro i j hij hj
   rw [CP] at hj;rw [uQ,uQ,if_pos (by omega)]
   by_cases h:j<c.list.length
   · rw [if_pos h];exact ok.nd i j hij h
   · rw [if_neg h,if_pos (by omega)]
     exact fun he=>hn ⟨i,by omega,he⟩
def mQ (c:aW) (k:Nat):aW:=⟨c.next_,c.list.eraseIdx k⟩
theorem V8 {α:Type} {l:List α} {k:Nat} (hk:k<l.length):(l.eraseIdx k).length=l.length-1:=by
 rw [List.length_eraseIdx,if_pos hk]
theorem LG {c:aW} (ok:dZ c) {k:Nat} (hk:k<c.list.length):dZ (mQ c k):=by
 have h1:=ok.len;have len:(mQ c k).list.length=c.list.length-1:=V8 hk;have cell: ∀i,∃j,i<=j/\j<=i+1/\(i<c.list.length-1->j<c.list.length)/\(mQ c k).list[i]! =c.list[j]!/\(i<k->j=i)/\(k<=i->j=i+1):=by
  intro i
  by_cases h:i<k
  · exact ⟨i,by omega,by omega,by omega,by show (c.list.eraseIdx k)[i]! =_;rw [LD,if_pos h],fun _=>rfl,by omega⟩
  · exact ⟨i+1,by omega,by omega,by omega,by show (c.list.eraseIdx k)[i]! =_;rw [LD,if_neg h],by omega,fun _=>rfl⟩
 refine ⟨by omega,ok.n0,ok.n1,?_,?_,?_,?_⟩
 · intro i hi
   obtain ⟨j,j1,j2,j3,j4,j5,j6⟩:=cell i;rw [j4];exact ok.cv j (j3 (by omega))
 · intro i hi
   obtain ⟨j,j1,j2,j3,j4,j5,j6⟩:=cell i;rw [j4];exact ok.nr j (j3 (by omega))
 · intro i i' hij hi
   obtain ⟨j,j1,j2,j3,j4,j5,j6⟩:=cell i;obtain ⟨m,m1,m2,m3,m4,m5,m6⟩:=cell i';rw [j4,m4];exact ok.up j m (by omega) (m3 (by omega))
 · intro i i' hij hi
   obtain ⟨j,j1,j2,j3,j4,j5,j6⟩:=cell i;obtain ⟨m,m1,m2,m3,m4,m5,m6⟩:=cell i';rw [j4,m4];exact ok.nd j m (by omega) (m3 (by omega))
theorem LH {c:aW} (ok:dZ c) {k:Nat} (hk:k<c.list.length) {n:Int} (hn:(c.list[k]!).1=n):rR c n=some (mQ c k,(c.list[k]!).2,0):=by
 have h1:=ok.len;unfold rR GR;obtain ⟨L,d1,d2⟩:=HP c.list k hk;rw [wQ,if_pos ok,(IT c.list n (by omega) ok.up).1 k hk hn]
 simp only [aB,show ((0:Int) !=0)=false from rfl,cond_false,Bool.not_true,bI (show c.list.length<=1048576 by omega),bD (show k<1000000000 by omega),d1,aC c.list k hk,d2]
 rfl
theorem OV {l:List sH} {k:Nat} (hk:k<l.length) (hs: ∀i j,i<j->j<l.length->(l[i]!).1<(l[j]!).1) {n:Int} (hn:(l[k]!).1=n):l.filter (fun x=>x.1 !=n)=l.eraseIdx k:=by
 rw [uO];have e:l.filter (fun x=>x.1 !=n)=(l.take k++l[k]!::l.drop (k+1)).filter (fun x=>x.1 !=n):=congrArg _ (aAp hk)
 rw [e,List.filter_append,List.filter_cons_of_neg (by rw [hn];simp)]
 congr 1
 · rw [List.filter_eq_self]
   intro x hx;obtain ⟨i,h1,h2,rfl⟩:=cT.1 hx
   have:=hs i k h1 hk
   exact eS (by omega)
 · rw [List.filter_eq_self]
   intro x hx;obtain ⟨i,h1,rfl⟩:=aY.1 hx;rw [List.length_drop] at h1;rw [tP]
   have:=hs k (k+1+i) (by omega) (by omega)
   exact eS (by omega)
theorem G1 {c:aW} (ok:dZ c) {k:Nat} (hk:k<c.list.length) {n:Int} (hn:(c.list[k]!).1=n):wI c n=some (mQ c k):=by
 have h1:=ok.len;unfold wI;have key:=eG (body:=kE) (fun i=>(n,(i:Int),c.next_,c.list,0,c.next_,(c.list.take i).filter (fun x=>x.1 !=n))) c.list.length (fun i hi=>by
  have e1:decide ((i:Int)<(c.list.length:Int))=true:=aR (by omega)
  have nx:(c.list.take (i+1)).filter (fun x=>x.1 !=n)=(c.list.take i).filter (fun x=>x.1 !=n)++(if (c.list[i]!).1 !=n then [c.list[i]!] else []):=by
   rw [kH hi,List.filter_append,List.filter_cons,List.filter_nil]
  have fl:((c.list.take i).filter (fun x=>x.1 !=n)).length<=200:=Nat.le_trans (List.length_filter_le _ _) (by rw [List.length_take];omega)
  unfold kE;simp only [aE,e1,cond_true,aC c.list i hi,aB,bD (show i<1000000000 by omega),nx]
  by_cases h:(c.list[i]!).1=n
  · rw [bX h];simp
  · rw [eS h]
    simp only [cond_true,if_true,eU (show ((c.list.take i).filter (fun x=>x.1 !=n)).length+[c.list[i]!].length<=1048576 by simp only [List.length_cons,List.length_nil];omega),aB])
 have fin:kE (n,(c.list.length:Int),c.next_,c.list,0,c.next_,(c.list.take c.list.length).filter (fun x=>x.1 !=n))=some (.done (mQ c k)):=by
  unfold kE
  have:decide ((c.list.length:Int)<(c.list.length:Int))=false:=aM (by omega)
  simp only [aE,this,cond_false,List.take_length];rw [OV hk ok.up hn];rfl
 refine Eq.trans ?_ (aO fin);exact key
end Go.Proofs.YtfejhjllooomlaaGreat
namespace Go.Proofs.YtfejhjllooomlaaGreat
open Go.Vm Classical
def tK (l:List Pt) (id:Int):Prop:= ∃k,k<l.length/\(l[k]!).1=id
noncomputable def fU (l:List Pt) (id:Int):Pt:=if h:tK l id then l[h.choose]! else (-1,0,0)
theorem IU {l:List Pt} (hs:lA l) {k:Nat} (hk:k<l.length) {id:Int} (h:(l[k]!).1=id):fU l id=l[k]!:=by
 have hp:tK l id:=⟨k,hk,h⟩;unfold fU;rw [dif_pos hp]
 have:=hp.choose_spec
 rw [KV hs this.1 hk (by rw [this.2,h])]
theorem eN {l:List Pt} (ok:fO l) {id:Int} (h:tK l id):fS (fU l id)/\(fU l id).1=id:=by
 obtain ⟨k,hk,he⟩:=h;rw [IU ok.2.2 hk he];exact ⟨ok.2.1 _ (bL hk),he⟩
theorem G2 {l:List Pt} {id:Int} (h: ¬tK l id):fU l id=(-1,0,0):=by unfold fU;rw [dif_neg h]
theorem mG {l:List Pt} (ok:fO l) (id:Int):jB ⟨l⟩ id=some (fU l id):=by
 have h1:=ok.1;have bs:=IT l id (by omega) (fun i j=>tQ ok.2.2)
 unfold jB;dsimp only;rw [aAG]
 by_cases h:tK l id
 · obtain ⟨k,hk,he⟩:=h
   rw [bs.1 k hk he];simp only [aB,Bool.not_true,cond_false,aC l k hk,IU ok.2.2 hk he]
 · obtain ⟨m,m1,m2,m3,e⟩:=bs.2 (fun k hk he=>h ⟨k,hk,he⟩)
   rw [e,G2 h];rfl
theorem EC {l:List Pt} (ok:fO l) {id:Int} (h:tK l id): ∃k,k<l.length/\iJ ⟨l⟩ id=some (k:Int)/\l[k]! =fU l id:=by
 have h1:=ok.1;obtain ⟨k,hk,he⟩:=h;exact ⟨k,hk,XQ ok.2.2 (by omega) hk he,(IU ok.2.2 hk he).symm⟩
theorem UB {l:List Pt} (ok:fO l) {id:Int} (h: ¬tK l id):iJ ⟨l⟩ id=some (-1):=by
 have h1:=ok.1;exact aGw (by omega) fun k hk he=>h ⟨k,hk,he⟩
def lI (l:List Pt) (x:Int×Int):Prop:=tK l x.1/\tK l x.2
noncomputable def bG (l:List Pt) (x t:Int×Int):(Int×Int)×Bool:=lH (fU l x.2) (fU l x.1) t
theorem wR {l:List Pt} (ok:fO l) {x t:Int×Int} (hx:jD x) (ht:bF t) (h64:lO t):
 pU ⟨l⟩ x t=some (if lI l x then ((bG l x t).1,(bG l x t).2,0) else ((0,0),false,8)):=by
 unfold pU;rw [mG ok,mG ok];simp only [aB,IC h64];have bad: ¬fS (-1,0,0):=by unfold fS;dsimp only;omega
 by_cases h1:tK l x.1
 · by_cases h2:tK l x.2
   · obtain ⟨p1,p2⟩:=eN ok h1
     obtain ⟨q1,q2⟩:=eN ok h2;rw [if_pos ⟨q1,p1,ht,by rw [p2,q2];exact fun h=>hx.2.2.2.2 h.symm⟩,if_pos ⟨h1,h2⟩]
     rfl
   · rw [G2 h2,if_neg (fun h=>bad h.1),if_neg (fun h=>bad h.1),if_neg (fun h=>h2 h.2)]
 · rw [G2 h1,if_neg (fun h=>bad h.2.1),if_neg (fun h=>bad h.2.1),if_neg (fun h=>h1 h.1)]
theorem wS {l:List Pt} (ok:fO l) {x t:Int×Int} (h64:lO t) (hb:lI l x):pX ⟨l⟩ x t=some (bG l x t):=by
 obtain ⟨h1,h2⟩:=hb;obtain ⟨j,j1,j2,j3⟩:=EC ok h1;obtain ⟨k,k1,k2,k3⟩:=EC ok h2;unfold pX;simp only [j2,k2,aB,aC l j j1,aC l k k1,j3,k3,T1 (eN ok h2).1 (eN ok h1).1 h64];rfl
theorem aAH (c:aW) {l:List Pt} (ok:fO l) (hl:c.list.length<=200):vL c ⟨l⟩=some (decide (∀i,i<c.list.length->lI l (c.list[i]!).2)):=by
 unfold vL;have key:=dA (body:=oT) (fun i=>((i:Int),c.next_,c.list,l)) c.list.length (fun i=> ¬lI l (c.list[i]!).2) (r:=false) (e:=true) (fun i hi=>by
  have e1:decide ((i:Int)<(c.list.length:Int))=true:=aR (by omega)
  unfold oT lI;simp only [aE,e1,cond_true,aC c.list i hi,aB,bD (show i<1000000000 by omega)]
  by_cases h1:tK l (c.list[i]!).2.1
  · obtain ⟨k,k1,k2,_⟩:=EC ok h1
    rw [k2];simp only [aB,aM (show¬(k:Int)<0 by omega),cond_false]
    by_cases h2:tK l (c.list[i]!).2.2
    · obtain ⟨j,j1,j2,_⟩:=EC ok h2
      rw [j2];simp only [aB,aM (show¬(j:Int)<0 by omega),cond_false]
      exact ⟨fun h=>absurd ⟨h1,h2⟩ h,fun _=>trivial⟩
    · rw [UB ok h2]
      exact ⟨fun _=>rfl,fun h=>absurd (Classical.not_not.1 h).2 h2⟩
  · rw [UB ok h1]
    exact ⟨fun _=>rfl,fun h=>absurd (Classical.not_not.1 h).1 h1⟩) (by
  unfold oT
  have:decide ((c.list.length:Int)<(c.list.length:Int))=false:=aM (by omega)
  simp only [aE,this,cond_false])
 by_cases hx: ∀i,i<c.list.length->lI l (c.list[i]!).2
 · rw [aR hx];exact key.2 fun i hi=>Classical.not_not.2 (hx i hi)
 · rw [aM hx]
   obtain ⟨i,h⟩:=Classical.not_forall.1 hx;obtain ⟨hi,hx⟩:=Classical.not_imp.1 h;exact key.1 ⟨i,hi,hx⟩
def aX (l:List Pt) (t:Int×Int) (H:List Ev):List sH->List sH->Prop
 | [],ds=>ds=[]
 |x::cs,ds=>((bG l x.2 t).2=true-> ∃d ds',ds=d::ds'/\d.1=x.1/\((bG l x.2 t).1.1,(bG l x.2 t).1.2,x.1,d.2)∈H/\aX l t H cs ds')/\((bG l x.2 t).2=false->aX l t H cs ds)
structure aZ (c:aH):Prop where
 nowv:bF c.now
 now64:lO c.now
 fld:fO c.field.points
 crt:dZ c.certs
 agd:eB c.agenda
 w200:c.agenda.where_.length=200
 hd:c.agenda.heap.length=c.due.length
 known: ∀i,i<c.certs.list.length->lI c.field.points (c.certs.list[i]!).2
 fol:aX c.field.points c.now c.agenda.heap c.certs.list c.due
structure xS (c:aH):Prop where
 now64:lO c.now
 ag:BP c.agenda
 du:c.due.length<=1000000
theorem aHj {a:aG} (ok:eB a) (w2:a.where_.length=200) (t:Int×Int) (n:Int) (h:Int×Int):
 (0<=h.1/\h.1<200/\0<=a.where_[h.1.toNat]!/\a.heap[(a.where_[h.1.toNat]!).toNat]! =(t.1,t.2,n,h))↔((t.1,t.2,n,h):Ev)∈a.heap:=by
 have wl:=ok.wl;have hu:=ok.so.ul;constructor
 · rintro ⟨h1,h2,h3,h4⟩
   cases hb:a.slots.used[h.1.toNat]! with
   |false=>
    have:=ok.un h.1.toNat (by omega) hb
    omega
   |true=>
    have:=ok.fwd h.1.toNat (by omega) hb
    rw [<- h4];exact bL (by omega)
 · intro hm
   obtain ⟨w,hw,he⟩:=aY.1 hm;obtain ⟨b1,b2,b3,b4,b5⟩:=ok.back hw;have e:Ev.ix a.heap[w]! =h.1:=by rw [he]
   have e2:Ev.n a.heap[w]! =h.1.toNat:=by rw [he]
   rw [e] at b1 b2;rw [e2] at b5;refine ⟨b1,by omega,by omega,?_⟩
   rw [b5,Int.toNat_natCast,he]
theorem aAI {a:aG} (ok:eB a) {i:Nat} (hi:i<a.slots.uses.length) (h:0<=a.where_[i]!):a.where_[i]!<a.heap.length:=by
 cases hb:a.slots.used[i]! with
 |false=>have:=ok.un i hi hb;omega
 |true=>exact (ok.fwd i hi hb).2.1
theorem tR {α:Type} [Inhabited α] {l:List α} {i:Nat} (h:i<l.length):l.drop i=l[i]!::l.drop (i+1):=by
 rw [getElem!_pos l i h];exact List.drop_eq_getElem_cons h
theorem R3 {c:aH} (nowv:bF c.now) (now64:lO c.now) (fld:fO c.field.points) (crt:dZ c.certs) (agd:eB c.agenda) (w2:c.agenda.where_.length=200):
 ∀(d i:Nat) (ds:List sH),c.certs.list.length-i<=d->i<=c.certs.list.length->ds.length<=1000000->
  aJ cE (ds,c.certs.list,(c.certs.list.length:Int),(i:Int),c.now.1,c.now.2,c.field.points,c.certs.next_,c.certs.list,c.agenda.slots.uses,c.agenda.slots.used,c.agenda.slots.free,c.agenda.heap,c.agenda.where_,c.due)=
   some (.done (if (∀j,i<=j->j<c.certs.list.length->lI c.field.points (c.certs.list[j]!).2)/\aX c.field.points c.now c.agenda.heap (c.certs.list.drop i) ds then 0 else 8)):=by
 have hl:=crt.len;have wl:=agd.wl;have fin: ∀(ds:List sH),aJ cE (ds,c.certs.list,(c.certs.list.length:Int),(c.certs.list.length:Int),c.now.1,c.now.2,c.field.points,c.certs.next_,c.certs.list,c.agenda.slots.uses,c.agenda.slots.used,c.agenda.slots.free,c.agenda.heap,c.agenda.where_,c.due)=some (.done (if ds=[] then 0 else 8)):=by
  intro ds;refine aO ?_;unfold cE;have e1:decide ((c.certs.list.length:Int)<(c.certs.list.length:Int))=false:=aM (by omega)
  simp only [aE,e1,cond_false];cases ds with
  |nil=>rw [aM (by simp),if_pos rfl];rfl
  |cons d ds=>rw [aR (by simp),if_neg (by simp)];rfl
 intro d
 induction d with
 |zero=>
  intro i ds hd hi hds
  have:i=c.certs.list.length:=by omega
  subst this;rw [fin ds,List.drop_length]
  have:((∀j,c.certs.list.length<=j->j<c.certs.list.length->lI c.field.points (c.certs.list[j]!).2)/\aX c.field.points c.now c.agenda.heap [] ds)↔ds=[]:=⟨fun h=>h.2,fun h=>⟨fun j h1 h2=>by omega,h⟩⟩
  by_cases h:ds=[]
  · rw [if_pos h,if_pos (this.2 h)]
  · rw [if_neg h,if_neg (fun k=>h (this.1 k))]
 |succ d ih=>
  intro i ds hd hi hds
  by_cases he:i=c.certs.list.length
  · subst he
    rw [fin ds,List.drop_length]
    have:((∀j,c.certs.list.length<=j->j<c.certs.list.length->lI c.field.points (c.certs.list[j]!).2)/\aX c.field.points c.now c.agenda.heap [] ds)↔ds=[]:=⟨fun h=>h.2,fun h=>⟨fun j h1 h2=>by omega,h⟩⟩
    by_cases h:ds=[]
    · rw [if_pos h,if_pos (this.2 h)]
    · rw [if_neg h,if_neg (fun k=>h (this.1 k))]
  have hi':i<c.certs.list.length:=by omega
  have e1:decide ((i:Int)<(c.certs.list.length:Int))=true:=aR (by omega)
  have hw:=wR fld (x:=(c.certs.list[i]!).2) (t:=(c.now.1,c.now.2)) (crt.cv i hi') nowv now64;have dr:=tR hi';have all:(∀j,i<=j->j<c.certs.list.length->lI c.field.points (c.certs.list[j]!).2)↔(lI c.field.points (c.certs.list[i]!).2/\ ∀j,i+1<=j->j<c.certs.list.length->lI c.field.points (c.certs.list[j]!).2):=by
   constructor
   · intro h;exact ⟨h i (Nat.le_refl _) hi',fun j h1 h2=>h j (by omega) h2⟩
   · rintro ⟨h1,h2⟩ j h3 h4
     by_cases e:j=i
     · rw [e];exact h1
     · exact h2 j (by omega) h4
  have sc:=bD (show i<1000000000 by omega)
  by_cases hb:lI c.field.points (c.certs.list[i]!).2
  case neg=>
   rw [if_neg (fun h=>hb (all.1 h.1).1)]
   refine aO ?_;unfold cE;simp only [e1,cond_true,aC c.certs.list i hi',aB,hw,if_neg hb];rfl
  rw [if_pos hb] at hw
  by_cases is:(bG c.field.points (c.certs.list[i]!).2 c.now).2=true
  case neg=>
   have is':(bG c.field.points (c.certs.list[i]!).2 c.now).2=false:=by simpa using is
   rw [bC (y:=(ds,c.certs.list,(c.certs.list.length:Int),((i+1:Nat):Int),c.now.1,c.now.2,c.field.points,c.certs.next_,c.certs.list,c.agenda.slots.uses,c.agenda.slots.used,c.agenda.slots.free,c.agenda.heap,c.agenda.where_,c.due)) (by
    unfold cE;simp only [e1,cond_true,aC c.certs.list i hi',aB,hw,sc,is',show ((0:Int) !=0)=false from rfl,cond_false,Bool.not_false]),ih (i+1) ds (by omega) (by omega) hds]
   have same:((∀j,i<=j->j<c.certs.list.length->lI c.field.points (c.certs.list[j]!).2)/\aX c.field.points c.now c.agenda.heap (c.certs.list.drop i) ds)↔((∀j,i+1<=j->j<c.certs.list.length->lI c.field.points (c.certs.list[j]!).2)/\aX c.field.points c.now c.agenda.heap (c.certs.list.drop (i+1)) ds):=by
    rw [dr,all];constructor
    · rintro ⟨⟨_,h1⟩,h2⟩;exact ⟨h1,h2.2 is'⟩
    · rintro ⟨h1,h2⟩;exact ⟨⟨hb,h1⟩,fun h=>absurd h is,fun _=>h2⟩
   simp only [same]
  have stop:(¬((∀j,i<=j->j<c.certs.list.length->lI c.field.points (c.certs.list[j]!).2)/\aX c.field.points c.now c.agenda.heap (c.certs.list.drop i) ds))->cE (ds,c.certs.list,(c.certs.list.length:Int),(i:Int),c.now.1,c.now.2,c.field.points,c.certs.next_,c.certs.list,c.agenda.slots.uses,c.agenda.slots.used,c.agenda.slots.free,c.agenda.heap,c.agenda.where_,c.due)=some (.done (.done 8))->aJ cE (ds,c.certs.list,(c.certs.list.length:Int),(i:Int),c.now.1,c.now.2,c.field.points,c.certs.next_,c.certs.list,c.agenda.slots.uses,c.agenda.slots.used,c.agenda.slots.free,c.agenda.heap,c.agenda.where_,c.due)=
   some (.done (if (∀j,i<=j->j<c.certs.list.length->lI c.field.points (c.certs.list[j]!).2)/\aX c.field.points c.now c.agenda.heap (c.certs.list.drop i) ds then 0 else 8)):=by
   intro h1 h2;rw [if_neg h1];exact aO h2
  cases ds with
  |nil=>
   refine stop (fun h=>?_) ?_
   · rw [dr] at h
     obtain ⟨d,ds',h1,_⟩:=h.2.1 is;cases h1
   · unfold cE
     simp only [e1,cond_true,aC c.certs.list i hi',aB,hw,is,show ((0:Int) !=0)=false from rfl,cond_false,Bool.not_true];rfl
  |cons d0 ds=>
   have l0:((((d0::ds).length:Nat):Int)==0)=false:=fR (by simp;omega)
   have g0:aL (d0::ds) 0=some d0:=rfl
   have fol: ∀P:Prop,(P↔d0.1=(c.certs.list[i]!).1/\(((bG c.field.points (c.certs.list[i]!).2 c.now).1.1,(bG c.field.points (c.certs.list[i]!).2 c.now).1.2,(c.certs.list[i]!).1,d0.2):Ev)∈c.agenda.heap)-> ¬P-> ¬((∀j,i<=j->j<c.certs.list.length->lI c.field.points (c.certs.list[j]!).2)/\aX c.field.points c.now c.agenda.heap (c.certs.list.drop i) (d0::ds)):=by
    intro P hP hn h;rw [dr] at h;obtain ⟨d,ds',h1,h2,h3,_⟩:=h.2.1 is;injection h1 with h1 _;subst h1;exact hn (hP.2 ⟨h2,h3⟩)
   by_cases b1:d0.1=(c.certs.list[i]!).1
   case neg=>
    refine stop (fol (d0.1=(c.certs.list[i]!).1/\_) Iff.rfl (fun h=>b1 h.1)) ?_
    unfold cE;simp only [aE,e1,cond_true,aC c.certs.list i hi',aB,hw,is,show ((0:Int) !=0)=false from rfl,cond_false,Bool.not_true,l0,g0,eS b1]
   have ea:=aHj agd w2 (bG c.field.points (c.certs.list[i]!).2 c.now).1 (c.certs.list[i]!).1 d0.2
   by_cases b2:d0.2.1<0
   · refine stop (fol (d0.1=(c.certs.list[i]!).1/\_) Iff.rfl (fun h=>by have:=(ea.2 h.2).1;omega)) ?_
     unfold cE;simp only [aE,e1,cond_true,aC c.certs.list i hi',aB,hw,is,show ((0:Int) !=0)=false from rfl,cond_false,Bool.not_true,l0,g0,bX b1,aR b2]
   by_cases b3:200<=d0.2.1
   · refine stop (fol (d0.1=(c.certs.list[i]!).1/\_) Iff.rfl (fun h=>by have:=(ea.2 h.2).2.1;omega)) ?_
     unfold cE;simp only [aE,e1,cond_true,aC c.certs.list i hi',aB,hw,is,show ((0:Int) !=0)=false from rfl,cond_false,Bool.not_true,l0,g0,bX b1,aM b2,aR b3]
   have gw:=dF (l:=c.agenda.where_) (i:=d0.2.1) (by omega) (by omega)
   by_cases b4:c.agenda.where_[d0.2.1.toNat]!<0
   · refine stop (fol (d0.1=(c.certs.list[i]!).1/\_) Iff.rfl (fun h=>by have:=(ea.2 h.2).2.2.1;omega)) ?_
     unfold cE;simp only [aE,e1,cond_true,aC c.certs.list i hi',aB,hw,is,show ((0:Int) !=0)=false from rfl,cond_false,Bool.not_true,l0,g0,bX b1,aM b2,aM b3,gw,aR b4]
   have gh:=dF (l:=c.agenda.heap) (i:=c.agenda.where_[d0.2.1.toNat]!) (by omega) (aAI agd (by omega) (by omega))
   have sl:iP (d0::ds) 1 ((((d0::ds).length:Nat):Int))=some ds:=by
    unfold iP;rw [if_pos ⟨by omega,by simp;omega,by omega⟩]
    simp
   have evq: ∀(e:Ev) (p:Int×Int) (n:Int) (h:Int×Int),((e.1==p.1)&&((e.2.1==p.2)&&((e.2.2.1==n)&&((e.2.2.2.1==h.1)&&(e.2.2.2.2==h.2)))))=decide (e=(p.1,p.2,n,h)):=by
    intro e p n h;rw [Bool.eq_iff_iff,decide_eq_true_iff];simp only [Bool.and_eq_true,beq_iff_eq];constructor
    · rintro ⟨h1,h2,h3,h4,h5⟩
      exact Prod.ext h1 (Prod.ext h2 (Prod.ext h3 (Prod.ext h4 h5)))
    · intro h;rw [h];exact ⟨rfl,rfl,rfl,rfl,rfl⟩
   have evq':=evq c.agenda.heap[(c.agenda.where_[d0.2.1.toNat]!).toNat]! (bG c.field.points (c.certs.list[i]!).2 c.now).1 (c.certs.list[i]!).1 d0.2
   by_cases b5:c.agenda.heap[(c.agenda.where_[d0.2.1.toNat]!).toNat]! =((bG c.field.points (c.certs.list[i]!).2 c.now).1.1,(bG c.field.points (c.certs.list[i]!).2 c.now).1.2,(c.certs.list[i]!).1,d0.2)
   case neg=>
    refine stop (fol (d0.1=(c.certs.list[i]!).1/\_) Iff.rfl (fun h=>b5 (ea.2 h.2).2.2.2)) ?_
    unfold cE;simp only [aE,e1,cond_true,aC c.certs.list i hi',aB,hw,is,show ((0:Int) !=0)=false from rfl,cond_false,Bool.not_true,l0,g0,bX b1,aM b2,aM b3,gw,aM b4,gh];rw [evq',aM b5];rfl
   have hmem:=ea.1 ⟨by omega,by omega,by omega,b5⟩
   rw [bC (y:=(ds,c.certs.list,(c.certs.list.length:Int),((i+1:Nat):Int),c.now.1,c.now.2,c.field.points,c.certs.next_,c.certs.list,c.agenda.slots.uses,c.agenda.slots.used,c.agenda.slots.free,c.agenda.heap,c.agenda.where_,c.due)) (by
    unfold cE;simp only [aE,e1,cond_true,aC c.certs.list i hi',aB,hw,is,show ((0:Int) !=0)=false from rfl,cond_false,Bool.not_true,l0,g0,bX b1,aM b2,aM b3,gw,aM b4,gh,sl,sc];rw [evq',aR b5]
    rfl),ih (i+1) ds (by omega) (by omega) (by simp at hds;omega)]
   have same:((∀j,i<=j->j<c.certs.list.length->lI c.field.points (c.certs.list[j]!).2)/\aX c.field.points c.now c.agenda.heap (c.certs.list.drop i) (d0::ds))↔((∀j,i+1<=j->j<c.certs.list.length->lI c.field.points (c.certs.list[j]!).2)/\aX c.field.points c.now c.agenda.heap (c.certs.list.drop (i+1)) ds):=by
    rw [dr,all];constructor
    · rintro ⟨⟨_,h1⟩,h2⟩
      obtain ⟨d,ds',k1,k2,k3,k4⟩:=h2.1 is;injection k1 with k1 k5;subst k5;exact ⟨h1,k4⟩
    · rintro ⟨h1,h2⟩
      exact ⟨⟨hb,h1⟩,fun _=>⟨d0,ds,rfl,b1,hmem,h2⟩,fun h=>by rw [is] at h;cases h⟩
   simp only [same]
end Go.Proofs.YtfejhjllooomlaaGreat
namespace Go.Proofs.YtfejhjllooomlaaGreat
open Go.Vm Classical
theorem aZ.iff {c:aH} (fit:xS c):aZ c↔bF c.now/\fO c.field.points/\dZ c.certs/\eB c.agenda/\c.agenda.where_.length=200/\c.agenda.heap.length=c.due.length/\(∀i,i<c.certs.list.length->lI c.field.points (c.certs.list[i]!).2)/\aX c.field.points c.now c.agenda.heap c.certs.list c.due:=
 ⟨fun h=>⟨h.nowv,h.fld,h.crt,h.agd,h.w200,h.hd,h.known,h.fol⟩,fun ⟨h1,h2,h3,h4,h5,h6,h7,h8⟩=>⟨h1,fit.now64,h2,h3,h4,h5,h6,h7,h8⟩⟩
theorem aZ.fit {c:aH} (ok:aZ c):xS c:=⟨ok.now64,ok.agd.fit,by have:=ok.hd;have:=ok.agd.bd;omega⟩
theorem R4 {c:aH} {n0 n1 n2 n3:Int}:
 aJ eJ (4,0,c.now.1,c.now.2,c.field.points,c.certs.next_,c.certs.list,c.agenda.slots.uses,c.agenda.slots.used,c.agenda.slots.free,c.agenda.heap,c.agenda.where_,c.due,[n0,n1,n2,n3])=
  if n0=0/\n1=0/\n2=0/\n3=0 then aJ eJ (4,4,c.now.1,c.now.2,c.field.points,c.certs.next_,c.certs.list,c.agenda.slots.uses,c.agenda.slots.used,c.agenda.slots.free,c.agenda.heap,c.agenda.where_,c.due,[n0,n1,n2,n3]) else some 8:=by
 have st: ∀(i:Nat) (n:Int),i<4->aL [n0,n1,n2,n3] (i:Int)=some n->aJ eJ (4,(i:Int),c.now.1,c.now.2,c.field.points,c.certs.next_,c.certs.list,c.agenda.slots.uses,c.agenda.slots.used,c.agenda.slots.free,c.agenda.heap,c.agenda.where_,c.due,[n0,n1,n2,n3])=
  if n=0 then aJ eJ (4,((i+1:Nat):Int),c.now.1,c.now.2,c.field.points,c.certs.next_,c.certs.list,c.agenda.slots.uses,c.agenda.slots.used,c.agenda.slots.free,c.agenda.heap,c.agenda.where_,c.due,[n0,n1,n2,n3]) else some 8:=by
  intro i n hi hg;have e1:decide ((i:Int)<4)=true:=aR (by omega)
  by_cases h:n=0
  · rw [if_pos h]
    refine bC ?_;unfold eJ;simp only [e1,cond_true,hg,aB,bX h,cond_false,bD (show i<1000000000 by omega)]
  · rw [if_neg h]
    refine aO ?_;unfold eJ;simp only [e1,cond_true,hg,aB,eS h]
 have s0:=st 0 n0 (by omega) rfl
 have s1:=st 1 n1 (by omega) rfl
 have s2:=st 2 n2 (by omega) rfl
 have s3:=st 3 n3 (by omega) rfl
 have c0:((0:Nat):Int)=0:=rfl;have c4:((3+1:Nat):Int)=4:=rfl;rw [c0] at s0;rw [c4] at s3;rw [s0]
 by_cases h0:n0=0
 · rw [if_pos h0,show ((0+1:Nat):Int)=((1:Nat):Int) from rfl,s1]
   by_cases h1:n1=0
   · rw [if_pos h1,show ((1+1:Nat):Int)=((2:Nat):Int) from rfl,s2]
     by_cases h2:n2=0
     · rw [if_pos h2,show ((2+1:Nat):Int)=((3:Nat):Int) from rfl,s3]
       by_cases h3:n3=0
       · rw [if_pos h3,if_pos ⟨h0,h1,h2,h3⟩]
       · rw [if_neg h3,if_neg (fun h=>h3 h.2.2.2)]
     · rw [if_neg h2,if_neg (fun h=>h2 h.2.2.1)]
   · rw [if_neg h1,if_neg (fun h=>h1 h.2.1)]
 · rw [if_neg h0,if_neg (fun h=>h0 h.1)]
theorem mH {c:aH} (fit:xS c):hY c=some (if aZ c then 0 else 8):=by
 unfold hY;rw [eL fit.now64,uN,wQ,iU _ fit.ag];simp only [aB];have h4:Int.ofNat [if bF c.now then (0:Int) else 8,uM c.field.points,if dZ c.certs then (0:Int) else 8,if eB c.agenda then (0:Int) else 8].length=4:=rfl
 rw [h4,R4];have z: ∀(p:Prop) [Decidable p],(if p then (0:Int) else 8)=0↔p:=fun p _=>by by_cases h:p<;>simp [h]
 simp only [z,sG];have f1:=aZ.iff fit
 by_cases ok:bF c.now/\fO c.field.points/\dZ c.certs/\eB c.agenda
 case neg=>rw [if_neg ok,if_neg (c:=aZ c) (fun h=>ok ⟨h.nowv,h.fld,h.crt,h.agd⟩)]
 obtain ⟨nowv,fld,crt,agd⟩:=ok;rw [if_pos ⟨nowv,fld,crt,agd⟩]
 by_cases w2:c.agenda.where_.length=200
 case neg=>
  rw [if_neg (c:=aZ c) (fun h=>w2 h.w200)]
  refine aO ?_;unfold eJ;simp only [aE,aM (show¬(4:Int)<4 by omega),cond_false,eS (show¬(c.agenda.where_.length:Int)=200 by omega),cond_true]
 by_cases hd:c.agenda.heap.length=c.due.length
 case neg=>
  rw [if_neg (c:=aZ c) (fun h=>hd h.hd)]
  refine aO ?_;unfold eJ;simp only [aE,aM (show¬(4:Int)<4 by omega),cond_false,bX (show (c.agenda.where_.length:Int)=200 by omega),eS (show¬(c.agenda.heap.length:Int)=(c.due.length:Int) by omega),cond_true]
 have run:=R3 nowv fit.now64 fld crt agd w2 c.certs.list.length 0 c.due (by omega) (by omega) fit.du
 rw [List.drop_zero] at run;have same:((∀j,0<=j->j<c.certs.list.length->lI c.field.points (c.certs.list[j]!).2)/\aX c.field.points c.now c.agenda.heap c.certs.list c.due)↔aZ c:=by
  rw [f1];constructor
  · rintro ⟨h1,h2⟩;exact ⟨nowv,fld,crt,agd,w2,hd,fun i hi=>h1 i (by omega) hi,h2⟩
  · rintro ⟨_,_,_,_,_,_,h1,h2⟩;exact ⟨fun j _ hj=>h1 j hj,h2⟩
 simp only [same] at run;refine aO ?_;unfold eJ;simp only [aE,aM (show¬(4:Int)<4 by omega),cond_false,bX (show (c.agenda.where_.length:Int)=200 by omega),bX (show (c.agenda.heap.length:Int)=(c.due.length:Int) by omega)]
 exact run
theorem aGz {a:aG} (ok:eB a) (h:Int×Int):uG a h=some (if vT a.slots h then (a.heap[(a.where_[h.1.toNat]!).toNat]!,0) else ((0,0,0,0,0),6)):=by
 unfold uG;rw [BQ a ok.fit,if_pos ok,V5 ok.so];simp only [aB,show ((0:Int) !=0)=false from rfl,cond_false]
 by_cases lv:vT a.slots h
 · obtain ⟨i,hi,hw,hh⟩:=ok.live lv
   have:=lv.1;have:=lv.2.1;have:=ok.wl
   rw [aR lv,if_pos lv,dF (l:=a.where_) lv.1 (by omega),hw]
   simp only [Bool.not_true,cond_false,aB,aC a.heap i hi,Int.toNat_natCast]
 · rw [aM lv,if_neg lv];rfl
theorem R5 {c:aH} (now64:lO c.now) (fld:fO c.field.points) (crt:dZ c.certs) (agd:eB c.agenda) (w2:c.agenda.where_.length=200) (hdu:c.due.length<=1000000)
 (kn: ∀i,i<c.certs.list.length->lI c.field.points (c.certs.list[i]!).2):
 ∀(d i k:Nat),c.certs.list.length-i<=d->i<=c.certs.list.length->k<=c.due.length->
  aJ cY ((k:Int),(i:Int),c.now.1,c.now.2,c.field.points,c.certs.next_,c.certs.list,c.agenda.slots.uses,c.agenda.slots.used,c.agenda.slots.free,c.agenda.heap,c.agenda.where_,c.due)=
   some (if aX c.field.points c.now c.agenda.heap (c.certs.list.drop i) (c.due.drop k) then 0 else 8):=by
 have hl:=crt.len;have wl:=agd.wl
 have fin: ∀k:Nat,k<=c.due.length->aJ cY ((k:Int),(c.certs.list.length:Int),c.now.1,c.now.2,c.field.points,c.certs.next_,c.certs.list,c.agenda.slots.uses,c.agenda.slots.used,c.agenda.slots.free,c.agenda.heap,c.agenda.where_,c.due)=some (if aX c.field.points c.now c.agenda.heap (c.certs.list.drop c.certs.list.length) (c.due.drop k) then 0 else 8):=by
  intro k hk;rw [List.drop_length];refine aO ?_;unfold cY;have e1:decide ((c.certs.list.length:Int)<(c.certs.list.length:Int))=false:=aM (by omega)
  simp only [aE,e1,cond_false]
  have:aX c.field.points c.now c.agenda.heap [] (c.due.drop k)↔k=c.due.length:=by
   show c.due.drop k=[]↔_;rw [List.drop_eq_nil_iff];omega
  by_cases h:k=c.due.length
  · rw [if_pos (this.2 h),bX (by omega)];rfl
  · rw [if_neg (fun x=>h (this.1 x)),eS (by omega)];rfl
 intro d
 induction d with
 |zero=>
  intro i k hd hi hk
  have:i=c.certs.list.length:=by omega
  subst this;exact fin k hk
 |succ d ih=>
  intro i k hd hi hk
  by_cases he:i=c.certs.list.length
  · subst he;exact fin k hk
  have hi':i<c.certs.list.length:=by omega
  have e1:decide ((i:Int)<(c.certs.list.length:Int))=true:=aR (by omega)
  have hw:=wS fld (x:=(c.certs.list[i]!).2) (t:=(c.now.1,c.now.2)) now64 (kn i hi');have dr:=tR hi';have sc:=bD (show i<1000000000 by omega)
  have sk:=bD (show k<1000000000 by omega)
  by_cases is:(bG c.field.points (c.certs.list[i]!).2 c.now).2=true
  case neg=>
   have is':(bG c.field.points (c.certs.list[i]!).2 c.now).2=false:=by simpa using is
   rw [bC (y:=((k:Int),((i+1:Nat):Int),c.now.1,c.now.2,c.field.points,c.certs.next_,c.certs.list,c.agenda.slots.uses,c.agenda.slots.used,c.agenda.slots.free,c.agenda.heap,c.agenda.where_,c.due)) (by
    unfold cY;simp only [aE,e1,cond_true,aC c.certs.list i hi',aB,hw,sc,is',Bool.not_false]),ih (i+1) k (by omega) (by omega) hk]
   have same:aX c.field.points c.now c.agenda.heap (c.certs.list.drop i) (c.due.drop k)↔aX c.field.points c.now c.agenda.heap (c.certs.list.drop (i+1)) (c.due.drop k):=by
    rw [dr];exact ⟨fun h=>h.2 is',fun h=>⟨fun h'=>absurd h' is,fun _=>h⟩⟩
   simp only [same]
  have stop:(¬aX c.field.points c.now c.agenda.heap (c.certs.list.drop i) (c.due.drop k))->cY ((k:Int),(i:Int),c.now.1,c.now.2,c.field.points,c.certs.next_,c.certs.list,c.agenda.slots.uses,c.agenda.slots.used,c.agenda.slots.free,c.agenda.heap,c.agenda.where_,c.due)=some (.done 8)->
   aJ cY ((k:Int),(i:Int),c.now.1,c.now.2,c.field.points,c.certs.next_,c.certs.list,c.agenda.slots.uses,c.agenda.slots.used,c.agenda.slots.free,c.agenda.heap,c.agenda.where_,c.due)=some (if aX c.field.points c.now c.agenda.heap (c.certs.list.drop i) (c.due.drop k) then 0 else 8):=by
   intro h1 h2;rw [if_neg h1];exact aO h2
  by_cases hkl:k=c.due.length
  · refine stop (fun h=>?_) ?_
    · rw [dr] at h
      obtain ⟨d,ds',h1,_⟩:=h.1 is;rw [hkl,List.drop_length] at h1;cases h1
    · unfold cY
      simp only [aE,e1,cond_true,aC c.certs.list i hi',aB,hw,is,Bool.not_true,cond_false,aR (show (c.due.length:Int)<=(k:Int) by omega)]
  have hk':k<c.due.length:=by omega
  have dk:=tR hk';have e2:decide ((c.due.length:Int)<=(k:Int))=false:=aM (by omega)
  have fol: ¬((c.due[k]!).1=(c.certs.list[i]!).1/\(((bG c.field.points (c.certs.list[i]!).2 c.now).1.1,(bG c.field.points (c.certs.list[i]!).2 c.now).1.2,(c.certs.list[i]!).1,(c.due[k]!).2):Ev)∈c.agenda.heap)-> ¬aX c.field.points c.now c.agenda.heap (c.certs.list.drop i) (c.due.drop k):=by
   intro hn h;rw [dr,dk] at h;obtain ⟨d,ds',h1,h2,h3,_⟩:=h.1 is;injection h1 with h1 _;subst h1;exact hn ⟨h2,h3⟩
  by_cases b1:(c.due[k]!).1=(c.certs.list[i]!).1
  case neg=>
   refine stop (fol (fun h=>b1 h.1)) ?_
   unfold cY;simp only [aE,e1,cond_true,aC c.certs.list i hi',aB,hw,is,Bool.not_true,cond_false,e2,aC c.due k hk',eS b1]
  have fi:=aGz agd (c.due[k]!).2;have ea:=aHj agd w2 (bG c.field.points (c.certs.list[i]!).2 c.now).1 (c.certs.list[i]!).1 (c.due[k]!).2;have fi':uG (aG.mk (aS.mk c.agenda.slots.uses c.agenda.slots.used c.agenda.slots.free) c.agenda.heap c.agenda.where_) (c.due[k]!).2=_:=fi
  by_cases lv:vT c.agenda.slots (c.due[k]!).2
  case neg=>
   rw [if_neg lv] at fi';refine stop (fol (fun h=>lv ?_)) ?_
   · obtain ⟨w,hw',hev⟩:=aY.1 h.2
     have:=(agd.handle hw').1
     rwa [hev] at this
   · unfold cY
     simp only [aE,e1,cond_true,aC c.certs.list i hi',aB,hw,is,Bool.not_true,cond_false,e2,aC c.due k hk',bX b1,fi',show ((6:Int) !=0)=true from rfl]
  rw [if_pos lv] at fi';obtain ⟨w,hw1,hw2,hw3⟩:=agd.live lv;rw [hw2,Int.toNat_natCast] at fi';have q1:(0<=(c.due[k]!).2.1/\(c.due[k]!).2.1<200/\0<=c.agenda.where_[(c.due[k]!).2.1.toNat]!):=⟨lv.1,by have:=lv.2.1;omega,by rw [hw2];omega⟩
  by_cases b2:(c.agenda.heap[w]!).2.2.1=(c.certs.list[i]!).1
  case neg=>
   refine stop (fol (fun h=>b2 ?_)) ?_
   · have:=(ea.2 h.2).2.2.2
     rw [hw2,Int.toNat_natCast] at this;rw [this]
   · unfold cY
     simp only [aE,e1,cond_true,aC c.certs.list i hi',aB,hw,is,Bool.not_true,cond_false,e2,aC c.due k hk',bX b1,fi',show ((0:Int) !=0)=false from rfl,eS b2]
  have teq:((c.agenda.heap[w]!).1==(bG c.field.points (c.certs.list[i]!).2 c.now).1.1&&(c.agenda.heap[w]!).2.1==(bG c.field.points (c.certs.list[i]!).2 c.now).1.2)=decide (((c.agenda.heap[w]!).1,(c.agenda.heap[w]!).2.1)=(bG c.field.points (c.certs.list[i]!).2 c.now).1):=by
   rw [Bool.eq_iff_iff,decide_eq_true_iff];simp only [Bool.and_eq_true,beq_iff_eq];constructor
   · rintro ⟨h1,h2⟩;exact Prod.ext h1 h2
   · intro h;rw [<- h];exact ⟨rfl,rfl⟩
  by_cases b3:((c.agenda.heap[w]!).1,(c.agenda.heap[w]!).2.1)=(bG c.field.points (c.certs.list[i]!).2 c.now).1
  case neg=>
   refine stop (fol (fun h=>b3 ?_)) ?_
   · have:=(ea.2 h.2).2.2.2
     rw [hw2,Int.toNat_natCast] at this;rw [this]
   · unfold cY
     simp only [aE,e1,cond_true,aC c.certs.list i hi',aB,hw,is,Bool.not_true,cond_false,e2,aC c.due k hk',bX b1,fi',show ((0:Int) !=0)=false from rfl,bX b2];rw [teq,aM b3];rfl
  have hmem:=ea.1 ⟨q1.1,q1.2.1,q1.2.2,by
   rw [hw2,Int.toNat_natCast];have t1:=congrArg Prod.fst b3;have t2:=congrArg Prod.snd b3;exact Prod.ext t1 (Prod.ext t2 (Prod.ext b2 hw3))⟩
  rw [bC (y:=(((k+1:Nat):Int),((i+1:Nat):Int),c.now.1,c.now.2,c.field.points,c.certs.next_,c.certs.list,c.agenda.slots.uses,c.agenda.slots.used,c.agenda.slots.free,c.agenda.heap,c.agenda.where_,c.due)) (by
   unfold cY;simp only [aE,e1,cond_true,aC c.certs.list i hi',aB,hw,is,Bool.not_true,cond_false,e2,aC c.due k hk',bX b1,fi',show ((0:Int) !=0)=false from rfl,bX b2,sc,sk];rw [teq,aR b3]
   rfl),ih (i+1) (k+1) (by omega) (by omega) (by omega)]
  have same:aX c.field.points c.now c.agenda.heap (c.certs.list.drop i) (c.due.drop k)↔aX c.field.points c.now c.agenda.heap (c.certs.list.drop (i+1)) (c.due.drop (k+1)):=by
   rw [dr,dk];constructor
   · intro h2
     obtain ⟨d,ds',k1,k2,k3,k4⟩:=h2.1 is;injection k1 with k1 k5;subst k5;exact k4
   · intro h2
     exact ⟨fun _=>⟨_,_,rfl,b1,hmem,h2⟩,fun h=>by rw [is] at h;cases h⟩
  simp only [same]
theorem LJ {c:aH} (fit:xS c):vN c=some (if aZ c then 0 else 8):=by
 unfold vN;rw [mE fit.now64,KU,BU,BQ _ fit.ag];simp only [aB]
 by_cases nowv:bF c.now
 case neg=>rw [if_neg nowv,if_neg (c:=aZ c) (fun h=>nowv h.nowv)];rfl
 rw [if_pos nowv]
 by_cases fld:fO c.field.points
 case neg=>rw [eS (fun h=>fld (sG.1 h)),if_neg (c:=aZ c) (fun h=>fld h.fld)];rfl
 rw [bX (sG.2 fld)]
 by_cases crt:dZ c.certs
 case neg=>rw [if_neg crt,if_neg (c:=aZ c) (fun h=>crt h.crt)];rfl
 rw [if_pos crt];have kn:=aAH c.certs fld crt.len;simp only [show ((0:Int) !=0)=false from rfl,cond_false,kn,aB]
 by_cases known: ∀i,i<c.certs.list.length->lI c.field.points (c.certs.list[i]!).2
 case neg=>rw [aM known,if_neg (c:=aZ c) (fun h=>known h.known)];rfl
 rw [aR known]
 by_cases agd:eB c.agenda
 case neg=>rw [if_neg agd,if_neg (c:=aZ c) (fun h=>agd h.agd)];rfl
 rw [if_pos agd];simp only [aE,show ((0:Int) !=0)=false from rfl,cond_false,Bool.not_true]
 by_cases w2:c.agenda.where_.length=200
 case neg=>rw [eS (by omega),if_neg (c:=aZ c) (fun h=>w2 h.w200)];rfl
 rw [bX (by omega)]
 by_cases hd:c.agenda.heap.length=c.due.length
 case neg=>rw [eS (by omega),if_neg (c:=aZ c) (fun h=>hd h.hd)];rfl
 rw [bX (by omega)]
 have run:=R5 fit.now64 fld crt agd w2 fit.du known c.certs.list.length 0 0 (by omega) (by omega) (by omega)
 rw [List.drop_zero,List.drop_zero] at run;have same:aX c.field.points c.now c.agenda.heap c.certs.list c.due↔aZ c:=by
  rw [aZ.iff fit];exact ⟨fun h=>⟨nowv,fld,crt,agd,w2,hd,known,h⟩,fun h=>h.2.2.2.2.2.2.2⟩
 simp only [same] at run;simp only [cond_false];exact run
end Go.Proofs.YtfejhjllooomlaaGreat
namespace Go.Proofs.YtfejhjllooomlaaGreat
open Go.Vm Classical
section
variable {l : List Pt} {t : Int × Int}
theorem aX.cons_true {H:List Ev} {x:sH} {cs ds:List sH} (h:(bG l x.2 t).2=true):aX l t H (x::cs) ds↔ ∃d ds',ds=d::ds'/\d.1=x.1/\(((bG l x.2 t).1.1,(bG l x.2 t).1.2,x.1,d.2):Ev)∈H/\aX l t H cs ds':=
 ⟨fun k=>k.1 h,fun k=>⟨fun _=>k,fun k'=>(by rw [h] at k';cases k')⟩⟩
theorem aX.cons_false {H:List Ev} {x:sH} {cs ds:List sH} (h:(bG l x.2 t).2=false):aX l t H (x::cs) ds↔aX l t H cs ds:=
 ⟨fun k=>k.2 h,fun k=>⟨fun k'=>(by rw [h] at k';cases k'),fun _=>k⟩⟩
theorem aX.mono {H H':List Ev}: ∀{cs ds:List sH},(∀x∈cs,∀e:Ev,e.num=x.1->e∈H->e∈H')->aX l t H cs ds->aX l t H' cs ds
 | [],_,_,h=>h
 |x::cs,ds,hm,h=>by
  have hm': ∀y∈cs,∀e:Ev,e.num=y.1->e∈H->e∈H':=fun y hy=>hm y (by simp [hy])
  cases hx:(bG l x.2 t).2 with
  |true=>
   rw [aX.cons_true hx] at h ⊢;obtain ⟨d,ds',h1,h2,h3,h4⟩:=h;exact ⟨d,ds',h1,h2,hm x (by simp) _ rfl h3,aX.mono hm' h4⟩
  |false=>
   rw [aX.cons_false hx] at h ⊢;exact aX.mono hm' h
theorem aX.due {H:List Ev}: ∀{cs ds:List sH},aX l t H cs ds-> ∀d∈ds,∃x∈cs,d.1=x.1/\(bG l x.2 t).2=true/\(((bG l x.2 t).1.1,(bG l x.2 t).1.2,x.1,d.2):Ev)∈H
 | [],ds,h,d,hd=>by
  have:ds=[]:=h
  subst this;cases hd
 |x::cs,ds,h,d,hd=>by
  cases hx:(bG l x.2 t).2 with
  |true=>
   rw [aX.cons_true hx] at h;obtain ⟨e,ds',h1,h2,h3,h4⟩:=h;subst h1;rcases List.mem_cons.1 hd with rfl|hd
   · exact ⟨x,by simp,h2,hx,h3⟩
   · obtain ⟨y,hy,k⟩:=aX.due h4 d hd
     exact ⟨y,by simp [hy],k⟩
  |false=>
   rw [aX.cons_false hx] at h;obtain ⟨y,hy,k⟩:=aX.due h d hd;exact ⟨y,by simp [hy],k⟩
theorem aX.has {H:List Ev}: ∀{cs ds:List sH},aX l t H cs ds-> ∀x∈cs,(bG l x.2 t).2=true-> ∃d∈ds,d.1=x.1/\(((bG l x.2 t).1.1,(bG l x.2 t).1.2,x.1,d.2):Ev)∈H
 | [],_,_,x,hx,_=>by cases hx
 |y::cs,ds,h,x,hx,hf=>by
  cases hy:(bG l y.2 t).2 with
  |true=>
   rw [aX.cons_true hy] at h;obtain ⟨e,ds',h1,h2,h3,h4⟩:=h;subst h1;rcases List.mem_cons.1 hx with rfl|hx
   · exact ⟨e,by simp,h2,h3⟩
   · obtain ⟨d,hd,k⟩:=aX.has h4 x hx hf
     exact ⟨d,by simp [hd],k⟩
  |false=>
   rw [aX.cons_false hy] at h;rcases List.mem_cons.1 hx with rfl|hx
   · rw [hf] at hy;cases hy
   · exact aX.has h x hx hf
def Up (cs:List sH):Prop:=cs.Pairwise fun x y=>x.1<y.1
theorem tL {cs:List sH}:Up cs↔ ∀i j,i<j->j<cs.length->(cs[i]!).1<(cs[j]!).1:=by
 unfold Up;rw [List.pairwise_iff_getElem];constructor
 · intro h i j hij hj
   rw [getElem!_pos cs i (by omega),getElem!_pos cs j hj]
   exact h i j (by omega) hj hij
 · intro h i j hi hj hij
   have:=h i j hij hj
   rwa [getElem!_pos cs i hi,getElem!_pos cs j hj] at this
theorem aX.up {H:List Ev}: ∀{cs ds:List sH},aX l t H cs ds->Up cs->Up ds
 | [],ds,h,_=>by
  have:ds=[]:=h
  subst this;exact List.Pairwise.nil
 |x::cs,ds,h,hu=>by
  have hu':=List.pairwise_cons.1 hu;cases hx:(bG l x.2 t).2 with
  |true=>
   rw [aX.cons_true hx] at h;obtain ⟨e,ds',h1,h2,h3,h4⟩:=h;subst h1;refine List.pairwise_cons.2 ⟨fun d hd=>?_,aX.up h4 hu'.2⟩
   obtain ⟨y,hy,k,_⟩:=aX.due h4 d hd
   have:=hu'.1 y hy
   omega
  |false=>
   rw [aX.cons_false hx] at h;exact aX.up h hu'.2
theorem aX.snoc {H:List Ev}: ∀{cs ds:List sH} {x:sH},aX l t H cs ds->((bG l x.2 t).2=false->aX l t H (cs++[x]) ds)/\
 (∀d:sH,(bG l x.2 t).2=true->d.1=x.1->(((bG l x.2 t).1.1,(bG l x.2 t).1.2,x.1,d.2):Ev)∈H->aX l t H (cs++[x]) (ds++[d]))
 | [],ds,x,h=>by
  have:ds=[]:=h
  subst this;refine ⟨fun hx=>(aX.cons_false hx).2 rfl,fun d hx h1 h2=>(aX.cons_true hx).2 ⟨d,[],rfl,h1,h2,rfl⟩⟩
 |y::cs,ds,x,h=>by
  cases hy:(bG l y.2 t).2 with
  |true=>
   rw [aX.cons_true hy] at h;obtain ⟨e,ds',h1,h2,h3,h4⟩:=h;subst h1;have ih:=aX.snoc (x:=x) h4;refine ⟨fun hx=>(aX.cons_true hy).2 ⟨e,ds',rfl,h2,h3,ih.1 hx⟩,fun d hx k1 k2=>(aX.cons_true hy).2 ⟨e,ds'++[d],rfl,h2,h3,ih.2 d hx k1 k2⟩⟩
  |false=>
   rw [aX.cons_false hy] at h;have ih:=aX.snoc (x:=x) h;exact ⟨fun hx=>(aX.cons_false hy).2 (ih.1 hx),fun d hx k1 k2=>(aX.cons_false hy).2 (ih.2 d hx k1 k2)⟩
theorem aX.erase {H:List Ev}: ∀{cs ds:List sH} {i:Nat},aX l t H cs ds->i<cs.length->((bG l (cs[i]!).2 t).2=false->aX l t H (cs.eraseIdx i) ds)/\
 ((bG l (cs[i]!).2 t).2=true-> ∃k,k<ds.length/\(ds[k]!).1=(cs[i]!).1/\(((bG l (cs[i]!).2 t).1.1,(bG l (cs[i]!).2 t).1.2,(cs[i]!).1,(ds[k]!).2):Ev)∈H/\aX l t H (cs.eraseIdx i) (ds.eraseIdx k))
 | [],_,i,_,hi=>by cases hi
 |y::cs,ds,0,h,_=>by
  show ((bG l y.2 t).2=false->aX l t H cs ds)/\((bG l y.2 t).2=true-> ∃k,k<ds.length/\(ds[k]!).1=y.1/\(((bG l y.2 t).1.1,(bG l y.2 t).1.2,y.1,(ds[k]!).2):Ev)∈H/\aX l t H cs (ds.eraseIdx k));refine ⟨fun hy=>(aX.cons_false hy).1 h,fun hy=>?_⟩
  obtain ⟨e,ds',h1,h2,h3,h4⟩:=(aX.cons_true hy).1 h;subst h1;exact ⟨0,by simp,h2,h3,h4⟩
 |y::cs,ds,i+1,h,hi=>by
  have hi':i<cs.length:=by simpa using hi
  show ((bG l (cs[i]!).2 t).2=false->aX l t H (y::cs.eraseIdx i) ds)/\((bG l (cs[i]!).2 t).2=true-> ∃k,k<ds.length/\(ds[k]!).1=(cs[i]!).1/\(((bG l (cs[i]!).2 t).1.1,(bG l (cs[i]!).2 t).1.2,(cs[i]!).1,(ds[k]!).2):Ev)∈H/\aX l t H (y::cs.eraseIdx i) (ds.eraseIdx k));cases hy:(bG l y.2 t).2 with
  |true=>
   obtain ⟨e,ds',h1,h2,h3,h4⟩:=(aX.cons_true hy).1 h;subst h1;have ih:=aX.erase (i:=i) h4 hi';refine ⟨fun hx=>(aX.cons_true hy).2 ⟨e,ds',rfl,h2,h3,ih.1 hx⟩,fun hx=>?_⟩
   obtain ⟨k,k1,k2,k3,k4⟩:=ih.2 hx;exact ⟨k+1,by simp;omega,k2,k3,(aX.cons_true hy).2 ⟨e,ds'.eraseIdx k,rfl,h2,h3,k4⟩⟩
  |false=>
   have h:=(aX.cons_false hy).1 h;have ih:=aX.erase (i:=i) h hi';refine ⟨fun hx=>(aX.cons_false hy).2 (ih.1 hx),fun hx=>?_⟩
   obtain ⟨k,k1,k2,k3,k4⟩:=ih.2 hx;exact ⟨k,k1,k2,k3,(aX.cons_false hy).2 k4⟩
end
theorem HQ {H:List Ev} {ns:List Int} (hd:ns.Nodup) (hl:H.length<=ns.length) (he: ∀n∈ns,∃e∈H,Ev.num e=n): ∀e∈H,Ev.num e∈ns:=by
 have pos: ∀n,n∈ns-> ∃w,w<H.length/\Ev.num H[w]! =n:=fun n hn=>by
  obtain ⟨e,he,h2⟩:=he n hn;obtain ⟨w,hw,rfl⟩:=aY.1 he;exact ⟨w,hw,h2⟩
 let f:Int->Nat:=fun n=>if h: ∃w,w<H.length/\Ev.num H[w]! =n then h.choose else 0
 have hf: ∀n∈ns,f n<H.length/\Ev.num H[f n]! =n:=fun n hn=>by
  have h:=pos n hn;show (if h: ∃w,w<H.length/\Ev.num H[w]! =n then h.choose else 0)<_/\Ev.num H[(if h: ∃w,w<H.length/\Ev.num H[w]! =n then h.choose else 0)]! =n
  rw [dif_pos h];exact h.choose_spec
 have full:=HL (n:=H.length) (l:=ns.map f) (CO hd fun x hx y hy h=>by
  have h1:=(hf x hx).2;have h2:=(hf y hy).2;rw [h] at h1
  omega) (fun x hx=>by
  obtain ⟨n,hn,rfl⟩:=List.mem_map.1 hx;exact (hf n hn).1) (by rw [List.length_map];exact hl)
 intro e hm;obtain ⟨w,hw,rfl⟩:=aY.1 hm;obtain ⟨n,hn,h⟩:=List.mem_map.1 (full w hw);rw [<- h,(hf n hn).2];exact hn
theorem R6 {cs:List sH} (h:Up cs):(cs.map fun x=>x.1).Nodup:=by
 refine CO ?_ ?_
 · unfold Up at h
   exact h.imp fun hab he=>by rw [he] at hab;omega
 · intro x hx y hy he
   obtain ⟨i,hi,rfl⟩:=aY.1 hx;obtain ⟨j,hj,rfl⟩:=aY.1 hy;rcases Nat.lt_trichotomy i j with h1|h1|h1
   · have:=tL.1 h i j h1 hj;omega
   · rw [h1]
   · have:=tL.1 h j i h1 hi;omega
theorem aZ.crt_up {c:aH} (ok:aZ c):Up c.certs.list:=tL.2 ok.crt.up
theorem aZ.due_up {c:aH} (ok:aZ c):Up c.due:=ok.fol.up ok.crt_up
theorem aZ.nums {c:aH} (ok:aZ c): ∀e∈c.agenda.heap,∃d∈c.due,d.1=Ev.num e:=by
 have:=HQ (H:=c.agenda.heap) (R6 ok.due_up) (by rw [List.length_map,ok.hd];exact Nat.le_refl _) (fun n hn=>by
  obtain ⟨d,hd,rfl⟩:=List.mem_map.1 hn;obtain ⟨x,hx,h1,h2,h3⟩:=ok.fol.due d hd;exact ⟨_,h3,h1.symm⟩)
 intro e he;obtain ⟨d,hd,h⟩:=List.mem_map.1 (this e he);exact ⟨d,hd,h⟩
end Go.Proofs.YtfejhjllooomlaaGreat
