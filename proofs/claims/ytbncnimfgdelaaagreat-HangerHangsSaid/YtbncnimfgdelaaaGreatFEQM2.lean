/- Plain laws (2). -/
import Derived.Test.YtbncnimfgdelaaaGreatFEQM1
namespace Go.Proofs.YtbncnimfgdelaaaGreat
open Go.Vm Classical
theorem OL (a:aO) (fit:HH a) (so:fR a.slots) (wl:a.where_.length=a.slots.uses.length):
 aE kU (a.where_,(a.where_.length:Int),0,a.slots.uses,a.slots.used,a.slots.free,a.heap,a.where_)=some (if (∀i,i<a.slots.uses.length->K0 a i)/\(∀k,k<a.heap.length->LS a.heap k) then 0 else 8):=by
 have hu:=so.ul;have hn:=so.n2;have hh:=fit.hp;have inner:=OK a.heap a.slots.uses a.slots.free a.where_ a.slots.used fit.hp fit.at64
 have key:=cU (body:=kU) (fun i=>(a.where_,(a.where_.length:Int),(i:Int),a.slots.uses,a.slots.used,a.slots.free,a.heap,a.where_)) a.where_.length (fun i=> ¬K0 a i) (r:=8) (e:=if (∀k,k<a.heap.length->LS a.heap k) then 0 else 8) (fun i hi=>by
  have e1:decide ((i:Int)<(a.where_.length:Int))=true:=aQ (by omega)
  unfold kU;simp only [aH,e1,cond_true,aD a.where_ i hi,aD a.slots.used i (by omega),aD a.slots.uses i (by omega),aF,aX (show i<1000000000 by omega)]
  unfold K0;generalize a.where_[i]! =w at*;cases hb:a.slots.used[i]! with
  |false=>
   simp only [Bool.not_false,cond_true]
   by_cases hw:w= -1
   · rw [dA hw]
     exact ⟨fun h=>absurd ⟨fun h=>(by cases h),fun _=>hw⟩ h,fun _=>rfl⟩
   · rw [dL hw]
     exact ⟨fun _=>rfl,fun h=>absurd ((Classical.not_not.1 h).2 trivial) hw⟩
  |true=>
   simp only [Bool.not_true,cond_false]
   by_cases b1:w<0
   · rw [aQ b1]
     exact ⟨fun _=>rfl,fun h=>absurd ((Classical.not_not.1 h).1 trivial).1 (by omega)⟩
   by_cases b2:(a.heap.length:Int)<=w
   · rw [aL b1,aQ b2]
     exact ⟨fun _=>rfl,fun h=>absurd ((Classical.not_not.1 h).1 trivial).2.1 (by omega)⟩
   rw [aL b1,aL b2];simp only [cond_false,kW (l:=a.heap) (i:=w) (by omega) (by omega),aF]
   by_cases b3:(a.heap[w.toNat]!).2.2.2.1=i
   · by_cases b4:(a.heap[w.toNat]!).2.2.2.2=a.slots.uses[i]!
     · rw [gL b3,gL b4]
       exact ⟨fun h=>absurd ⟨fun _=>⟨by omega,by omega,b3,b4⟩,fun h=>(by cases h)⟩ h,fun _=>rfl⟩
     · rw [gL b3,dY b4]
       exact ⟨fun _=>rfl,fun h=>absurd ((Classical.not_not.1 h).1 trivial).2.2.2 b4⟩
   · rw [dY b3]
     exact ⟨fun _=>rfl,fun h=>absurd ((Classical.not_not.1 h).1 trivial).2.2.1 b3⟩) (by
  unfold kU
  have:decide ((a.where_.length:Int)<(a.where_.length:Int))=false:=aL (by omega)
  simp only [aH,this,cond_false]
  by_cases hx: ∀k,k<a.heap.length->LS a.heap k
  · rw [if_pos hx];exact inner.1 hx
  · rw [if_neg hx];exact inner.2 hx)
 by_cases hw: ∀i,i<a.slots.uses.length->K0 a i
 · refine (key.2 fun i hi=>Classical.not_not.2 (hw i (by omega))).trans ?_
   by_cases hx: ∀k,k<a.heap.length->LS a.heap k
   · rw [if_pos hx,if_pos ⟨hw,hx⟩]
   · rw [if_neg hx,if_neg (fun h=>hx h.2)]
 · rw [if_neg (fun h=>hw h.1)]
   obtain ⟨i,h⟩:=Classical.not_forall.1 hw;obtain ⟨hi,hx⟩:=Classical.not_imp.1 h;exact key.1 ⟨i,by omega,hx⟩
theorem rZ (a:aO) (fit:HH a):iU a=some (if gZ a then 0 else 8):=by
 have hh:=fit.hp;unfold iU;rw [CL _ fit.fr];simp only [aH]
 by_cases so:fR a.slots
 case neg=>rw [if_neg so,if_neg (fun h=>so h.so)];rfl
 have hu:=so.ul;have hn:=so.n2;have hf:=so.fl;rw [if_pos so];simp only [aF,show ((0:Int) !=0)=false from rfl,cond_false]
 by_cases wl:a.where_.length=a.slots.uses.length
 case neg=>
  rw [dL (by omega),if_neg (fun h=>wl h.wl)];rfl
 rw [dA (by omega)]
 have e:aA .i64 ((a.slots.used.length:Int) - (a.slots.free.length:Int))=((a.slots.uses.length-a.slots.free.length:Nat):Int):=by rw [wi];omega
 rw [e]
 by_cases hl:a.heap.length+a.slots.free.length=a.slots.uses.length
 case neg=>
  rw [dL (by omega),if_neg (fun h=>hl h.hl)];rfl
 rw [dA (by omega)]
 simp only [cond_false];rw [OL a fit so wl]
 by_cases ok:gZ a
 · rw [if_pos ok,if_pos ok.to]
 · rw [if_neg ok,if_neg]
   intro h;exact ok (gZ.of fit so wl hl h.1 h.2)
theorem aAA {x y:Ev} (hx:oS (x.1,x.2.1)) (hy:oS (y.1,y.2.1)):dJ x y=some (decide (fO x y)):=by
 unfold dJ fO;rw [KQ hx hy];simp only [aF];generalize DO (x.1,x.2.1) (y.1,y.2.1)=c
 by_cases h1:c<0
 · simp [h1]
 · by_cases h2:c=0
   · subst h2;simp
   · simp only [h1,dY h2,h2,decide_false,cond_false,false_or,false_and]
theorem V2 {s:aW} (ok:fR s) (h:Int×Int):tO s h=some (decide (E5 s h)):=by
 have hu:=ok.ul;unfold tO E5;simp only [aH]
 by_cases a1:0<=h.1
 · by_cases a2:h.1<s.uses.length
   · simp only [a1,a2,decide_true,cond_true,kW (l:=s.used) a1 (by omega),kW (l:=s.uses) a1 a2,aF,true_and]
     generalize s.uses[h.1.toNat]! =u;cases s.used[h.1.toNat]!<;>simp [aGq]
   · simp [a1,a2]
 · simp [a1]
theorem XN (a:aO) (so:fR a.slots):sM a=some (decide (a.where_.length=a.slots.uses.length/\a.heap.length+a.slots.free.length=a.slots.uses.length/\ ∀i,i<a.slots.uses.length->K0 a i)):=by
 have hu:=so.ul;have hn:=so.n2;have hf:=so.fl;unfold sM;simp only [aH]
 by_cases wl:a.where_.length=a.slots.uses.length
 case neg=>
  rw [dL (by omega),aL (fun h=>wl h.1)];rfl
 rw [dA (by omega)]
 have e:aA .i64 ((a.slots.uses.length:Int) - (a.slots.free.length:Int))=((a.slots.uses.length-a.slots.free.length:Nat):Int):=by rw [wi];omega
 rw [e]
 by_cases hl:a.heap.length+a.slots.free.length=a.slots.uses.length
 case neg=>
  rw [dL (by omega),aL (fun h=>hl h.2.1)];rfl
 rw [dA (by omega)]
 simp only [cond_false];have key:=cU (body:=mW) (fun i=>((a.slots.uses.length:Int),(i:Int),a.slots.uses,a.slots.used,a.slots.free,a.heap,a.where_)) a.slots.uses.length (fun i=> ¬K0 a i) (r:=false) (e:=true) (fun i hi=>by
  have e1:decide ((i:Int)<(a.slots.uses.length:Int))=true:=aQ (by omega)
  unfold mW;simp only [aH,e1,cond_true,aD a.where_ i (by omega),aD a.slots.used i (by omega),aF,aX (show i<1000000000 by omega)]
  unfold K0;generalize a.where_[i]! =w at*;cases hb:a.slots.used[i]! with
  |false=>
   simp only [Bool.not_false,cond_true]
   by_cases hw:w= -1
   · rw [dA hw]
     exact ⟨fun h=>absurd ⟨fun h=>(by cases h),fun _=>hw⟩ h,fun _=>rfl⟩
   · rw [dL hw]
     exact ⟨fun _=>rfl,fun h=>absurd ((Classical.not_not.1 h).2 trivial) hw⟩
  |true=>
   simp only [Bool.not_true,cond_false]
   by_cases b1:w<0
   · rw [aQ b1]
     exact ⟨fun _=>rfl,fun h=>absurd ((Classical.not_not.1 h).1 trivial).1 (by omega)⟩
   by_cases b2:(a.heap.length:Int)<=w
   · rw [aL b1,aQ b2]
     exact ⟨fun _=>rfl,fun h=>absurd ((Classical.not_not.1 h).1 trivial).2.1 (by omega)⟩
   rw [aL b1,aL b2];simp only [cond_false,kW (l:=a.heap) (i:=w) (by omega) (by omega),aF]
   by_cases b3:(a.heap[w.toNat]!).2.2.2.1=i
   · rw [dA b3]
     simp only [cond_false];rw [V2 (s:=⟨a.slots.uses,a.slots.used,a.slots.free⟩) so];have lv:E5 ⟨a.slots.uses,a.slots.used,a.slots.free⟩ (a.heap[w.toNat]!).2.2.2↔(a.heap[w.toNat]!).2.2.2.2=a.slots.uses[i]!:=by
      unfold E5;dsimp only;rw [b3];constructor
      · intro h;exact h.2.2.2.symm
      · intro h;exact ⟨by omega,by omega,by rw [Int.toNat_natCast];exact hb,by rw [Int.toNat_natCast];exact h.symm⟩
     simp only [aF,lv]
     by_cases b4:(a.heap[w.toNat]!).2.2.2.2=a.slots.uses[i]!
     · rw [aQ b4]
       exact ⟨fun h=>absurd ⟨fun _=>⟨by omega,by omega,b3,b4⟩,fun h=>(by cases h)⟩ h,fun _=>rfl⟩
     · rw [aL b4]
       exact ⟨fun _=>rfl,fun h=>absurd ((Classical.not_not.1 h).1 trivial).2.2.2 b4⟩
   · rw [dL b3]
     exact ⟨fun _=>rfl,fun h=>absurd ((Classical.not_not.1 h).1 trivial).2.2.1 b3⟩) (by
  unfold mW
  have:decide ((a.slots.uses.length:Int)<(a.slots.uses.length:Int))=false:=aL (by omega)
  simp only [this,cond_false])
 by_cases hw: ∀i,i<a.slots.uses.length->K0 a i
 · rw [aQ ⟨wl,hl,hw⟩]
   exact key.2 fun i hi=>Classical.not_not.2 (hw i hi)
 · rw [aL (fun h=>hw h.2.2)]
   obtain ⟨i,h⟩:=Classical.not_forall.1 hw;obtain ⟨hi,hx⟩:=Classical.not_imp.1 h;exact key.1 ⟨i,hi,hx⟩
theorem RG (H:List Ev) (u fr W:List Int) (us:List Bool) (k:Nat) (hk:k<H.length) (hl:H.length<=1000000) (x:Ev):
 ((∃j,j<k/\(H[j]!).2.2.1=x.2.2.1)->aE jU ((k:Int),0,u,us,fr,H,W,x)=some (.done 8))/\
 ((∀j,j<k-> ¬(H[j]!).2.2.1=x.2.2.1)->aE jU ((k:Int),0,u,us,fr,H,W,x)=some (.next (((k+1:Nat):Int),u,us,fr,H,W))):=by
 refine cU (body:=jU) (fun j=>((k:Int),(j:Int),u,us,fr,H,W,x)) k (fun j=>(H[j]!).2.2.1=x.2.2.1) (r:= .done 8) (e:= .next (((k+1:Nat):Int),u,us,fr,H,W)) (fun j hj=>?_) ?_
 · have e1:decide ((j:Int)<(k:Int))=true:=aQ (by omega)
   unfold jU;simp only [e1,cond_true,aD H j (by omega),aF,aX (show j<1000000000 by omega)]
   constructor
   · intro h;rw [gL h];rfl
   · intro h;rw [dY h];rfl
 · unfold jU
   have:decide ((k:Int)<(k:Int))=false:=aL (by omega)
   simp only [this,cond_false,aX (show k<1000000000 by omega)]
theorem RH (H:List Ev) (u fr W:List Int) (us:List Bool) (hl:H.length<=1000000) (r64: ∀w,w<H.length->oS ((H[w]!).1,(H[w]!).2.1)):
 aE jV (1,u,us,fr,H,W)=some (.done (if∀k,0<k->k<H.length-> ¬fO H[k]! H[(k-1) / 2]! then 0 else 8)):=by
 by_cases h0:H.length=0
 · rw [if_pos (fun k _ hk=>by omega)]
   refine aP ?_;unfold jV
   have:decide ((1:Int)<(H.length:Int))=false:=aL (by omega)
   simp only [aH,this,cond_false]
 have key:=cU (body:=jV) (fun i=>(((i+1:Nat):Int),u,us,fr,H,W)) (H.length-1) (fun i=>fO H[i+1]! H[i / 2]!) (r:= .done 8) (e:= .done 0) (fun i hi=>by
  have e1:decide (((i+1:Nat):Int)<(H.length:Int))=true:=aQ (by omega)
  unfold jV;simp only [aH,e1,cond_true,GN (show i<1000000000 by omega),aD H (i+1) (by omega),aD H (i / 2) (by omega),aF,aAA (r64 (i+1) (by omega)) (r64 (i / 2) (by omega)),aX (show i+1<1000000000 by omega)]
  constructor
  · intro h;rw [aQ h];rfl
  · intro h;rw [aL h];rfl) (by
  unfold jV
  have:decide (((H.length-1+1:Nat):Int)<(H.length:Int))=false:=aL (by omega)
  simp only [aH,this,cond_false])
 by_cases ho: ∀k,0<k->k<H.length-> ¬fO H[k]! H[(k-1) / 2]!
 · rw [if_pos ho]
   refine key.2 fun i hi hc=>ho (i+1) (by omega) (by omega) ?_
   rwa [show (i+1-1) / 2=i / 2 by omega]
 · rw [if_neg ho]
   obtain ⟨k,h⟩:=Classical.not_forall.1 ho;obtain ⟨k0,h⟩:=Classical.not_imp.1 h;obtain ⟨hk,hx⟩:=Classical.not_imp.1 h;refine key.1 ⟨k-1,by omega,?_⟩
   rw [show k-1+1=k by omega]
   exact Classical.not_not.1 hx
def OM (H:List Ev) (k:Nat):Prop:=bW ((H[k]!).1,(H[k]!).2.1)/\0<=(H[k]!).2.2.1/\(H[k]!).2.2.1<=1000000/\(∀j,j<k-> ¬(H[j]!).2.2.1=(H[k]!).2.2.1)
theorem AT (a:aO) (fit:HH a):rM a=some (if gZ a then 0 else 8):=by
 have hh:=fit.hp;unfold rM;rw [KZ _ fit.fr]
 by_cases so:fR a.slots
 case neg=>rw [if_neg so,if_neg (fun h=>so h.so)];rfl
 rw [if_pos so];simp only [aF,show ((0:Int) !=0)=false from rfl,cond_false,XN a so]
 by_cases pl:a.where_.length=a.slots.uses.length/\a.heap.length+a.slots.free.length=a.slots.uses.length/\ ∀i,i<a.slots.uses.length->K0 a i
 case neg=>
  rw [aL pl,if_neg (fun h=>pl ⟨h.wl,h.hl,h.to.1⟩)];rfl
 rw [aQ pl];obtain ⟨wl,hl,hw⟩:=pl;simp only [Bool.not_true,cond_false];have key:=cU (body:=oK) (fun k=>((k:Int),a.slots.uses,a.slots.used,a.slots.free,a.heap,a.where_)) a.heap.length (fun k=> ¬OM a.heap k) (r:=8) (e:=if∀k,0<k->k<a.heap.length-> ¬fO a.heap[k]! a.heap[(k-1) / 2]! then 0 else 8) (fun k hk=>by
  have e1:decide ((k:Int)<(a.heap.length:Int))=true:=aQ (by omega)
  have l1:=RG a.heap a.slots.uses a.slots.free a.where_ a.slots.used k hk hh a.heap[k]!;unfold oK;simp only [aH,e1,cond_true,aD a.heap k hk,aF,tT (fit.at64 k hk)];unfold OM
  by_cases b1:bW ((a.heap[k]!).1,(a.heap[k]!).2.1)
  case neg=>
   rw [if_neg b1];exact ⟨fun _=>rfl,fun h=>absurd (Classical.not_not.1 h).1 b1⟩
  rw [if_pos b1]
  by_cases b2:(a.heap[k]!).2.2.1<0
  · rw [aQ b2]
    exact ⟨fun _=>rfl,fun h=>absurd (Classical.not_not.1 h).2.1 (by omega)⟩
  by_cases b3:1000000<(a.heap[k]!).2.2.1
  · rw [aL b2,aQ b3]
    exact ⟨fun _=>rfl,fun h=>absurd (Classical.not_not.1 h).2.2.1 (by omega)⟩
  rw [aL b2,aL b3];simp only [show ((0:Int) !=0)=false from rfl,cond_false]
  by_cases b4: ∃j,j<k/\(a.heap[j]!).2.2.1=(a.heap[k]!).2.2.1
  · refine ⟨fun _=>l1.1 b4,fun h=>?_⟩
    obtain ⟨j,j1,j2⟩:=b4;exact absurd j2 ((Classical.not_not.1 h).2.2.2 j j1)
  · have b4': ∀j,j<k-> ¬(a.heap[j]!).2.2.1=(a.heap[k]!).2.2.1:=fun j h1 h2=>b4 ⟨j,h1,h2⟩
    exact ⟨fun h=>absurd ⟨b1,by omega,by omega,b4'⟩ h,fun _=>l1.2 b4'⟩) (by
  unfold oK
  have:decide ((a.heap.length:Int)<(a.heap.length:Int))=false:=aL (by omega)
  simp only [aH,this,cond_false];exact RH a.heap _ _ _ _ hh fit.at64)
 have same:gZ a↔(∀k,k<a.heap.length->OM a.heap k)/\ ∀k,0<k->k<a.heap.length-> ¬fO a.heap[k]! a.heap[(k-1) / 2]!:=by
  constructor
  · intro ok
    refine ⟨fun k hk=>?_,ok.ord⟩
    have:=ok.to.2 k hk
    exact ⟨this.1,this.2.1,this.2.2.1,this.2.2.2.1⟩
  · rintro ⟨h1,h2⟩
    refine gZ.of fit so wl hl hw fun k hk=>?_
    obtain ⟨c1,c2,c3,c4⟩:=h1 k hk;refine ⟨c1,c2,c3,c4,fun k0=>?_⟩
    unfold T4;rw [if_pos ⟨c1,(h1 ((k-1) / 2) (by omega)).1⟩,E7]
    exact h2 k k0 hk
 by_cases he: ∀k,k<a.heap.length->OM a.heap k
 · refine (key.2 fun i hi=>Classical.not_not.2 (he i hi)).trans ?_
   by_cases ho: ∀k,0<k->k<a.heap.length-> ¬fO a.heap[k]! a.heap[(k-1) / 2]!
   · rw [if_pos ho,if_pos (same.2 ⟨he,ho⟩)]
   · rw [if_neg ho,if_neg (fun h=>ho (same.1 h).2)]
 · rw [if_neg (fun h=>he (same.1 h).1)]
   obtain ⟨i,h⟩:=Classical.not_forall.1 he;obtain ⟨hi,hx⟩:=Classical.not_imp.1 h;exact key.1 ⟨i,hi,hx⟩
theorem aNz {s:aW} (so:fR s) {n:Nat} {H:List Ev} {W:List Int} (E:Ev->Prop) (hn:n<=H.length) (wl:W.length=s.uses.length) (hl:n+s.free.length=s.uses.length)
 (ix: ∀w,w<n->0<=(H[w]!).ix/\(H[w]!).ix<W.length/\W[(H[w]!).n]! =(w:Int)) (mem: ∀e,(∃w,w<n/\H[w]! =e)↔E e) (ord: ∀k,0<k->k<n-> ¬fO H[k]! H[(k-1) / 2]!)
 (ue: ∀i,i<s.uses.length->s.used[i]! =true-> ∃e:Ev,E e/\e.ix=i/\e.2.2.2.2=s.uses[i]!) (un: ∀i,i<s.uses.length->s.used[i]! =false->W[i]! = -1)
 (ev: ∀e,E e->AS e) (nums: ∀e f:Ev,E e->E f->e.num=f.num->e.ix=f.ix):gZ ⟨s,H.take n,W⟩:=by
 have len:(H.take n).length=n:=by rw [List.length_take];omega
 have cell: ∀w,w<n->(H.take n)[w]! =H[w]!:=fun w hw=>GK hw
 refine ⟨so,wl,by show (H.take n).length+_=_;rw [len];exact hl,?_,un,?_,?_,?_⟩
 · intro i hi hu
   dsimp only at hi hu ⊢;rw [len];obtain ⟨e,he,e1,e2⟩:=ue i hi hu;obtain ⟨w,hw,rfl⟩:=(mem e).2 he;obtain ⟨a1,a2,a3⟩:=ix w hw;have hn':(H[w]!).n=i:=by show ((H[w]!).ix).toNat=i;omega
   rw [hn'] at a3;rw [a3,Int.toNat_natCast,cell w hw];exact ⟨by omega,by omega,e1,e2⟩
 · intro w hw
   dsimp only at hw ⊢;rw [len] at hw;rw [cell w hw];exact ev _ ((mem _).1 ⟨w,hw,rfl⟩)
 · intro v w hv hw
   dsimp only at hw ⊢;rw [len] at hw;rw [cell v (by omega),cell w hw]
   intro hc
   have:=nums _ _ ((mem _).1 ⟨v,by omega,rfl⟩) ((mem _).1 ⟨w,hw,rfl⟩) hc
   obtain ⟨a1,a2,a3⟩:=ix v (by omega)
   obtain ⟨b1,b2,b3⟩:=ix w hw;have hn':(H[v]!).n=(H[w]!).n:=by show ((H[v]!).ix).toNat=((H[w]!).ix).toNat;rw [this]
   rw [hn'] at a3;omega
 · intro k k0 hk
   dsimp only at hk ⊢;rw [len] at hk;rw [cell k hk,cell _ (by omega)]
   exact ord k k0 hk
theorem LT {s:aW} (so:fR s) {n:Nat} {x:Ev} {M:Ev->Prop} {K:Nat->Prop} {H H1:List Ev} {W W1:List Int} (st:IH n x M K H W H1 W1) (hn:n<=H.length) (wl:W.length=s.uses.length) (hl:n+s.free.length=s.uses.length)
 (ue: ∀i,i<s.uses.length->s.used[i]! =true-> ∃e:Ev,(e=x\/M e)/\e.ix=i/\e.2.2.2.2=s.uses[i]!) (un: ∀i,i<s.uses.length->s.used[i]! =false->K i/\W[i]! = -1)
 (ev: ∀e,(e=x\/M e)->AS e) (nums: ∀e f:Ev,(e=x\/M e)->(f=x\/M f)->e.num=f.num->e.ix=f.ix):gZ ⟨s,H1.take n,W1⟩:=by
 refine aNz so (fun e=>e=x\/M e) (by rw [st.hl];exact hn) (by rw [st.wl];exact wl) hl (by rw [st.wl];exact st.ix) st.mem st.ord ue ?_ ev nums
 intro i hi hu;rw [st.out i (un i hi hu).1];exact (un i hi hu).2
theorem gZ.bd {a:aO} (ok:gZ a):a.heap.length<=200/\a.where_.length<=200:=by
 have:=ok.hl;have:=ok.wl;have:=ok.so.n2
 omega
theorem gZ.cells {a:aO} (ok:gZ a):CP a.heap.length a.heap a.where_:=by
 have:=ok.bd
 refine ⟨Nat.le_refl _,by omega,fun w hw=>?_⟩
 obtain ⟨b1,b2,b3,b4,b5⟩:=ok.back hw;exact ⟨ok.ev w hw,b1,by rw [ok.wl];exact b2⟩
theorem gZ.grand {a:aO} (ok:gZ a) {i k:Nat} (i0:0<i) (k0:0<k) (hk:k<a.heap.length) (hp:(k-1) / 2=i): ¬fO a.heap[k]! a.heap[(i-1) / 2]!:=by
 have h1:=ok.ord k k0 hk;rw [hp] at h1;exact BN (ok.ev _ (by omega)).den (ok.ev _ (by omega)).den (ok.ev _ hk).den (ok.ord i i0 (by omega)) h1
theorem gZ.live {a:aO} (ok:gZ a) {h:Int×Int} (lv:E5 a.slots h): ∃i,i<a.heap.length/\a.where_[h.1.toNat]! =(i:Int)/\(a.heap[i]!).2.2.2=h:=by
 obtain ⟨l1,l2,l3,l4⟩:=lv;obtain ⟨f1,f2,f3,f4⟩:=ok.fwd h.1.toNat (by omega) l3
 refine ⟨(a.where_[h.1.toNat]!).toNat,by omega,by omega,?_⟩
 have e1:(a.heap[(a.where_[h.1.toNat]!).toNat]!).2.2.2.1=h.1:=by
  have:Ev.ix a.heap[(a.where_[h.1.toNat]!).toNat]! =(h.1.toNat:Int):=f3
  have h2:Ev.ix a.heap[(a.where_[h.1.toNat]!).toNat]! =(a.heap[(a.where_[h.1.toNat]!).toNat]!).2.2.2.1:=rfl;omega
 exact Prod.ext e1 (by rw [f4,l4])
theorem gZ.handle {a:aO} (ok:gZ a) {i:Nat} (hi:i<a.heap.length):E5 a.slots (a.heap[i]!).2.2.2/\a.where_[((a.heap[i]!).2.2.2.1).toNat]! =(i:Int):=by
 obtain ⟨b1,b2,b3,b4,b5⟩:=ok.back hi;exact ⟨⟨b1,b2,b3,b4⟩,b5⟩
theorem gZ.used_ev {a:aO} (ok:gZ a) {i:Nat} (hi:i<a.slots.uses.length) (hu:a.slots.used[i]! =true): ∃w,w<a.heap.length/\Ev.ix a.heap[w]! =i/\(a.heap[w]!).2.2.2.2=a.slots.uses[i]!:=by
 obtain ⟨f1,f2,f3,f4⟩:=ok.fwd i hi hu;exact ⟨(a.where_[i]!).toNat,by omega,f3,f4⟩
theorem gZ.no_ev {a:aO} (ok:gZ a) {i:Nat} (hu:a.slots.used[i]! =false) {w:Nat} (hw:w<a.heap.length):Ev.n a.heap[w]!≠i:=by
 intro h
 have:=(ok.back hw).2.2.1
 rw [h,hu] at this;cases this
theorem gZ.nums {a:aO} (ok:gZ a) {v w:Nat} (hv:v<a.heap.length) (hw:w<a.heap.length) (h:Ev.num a.heap[v]! =Ev.num a.heap[w]!):v=w:=by
 rcases Nat.lt_trichotomy v w with h1|h1|h1
 · exact absurd h (ok.nd v w h1 hw)
 · exact h1
 · exact absurd h.symm (ok.nd w v h1 hv)
theorem set_same {α:Type} [Inhabited α] {l:List α} {k:Nat} {v:α} (h:l[k]! =v):l.set k v=l:=by
 by_cases hk:k<l.length
 · apply rR (by rw [List.length_set])
   intro i hi;rw [bV];split
   · rename_i e;rw [e.1];exact h.symm
   · rfl
 · exact List.set_eq_of_length_le (by omega)
theorem CQ {a:aO} (ok:gZ a):pO a=some a:=by
 have bd:=ok.bd;unfold pO;simp only [CN ok.so,aF,bG (show a.heap.length<=1048576 by omega),bG (show a.where_.length<=1048576 by omega)]
theorem M0 (H:List Ev) (n:Int) (hl:H.length<=1000000):cA H n=some (decide (∃w,w<H.length/\(H[w]!).2.2.1=n)):=by
 unfold cA dO;have key:=rQ (body:=bZ) (fun i=>(H,n,(H.length:Int),(i:Int))) H.length (fun i=>(H[i]!).2.2.1=n) (fun i=>(i:Int)) (e:= -1) (fun i hi=>by
  have e1:decide ((i:Int)<(H.length:Int))=true:=aQ (by omega)
  unfold bZ vP;simp only [e1,cond_true,aD H i hi,aF,aX (show i<1000000000 by omega)]
  constructor
  · intro h;rw [gL h];rfl
  · intro h;rw [dY h];rfl) (by
  unfold bZ
  have:decide ((H.length:Int)<(H.length:Int))=false:=aL (by omega)
  simp only [this,cond_false])
 rw [aH]
 by_cases hx: ∃w,w<H.length/\(H[w]!).2.2.1=n
 · obtain ⟨k,h1,h2,h3⟩:=HE hx
   have:=key.1 k h1 h2 h3
   rw [show ((0:Nat):Int)=0 from rfl] at this;rw [this,aQ hx];simp only [aF,aQ (show (0:Int)<=(k:Int) by omega)]
 · have:=key.2 fun i hi he=>hx ⟨i,hi,he⟩
   rw [show ((0:Nat):Int)=0 from rfl] at this;rw [this,aL hx];rfl
noncomputable def cO (a:aO) (t:Int×Int) (n:Int):Ev:=(t.1,t.2,n,lF a.slots)
noncomputable def mI (a:aO) (t:Int×Int) (n:Int):aO:=
 ⟨gC a.slots,(iY (a.heap.length+1) (cO a t n) a.heap.length (a.heap++[cO a t n]) a.where_).1,(iY (a.heap.length+1) (cO a t n) a.heap.length (a.heap++[cO a t n]) a.where_).2⟩
section
variable {a : aO} (ok : gZ a) (op : AR a.slots) {t : Int × Int} (ht : bW t) (h64 : oS t) {n : Int} (n0 : 0 <= n) (n1 : n <= 1000000)
include ok op
theorem E8:Ev.ix (cO a t n)=(cI a.slots:Int)/\cI a.slots<a.slots.uses.length/\a.slots.used[cI a.slots]! =false/\a.slots.free.length=(gC a.slots).free.length+1:=by
 obtain ⟨h1,h2,h3⟩:=BL ok.so op.1;refine ⟨rfl,h1,?_,?_⟩
 · have:=ok.so.uf (cI a.slots) h1
   cases h:a.slots.used[cI a.slots]! with
   |false=>rfl
   |true=>exact absurd h3 (this.1 h)
 · show _=(a.slots.free.take (a.slots.free.length-1)).length+1
   have:=op.1
   rw [List.length_take];omega
theorem M1:GM (a.heap.length+1) (cO a t n) (fun e=>e∈a.heap) (a.heap++[cO a t n]) a.where_ a.heap.length:=by
 obtain ⟨h1,h2,h3,h4⟩:=E8 (t:=t) (n:=n) ok op;have cell: ∀w,w<a.heap.length->(a.heap++[cO a t n])[w]! =a.heap[w]!:=fun w hw=>lC hw
 refine ⟨by omega,by simp,fun w hw hwi=>?_,by rw [h1];omega,by rw [h1,ok.wl];omega,fun e=>?_⟩
 · have hw':w<a.heap.length:=by omega
   rw [cell w hw'];obtain ⟨c1,c2,c3,c4,c5⟩:=ok.back hw';refine ⟨c1,by rw [ok.wl];exact c2,c5,fun h=>?_⟩
   rw [h1] at h
   have:Ev.n a.heap[w]! =cI a.slots:=by show (Ev.ix a.heap[w]!).toNat=_;omega
   exact ok.no_ev h3 hw' this
 · constructor
   · rintro ⟨w,hw,hwi,rfl⟩
     rw [cell w (by omega)]
     exact bF (by omega)
   · intro h
     obtain ⟨w,hw,rfl⟩:=bE.1 h;exact ⟨w,by omega,by omega,cell w hw⟩
theorem RI (ht:bW t):FH (a.heap.length+1) (a.heap++[cO a t n]) a.heap.length:=by
 have _:=op;have cell: ∀w,w<a.heap.length->(a.heap++[cO a t n])[w]! =a.heap[w]!:=fun w hw=>lC hw
 refine ⟨fun w hw=>?_,fun k k0 hk k1 k2=>?_,fun i0 k k0 hk hp=>by omega⟩
 · by_cases h:w<a.heap.length
   · rw [cell w h];exact (ok.ev w h).den
   · have:w=a.heap.length:=by omega
     subst this;rw [lV (Nat.le_refl _),Nat.sub_self];exact ht.1
 · rw [cell k (by omega),cell _ (by omega)]
   exact ok.ord k k0 (by omega)
theorem yM (ht:bW t):IH (a.heap.length+1) (cO a t n) (fun e=>e∈a.heap) (fun k=>k≠Ev.n (cO a t n)/\ ∀w,w<a.heap.length+1->w≠a.heap.length->Ev.n (a.heap++[cO a t n])[w]!≠k) (a.heap++[cO a t n]) a.where_ (mI a t n).heap (mI a t n).where_:=
 RD (x:=cO a t n) ht.1 (M1 ok op) (RI ok op ht)
theorem K1 (ht:bW t):(mI a t n).heap.length=a.heap.length+1:=by
 have:=(yM (n:=n) ok op ht).hl
 rw [this];simp
theorem aAB (ht:bW t) (e:Ev):e∈(mI a t n).heap↔(e=cO a t n\/e∈a.heap):=by
 have st:=yM (n:=n) ok op ht;rw [bE,K1 ok op ht];exact st.mem e
theorem ON (ht:bW t) (h64:oS t) (n0:0<=n) (n1:n<=1000000):AS (cO a t n):=by
 have _:=ok;have _:=op;exact ⟨ht,h64,n0,n1⟩
theorem aGx (ht:bW t) (h64:oS t) (n0:0<=n) (n1:n<=1000000) (nn: ∀e∈a.heap,Ev.num e≠n):gZ (mI a t n):=by
 have st:=yM (n:=n) ok op ht;have len:=K1 (n:=n) ok op ht;obtain ⟨h1,h2,h3,h4⟩:=E8 (t:=t) (n:=n) ok op;have hu:=ok.so.ul;have ul:(gC a.slots).uses.length=a.slots.uses.length:=List.length_set;have key:=LT (aAv ok.so op) st (by simp) (by rw [ul];exact ok.wl) (by rw [ul];have:=ok.hl;omega) (fun j hj hu'=>by
  rw [ul] at hj;change (a.slots.used.set (cI a.slots) true)[j]! =true at hu';rw [bV] at hu'
  show∃e:Ev,_/\_/\_=(a.slots.uses.set (cI a.slots) (a.slots.uses[cI a.slots]!+1))[j]!
  rw [bV]
  by_cases e:j=cI a.slots
  · rw [if_pos ⟨e,h2⟩]
    exact ⟨cO a t n,.inl rfl,by rw [h1,e],rfl⟩
  · rw [if_neg (fun k=>e k.1)]
    rw [if_neg (fun k=>e k.1)] at hu'
    obtain ⟨w,hw,e1,e2⟩:=ok.used_ev hj hu';exact ⟨a.heap[w]!,.inr (bF hw),e1,e2⟩) (fun j hj hu'=>by
  rw [ul] at hj;change (a.slots.used.set (cI a.slots) true)[j]! =false at hu';rw [bV] at hu'
  by_cases e:j=cI a.slots
  · rw [if_pos ⟨e,by omega⟩] at hu';cases hu'
  · rw [if_neg (fun k=>e k.1)] at hu'
    refine ⟨⟨?_,fun w hw hwi=>?_⟩,ok.un j hj hu'⟩
    · show j≠(Ev.ix (cO a t n)).toNat
      omega
    · rw [lC (by omega)]
      exact ok.no_ev hu' (by omega)) (by
  rintro e (rfl|h)
  · exact ON ok op ht h64 n0 n1
  · obtain ⟨w,hw,rfl⟩:=bE.1 h
    exact ok.ev w hw) (by
  rintro e f (rfl|he) (rfl|hf) hn
  · rfl
  · exact absurd hn.symm (nn f hf)
  · exact absurd hn (nn e he)
  · obtain ⟨v,hv,rfl⟩:=bE.1 he
    obtain ⟨w,hw,rfl⟩:=bE.1 hf;rw [ok.nums hv hw hn])
 have:(mI a t n).heap.take (a.heap.length+1)=(mI a t n).heap:=List.take_of_length_le (by rw [len];exact Nat.le_refl _)
 show gZ ⟨gC a.slots,(mI a t n).heap,(mI a t n).where_⟩;rw [<- this];exact key
theorem K2 (ht:bW t) (h64:oS t) (n0:0<=n) (n1:n<=1000000):CP (a.heap.length+1) (a.heap++[cO a t n]) a.where_:=by
 have bd:=ok.bd;obtain ⟨h1,h2,h3,h4⟩:=E8 (t:=t) (n:=n) ok op;refine ⟨by simp,by simp;omega,fun w hw=>?_⟩
 by_cases h:w<a.heap.length
 · rw [lC h];exact ok.cells.ev w h
 · have:w=a.heap.length:=by omega
   subst this;rw [lV (Nat.le_refl _),Nat.sub_self];exact ⟨ON ok op ht h64 n0 n1,by show 0<=Ev.ix (cO a t n);omega,by show Ev.ix (cO a t n)<_;rw [ok.wl];omega⟩
theorem GO (fit:HH a) (ht:bW t) (h64:oS t) (n0:0<=n) (n1:n<=1000000) (nn: ∀e∈a.heap,Ev.num e≠n):kG a t n=some (mI a t n,lF a.slots,0):=by
 have bd:=ok.bd;obtain ⟨h1,h2,h3,h4⟩:=E8 (t:=t) (n:=n) ok op;have hn: ¬ ∃w,w<a.heap.length/\(a.heap[w]!).2.2.1=n:=by
  rintro ⟨w,hw,e⟩;exact nn _ (bF hw) e
 unfold kG;rw [rZ a fit,if_pos ok,gB h64,if_pos ht,M0 _ _ (by omega),aL hn,E6 ok.so,if_pos op]
 have se:=T3 (u:=(gC a.slots).uses) (us:=(gC a.slots).used) (fr:=(gC a.slots).free) (ON ok op ht h64 n0 n1) (show 0<=Ev.ix (cO a t n) by omega) (K2 ok op ht h64 n0 n1) (by simp) (show a.heap.length<a.heap.length+1 by omega) (show Ev.ix (cO a t n)<a.where_.length by rw [ok.wl];omega)
 have e1:aA .i64 (((a.heap++[cO a t n]).length:Int) -1)=(a.heap.length:Int):=by rw [wi,List.length_append];simp;omega
 have ap:aY a.heap [(t.1,t.2,n,lF a.slots)]=some (a.heap++[cO a t n]):=eG (by simp;omega)
 have se':fK ((gC a.slots).uses,(gC a.slots).used,(gC a.slots).free,(a.heap.length:Int),t.1,t.2,n,(lF a.slots).1,(lF a.slots).2,a.heap++[cO a t n],a.where_)=some (iY (a.heap.length+1) (cO a t n) a.heap.length (a.heap++[cO a t n]) a.where_):=se
 simp only [aF,gt_iff_lt,Int.lt_irrefl,if_false,show ((0:Int) !=0)=false from rfl,cond_false,aL (show¬n<0 by omega),aL (show¬1000000<n by omega),bG (show a.heap.length<=1048576 by omega),bG (show a.where_.length<=1048576 by omega),ap,aH,e1,se']
 rfl
theorem HX (ht:bW t) (h64:oS t) (n0:0<=n) (n1:n<=1000000):eE a t n=some (mI a t n,lF a.slots):=by
 have bd:=ok.bd;obtain ⟨h1,h2,h3,h4⟩:=E8 (t:=t) (n:=n) ok op;unfold eE;rw [CQ ok];have e1:aA .i64 (((a.heap++[cO a t n]).length:Int) -1)=(a.heap.length:Int):=by rw [wi,List.length_append];simp;omega
 have ap:aY a.heap [(t.1,t.2,n,lF a.slots)]=some (a.heap++[cO a t n]):=eG (by simp;omega)
 have hx:=ON (n:=n) ok op ht h64 n0 n1;have last:iY (a.heap.length+1) (cO a t n) a.heap.length (a.heap++[cO a t n]) a.where_=_:=RE (x:=cO a t n) ht.1 (M1 ok op) (RI ok op ht) (fun k k0 hk hp=>by omega)
 have hs:(a.heap++[cO a t n]).set a.heap.length (cO a t n)=a.heap++[cO a t n]:=set_same (by rw [lV (Nat.le_refl _),Nat.sub_self];rfl)
 have ws:cL a.where_ (lF a.slots).1 (a.heap.length:Int)=a.where_.set (Ev.n (cO a t n)) (a.heap.length:Int):=rfl
 have u1:tR ((gC a.slots).uses,(gC a.slots).used,(gC a.slots).free,(a.heap.length:Int),a.heap++[cO a t n],a.where_.set (Ev.n (cO a t n)) (a.heap.length:Int))=some (((DV (cO a t n) a.heap.length (a.heap++[cO a t n]) a.where_).1:Int),(DV (cO a t n) a.heap.length (a.heap++[cO a t n]) a.where_).2.1.set (DV (cO a t n) a.heap.length (a.heap++[cO a t n]) a.where_).1 (cO a t n),(DV (cO a t n) a.heap.length (a.heap++[cO a t n]) a.where_).2.2.set (Ev.n (cO a t n)) ((DV (cO a t n) a.heap.length (a.heap++[cO a t n]) a.where_).1:Int)):=by
  unfold tR
  have:=aAy (c0:=((gC a.slots).uses,(gC a.slots).used,(gC a.slots).free,(a.heap.length:Int),a.heap++[cO a t n],a.where_.set (Ev.n (cO a t n)) (a.heap.length:Int))) (u:=(gC a.slots).uses) (us:=(gC a.slots).used) (fr:=(gC a.slots).free) hx (show 0<=Ev.ix (cO a t n) by omega) a.heap.length (a.heap++[cO a t n]) a.where_ (K2 ok op ht h64 n0 n1) (by omega) (by simp) (by rw [ok.wl];omega) rfl List.length_set
  rw [hs] at this;exact this
 have g1:aK a.where_ (lF a.slots).1=some a.where_[cI a.slots]!:=aD a.where_ (cI a.slots) (by rw [ok.wl];exact h2)
 simp only [aF,KV ok.so op,ap,g1,aH,e1,ws,u1];unfold mI;rw [last]
end
theorem GP {a:aO} (ok:gZ a) (op: ¬AR a.slots) (fit:HH a) {t:Int×Int} (ht:bW t) (h64:oS t) {n:Int} (n0:0<=n) (n1:n<=1000000) (nn: ∀e∈a.heap,Ev.num e≠n):kG a t n=some (⟨⟨[],[],[]⟩,[],[]⟩,(0,0),18):=by
 have bd:=ok.bd;have hn: ¬ ∃w,w<a.heap.length/\(a.heap[w]!).2.2.1=n:=by
  rintro ⟨w,hw,e⟩;exact nn _ (bF hw) e
 unfold kG;rw [rZ a fit,if_pos ok,gB h64,if_pos ht,M0 _ _ (by omega),aL hn,E6 ok.so,if_neg op]
 simp only [aF,gt_iff_lt,Int.lt_irrefl,if_false,show ((0:Int) !=0)=false from rfl,cond_false,aL (show¬n<0 by omega),aL (show¬1000000<n by omega),show ((18:Int) !=0)=true from rfl,cond_true]
section
variable {a : aO} (ok : gZ a) {i : Nat} (hi : i < a.heap.length)
include ok hi
end
abbrev DW:=Int×Int×Int
theorem gZ.fit {a:aO} (ok:gZ a):HH a:=by
 have bd:=ok.bd
 have:=ok.so.fl
 have:=ok.so.n2
 exact ⟨by omega,by omega,by omega,fun w hw=>(ok.ev w hw).2.1⟩
theorem V3 (l:List DW) (id:Int) (hl:l.length<=1000000) (hs: ∀i j,i<j->j<l.length->(l[i]!).1<(l[j]!).1):
 (∀k,k<l.length->(l[k]!).1=id->aT l id ()=some ((k:Int),true))/\
 ((∀k,k<l.length->(l[k]!).1≠id)-> ∃m,m<=l.length/\(∀i,i<m->(l[i]!).1<id)/\(∀i,m<=i->i<l.length->id<(l[i]!).1)/\aT l id ()=some ((m:Int),false)):=by
 obtain ⟨m,m1,m2,m3⟩:=RC (fun i=>(l[i]!).1) id l.length hs
 have run:aT l id ()=aE aS (l,id,(l.length:Int),(m:Int),(m:Int)):=by
  unfold aT;refine GJ (body:=aS) (fun lo hi=>(l,id,(l.length:Int),(lo:Int),(hi:Int))) l.length m (fun i=>(l[i]!).1<id) (fun lo hi h1 h2=>?_) m2 (fun i h1 h2 h3=>by have:=m3 i h1 h2;omega) l.length 0 l.length (by omega) (by omega) m1 (Nat.le_refl _)
  have e1:decide ((lo:Int)<(hi:Int))=true:=aQ (by omega)
  have hh:=aGr (a:=lo) (b:=hi) (by omega) (by omega)
  unfold aS rF;simp only [e1,cond_true,hh,aD l ((lo+hi) / 2) (by omega),jY,aF,aX (show (lo+hi) / 2<1000000000 by omega)]
  constructor
  · intro h
    have:decide (jJ (l[(lo+hi) / 2]!).1 id<0)=true:=by
     rcases fF (l[(lo+hi) / 2]!).1 id with ⟨a,e⟩|⟨a,e⟩|⟨a,e⟩<;>rw [e]<;>first|rfl|omega
    rw [this];rfl
  · intro h
    have:decide (jJ (l[(lo+hi) / 2]!).1 id<0)=false:=by
     rcases fF (l[(lo+hi) / 2]!).1 id with ⟨a,e⟩|⟨a,e⟩|⟨a,e⟩<;>rw [e]<;>first|rfl|omega
    rw [this];rfl
 have fin:aE aS (l,id,(l.length:Int),(m:Int),(m:Int))=if m<l.length/\(l[m]!).1=id then some ((m:Int),true) else some ((m:Int),false):=by
  have e1:decide ((m:Int)<(m:Int))=false:=aL (by omega)
  by_cases hm:m<l.length
  · have e2:decide ((m:Int)<(l.length:Int))=true:=aQ (by omega)
    have body:aS (l,id,(l.length:Int),(m:Int),(m:Int))=some (.done ((m:Int),jJ (l[m]!).1 id==0)):=by
     unfold aS rF;simp only [e1,e2,cond_true,cond_false,aD l m hm,jY,aF]
    rw [aP body];rcases fF (l[m]!).1 id with ⟨a,e⟩|⟨a,e⟩|⟨a,e⟩
    · rw [e,if_neg (fun h=>by omega)];rfl
    · rw [e,if_pos ⟨hm,a⟩];rfl
    · rw [e,if_neg (fun h=>by omega)];rfl
  · have e2:decide ((m:Int)<(l.length:Int))=false:=aL (by omega)
    have body:aS (l,id,(l.length:Int),(m:Int),(m:Int))=some (.done ((m:Int),false)):=by
     unfold aS;simp only [e1,e2,cond_false]
    rw [aP body,if_neg (fun h=>hm h.1)]
 rw [run,fin];constructor
 · intro k hk he
   have hkm:k=m:=by
    rcases Nat.lt_trichotomy k m with h|h|h
    · have:=m2 k h;omega
    · exact h
    · have h1:=m3 m (Nat.le_refl _) (by omega)
      have h2:=hs m k h hk;omega
   subst hkm;rw [if_pos ⟨hk,he⟩]
 · intro h
   refine ⟨m,m1,m2,fun i h1 h2=>?_,?_⟩
   · have:=m3 i h1 h2
     have:=h i h2
     omega
   · rw [if_neg (fun k=>h m k.1 k.2)]
theorem aAC:cH=aT:=rfl
theorem aGy:cK=aT:=rfl
def eT (x:Int×Int):Prop:=0<=x.1/\x.1<=65535/\0<=x.2/\x.2<=65535/\x.1≠x.2
theorem CR (x:Int×Int):tI x=some (decide (eT x)):=by
 obtain ⟨a,b⟩:=x;unfold tI;dsimp only
 by_cases h1:0<=a
 · by_cases h3:0<=b
   · have e1:decide (0<=if b<a then b else a)=true:=aQ (by split<;>omega)
     rw [e1]
     by_cases h2:a<=65535
     · by_cases h4:b<=65535
       · have e2:decide ((if b>a then b else a)<=65535)=true:=aQ (by split<;>omega)
         rw [e2]
         by_cases h5:a=b
         · rw [dA h5,aL (p:=eT (a,b)) (fun h=>h.2.2.2.2 h5)];rfl
         · rw [dL h5,aQ (p:=eT (a,b)) ⟨h1,h2,h3,h4,h5⟩];rfl
       · have e2:decide ((if b>a then b else a)<=65535)=false:=aL (by split<;>omega)
         rw [e2,aL (p:=eT (a,b)) (fun h=>h4 h.2.2.2.1)];rfl
     · have e2:decide ((if b>a then b else a)<=65535)=false:=aL (by split<;>omega)
       rw [e2,aL (p:=eT (a,b)) (fun h=>h2 h.2.1)];rfl
   · have e1:decide (0<=if b<a then b else a)=false:=aL (by split<;>omega)
     rw [e1,aL (p:=eT (a,b)) (fun h=>h3 h.2.2.1)];rfl
 · have e1:decide (0<=if b<a then b else a)=false:=aL (by split<;>omega)
   rw [e1,aL (p:=eT (a,b)) (fun h=>h1 h.1)];rfl
theorem CS (x:Int×Int):tN x=some (decide (eT x)):=by
 obtain ⟨a,b⟩:=x;unfold tN;dsimp only
 by_cases h1:0<=a
 · by_cases h2:a<=65535
   · by_cases h3:0<=b
     · by_cases h4:b<=65535
       · by_cases h5:a=b
         · rw [dA h5,aQ h1,aQ h2,aQ h3,aQ h4,aL (p:=eT (a,b)) (fun h=>h.2.2.2.2 h5)];rfl
         · rw [dL h5,aQ h1,aQ h2,aQ h3,aQ h4,aQ (p:=eT (a,b)) ⟨h1,h2,h3,h4,h5⟩];rfl
       · rw [aQ h1,aQ h2,aQ h3,aL h4,aL (p:=eT (a,b)) (fun h=>h4 h.2.2.2.1)];rfl
     · rw [aQ h1,aQ h2,aL h3,aL (p:=eT (a,b)) (fun h=>h3 h.2.2.1)];rfl
   · rw [aQ h1,aL h2,aL (p:=eT (a,b)) (fun h=>h2 h.2.1)];rfl
 · rw [aL h1,aL (p:=eT (a,b)) (fun h=>h1 h.1)];rfl
structure fG (c:aZ):Prop where
 len:c.list.length<=200
 n0:0<=c.next_
 n1:c.next_<=1000000
 cv: ∀i,i<c.list.length->eT (c.list[i]!).2
 nr: ∀i,i<c.list.length->0<=(c.list[i]!).1/\(c.list[i]!).1<c.next_
 up: ∀i j,i<j->j<c.list.length->(c.list[i]!).1<(c.list[j]!).1
 nd: ∀i j,i<j->j<c.list.length->(c.list[i]!).2≠(c.list[j]!).2
def AU (l:List DW) (i:Nat):Int:=if i=0 then -1 else (l[i-1]!).1
def T5 (c:aZ) (i:Nat):Prop:=eT (c.list[i]!).2/\(∀j,j<i->(c.list[j]!).2≠(c.list[i]!).2)/\AU c.list i<(c.list[i]!).1/\(c.list[i]!).1<c.next_
theorem fG.iff {c:aZ} (h1:c.list.length<=200) (h2:0<=c.next_) (h3:c.next_<=1000000):fG c↔ ∀i,i<c.list.length->T5 c i:=by
 constructor
 · intro ok i hi
   refine ⟨ok.cv i hi,fun j hj=>ok.nd j i hj hi,?_,(ok.nr i hi).2⟩
   unfold AU;split
   · have:=(ok.nr i hi).1;omega
   · exact ok.up (i-1) i (by omega) hi
 · intro h
   have low: ∀i,i<c.list.length->0<=(c.list[i]!).1:=by
    intro i
    induction i with
    |zero=>
     intro hi
     have:=(h 0 hi).2.2.1
     unfold AU at this;rw [if_pos rfl] at this;omega
    |succ i ih=>
     intro hi;have h1:=(h (i+1) hi).2.2.1;unfold AU at h1;rw [if_neg (by omega),show i+1-1=i by omega] at h1
     have:=ih (by omega)
     omega
   have up: ∀i j,i<j->j<c.list.length->(c.list[i]!).1<(c.list[j]!).1:=by
    intro i j
    induction j with
    |zero=>intro h;omega
    |succ j ih=>
     intro hij hj;have h1:=(h (j+1) hj).2.2.1;unfold AU at h1;rw [if_neg (by omega),show j+1-1=j by omega] at h1
     by_cases e:i=j
     · subst e;exact h1
     · have:=ih (by omega) (by omega)
       omega
   exact ⟨h1,h2,h3,fun i hi=>(h i hi).1,fun i hi=>⟨low i hi,(h i hi).2.2.2⟩,up,fun i j hij hj=>(h j hj).2.1 i hij⟩
theorem K3 (l:List DW) (k:Nat) (a b:Int):nV [a,b] ((l.take k).map fun x=>[x.2.1,x.2.2])=true:=by
 unfold nV;rw [List.all_eq_true];intro x hx;obtain ⟨y,hy,rfl⟩:=List.mem_map.1 hx;rfl
theorem K4 (l:List DW) (k:Nat) (x:Int×Int):HS ((l.take k).map fun y=>[y.2.1,y.2.2]) [x.1,x.2]=decide (∃j,j<k/\j<l.length/\(l[j]!).2=x):=by
 unfold HS;rw [Bool.eq_iff_iff,List.any_eq_true,decide_eq_true_iff];constructor
 · rintro ⟨y,hy,he⟩
   obtain ⟨z,hz,rfl⟩:=List.mem_map.1 hy;obtain ⟨j,h1,h2,rfl⟩:=eA.1 hz
   have:[x.1,x.2]=[(l[j]!).2.1,(l[j]!).2.2]:=by simpa using he
   injection this with e1 e2;injection e2 with e2 _;exact ⟨j,h1,h2,Prod.ext e1.symm e2.symm⟩
 · rintro ⟨j,h1,h2,h3⟩
   refine ⟨[(l[j]!).2.1,(l[j]!).2.2],List.mem_map.2 ⟨l[j]!,eA.2 ⟨j,h1,h2,rfl⟩,rfl⟩,?_⟩;rw [h3];simp
theorem CT (c:aZ):pH c=some (if fG c then 0 else 8):=by
 unfold pH;simp only [aH]
 by_cases h1:200<c.list.length
 · rw [aQ (show (200:Int)<(c.list.length:Int) by omega),if_neg (fun h=>by have:=h.len;omega)];rfl
 rw [aL (show¬(200:Int)<(c.list.length:Int) by omega)]
 by_cases h2:c.next_<0
 · rw [aQ h2,if_neg (fun h=>by have:=h.n0;omega)];rfl
 rw [aL h2]
 by_cases h3:1000000<c.next_
 · rw [aQ h3,if_neg (fun h=>by have:=h.n1;omega)];rfl
 rw [aL h3];simp only [cond_false];have key:=cU (body:=qF) (fun i=>(AU c.list i,c.list,(c.list.length:Int),(i:Int),c.next_,c.list,(c.list.take i).map fun x=>[x.2.1,x.2.2])) c.list.length (fun i=> ¬T5 c i) (r:=8) (e:=0) (fun i hi=>by
  have e1:decide ((i:Int)<(c.list.length:Int))=true:=aQ (by omega)
  have has:PR ((c.list.take i).map fun x=>[x.2.1,x.2.2]) [(c.list[i]!).2.1,(c.list[i]!).2.2]=some (decide (∃j,j<i/\j<c.list.length/\(c.list[j]!).2=(c.list[i]!).2)):=by
   unfold PR;rw [K3,K4];rfl
  have nx:(c.list.take (i+1)).map (fun x=>[x.2.1,x.2.2])=((c.list.take i).map fun x=>[x.2.1,x.2.2])++[[(c.list[i]!).2.1,(c.list[i]!).2.2]]:=by
   rw [dK hi,List.map_append];rfl
  have ln:AU c.list (i+1)=(c.list[i]!).1:=by unfold AU;rw [if_neg (by omega),show i+1-1=i by omega]
  unfold qF;simp only [e1,cond_true,aD c.list i hi,aF,CR,has,nx,ln,aX (show i<1000000000 by omega)]
  unfold T5
  by_cases b1:eT (c.list[i]!).2
  case neg=>
   rw [aL b1];exact ⟨fun _=>rfl,fun h=>absurd (Classical.not_not.1 h).1 b1⟩
  rw [aQ b1]
  by_cases b2: ∃j,j<i/\j<c.list.length/\(c.list[j]!).2=(c.list[i]!).2
  · rw [aQ b2]
    refine ⟨fun _=>rfl,fun h=>?_⟩
    obtain ⟨j,j1,j2,j3⟩:=b2;exact absurd j3 ((Classical.not_not.1 h).2.1 j j1)
  rw [aL b2];have b2': ∀j,j<i->(c.list[j]!).2≠(c.list[i]!).2:=fun j hj he=>b2 ⟨j,hj,by omega,he⟩
  by_cases b3:(c.list[i]!).1<=AU c.list i
  · rw [aQ b3]
    exact ⟨fun _=>rfl,fun h=>absurd (Classical.not_not.1 h).2.2.1 (by omega)⟩
  rw [aL b3]
  by_cases b4:c.next_<=(c.list[i]!).1
  · rw [aQ b4]
    exact ⟨fun _=>rfl,fun h=>absurd (Classical.not_not.1 h).2.2.2 (by omega)⟩
  rw [aL b4];have ins:PS ((c.list.take i).map fun x=>[x.2.1,x.2.2]) [(c.list[i]!).2.1,(c.list[i]!).2.2]=some (((c.list.take i).map fun x=>[x.2.1,x.2.2])++[[(c.list[i]!).2.1,(c.list[i]!).2.2]]):=by
   unfold PS SS;rw [K3,K4,aL b2];rfl
  rw [ins];exact ⟨fun h=>absurd ⟨b1,b2',by omega,by omega⟩ h,fun _=>rfl⟩) (by
  unfold qF
  have:decide ((c.list.length:Int)<(c.list.length:Int))=false:=aL (by omega)
  simp only [this,cond_false])
 have h0:AU c.list 0= -1:=rfl;rw [h0] at key
 by_cases ok:fG c
 · rw [if_pos ok]
   exact key.2 fun i hi=>Classical.not_not.2 ((fG.iff (by omega) (by omega) (by omega)).1 ok i hi)
 · rw [if_neg ok]
   rw [fG.iff (by omega) (by omega) (by omega)] at ok
   obtain ⟨i,h⟩:=Classical.not_forall.1 ok;obtain ⟨hi,hx⟩:=Classical.not_imp.1 h;exact key.1 ⟨i,hi,hx⟩
theorem RJ (c:aZ) (i:Nat) (hi:i<c.list.length) (hl:c.list.length<=200):
 ((∃j,j<i/\(c.list[j]!).2=(c.list[i]!).2)->aE fE ((i:Int),0,c.next_,c.list,c.list[i]!)=some (.done 8))/\
 ((∀j,j<i-> ¬(c.list[j]!).2=(c.list[i]!).2)->aE fE ((i:Int),0,c.next_,c.list,c.list[i]!)=some (.next (((i+1:Nat):Int),c.next_,c.list))):=by
 refine cU (body:=fE) (fun j=>((i:Int),(j:Int),c.next_,c.list,c.list[i]!)) i (fun j=>(c.list[j]!).2=(c.list[i]!).2) (r:= .done 8) (e:= .next (((i+1:Nat):Int),c.next_,c.list)) (fun j hj=>?_) ?_
 · have e1:decide ((j:Int)<(i:Int))=true:=aQ (by omega)
   unfold fE;simp only [e1,cond_true,aD c.list j (by omega),aF,aX (show j<1000000000 by omega)]
   generalize c.list[j]! =x;generalize c.list[i]! =y;constructor
   · intro h;rw [gL (congrArg Prod.fst h),gL (congrArg Prod.snd h)];rfl
   · intro h
     by_cases h1:x.2.1=y.2.1
     · rw [gL h1,dY (fun h2=>h (Prod.ext h1 h2))];rfl
     · rw [dY h1];rfl
 · unfold fE
   have:decide ((i:Int)<(i:Int))=false:=aL (by omega)
   simp only [this,cond_false,aX (show i<1000000000 by omega)]
theorem AV (c:aZ):rJ c=some (if fG c then 0 else 8):=by
 unfold rJ;simp only [aH]
 by_cases h1:200<c.list.length
 · rw [aQ (show (200:Int)<(c.list.length:Int) by omega),if_neg (fun h=>by have:=h.len;omega)];rfl
 rw [aL (show¬(200:Int)<(c.list.length:Int) by omega)]
 by_cases h2:c.next_<0
 · rw [aQ h2,if_neg (fun h=>by have:=h.n0;omega)];rfl
 rw [aL h2]
 by_cases h3:1000000<c.next_
 · rw [aQ h3,if_neg (fun h=>by have:=h.n1;omega)];rfl
 rw [aL h3];simp only [cond_false];have key:=cU (body:=oH) (fun i=>((i:Int),c.next_,c.list)) c.list.length (fun i=> ¬(eT (c.list[i]!).2/\0<=(c.list[i]!).1/\(c.list[i]!).1<c.next_/\(0<i->(c.list[i-1]!).1<(c.list[i]!).1)/\ ∀j,j<i-> ¬(c.list[j]!).2=(c.list[i]!).2)) (r:=8) (e:=0) (fun i hi=>by
  have e1:decide ((i:Int)<(c.list.length:Int))=true:=aQ (by omega)
  have l1:=RJ c i hi (by omega)
  unfold oH;simp only [aH,e1,cond_true,aD c.list i hi,aF,CS]
  by_cases b1:eT (c.list[i]!).2
  case neg=>
   rw [aL b1];exact ⟨fun _=>rfl,fun h=>absurd (Classical.not_not.1 h).1 b1⟩
  rw [aQ b1]
  by_cases b2:(c.list[i]!).1<0
  · rw [aQ b2]
    exact ⟨fun _=>rfl,fun h=>absurd (Classical.not_not.1 h).2.1 (by omega)⟩
  rw [aL b2]
  by_cases b3:c.next_<=(c.list[i]!).1
  · rw [aQ b3]
    exact ⟨fun _=>rfl,fun h=>absurd (Classical.not_not.1 h).2.2.1 (by omega)⟩
  rw [aL b3];simp only [Bool.not_true,cond_false];have go:(0<i->(c.list[i-1]!).1<(c.list[i]!).1)->(¬(eT (c.list[i]!).2/\0<=(c.list[i]!).1/\(c.list[i]!).1<c.next_/\(0<i->(c.list[i-1]!).1<(c.list[i]!).1)/\ ∀j,j<i-> ¬(c.list[j]!).2=(c.list[i]!).2)->aE fE ((i:Int),0,c.next_,c.list,c.list[i]!)=some (.done 8))/\
   (¬¬(eT (c.list[i]!).2/\0<=(c.list[i]!).1/\(c.list[i]!).1<c.next_/\(0<i->(c.list[i-1]!).1<(c.list[i]!).1)/\ ∀j,j<i-> ¬(c.list[j]!).2=(c.list[i]!).2)->aE fE ((i:Int),0,c.next_,c.list,c.list[i]!)=some (.next (((i+1:Nat):Int),c.next_,c.list))):=by
   intro hp;constructor
   · intro h
     refine l1.1 (Classical.byContradiction fun hx=>h ⟨b1,by omega,by omega,hp,fun j hj he=>hx ⟨j,hj,he⟩⟩)
   · intro h
     exact l1.2 (Classical.not_not.1 h).2.2.2.2
  by_cases b4:0<i
  · have f1:decide ((0:Int)<(i:Int))=true:=aQ (by omega)
    simp only [f1,cond_true,E4 (show i<1000000000 by omega) b4,aD c.list (i-1) (by omega),aF]
    by_cases b5:(c.list[i]!).1<=(c.list[i-1]!).1
    · rw [aQ b5]
      exact ⟨fun _=>rfl,fun h=>absurd ((Classical.not_not.1 h).2.2.2.1 b4) (by omega)⟩
    · rw [aL b5]
      exact go fun _=>by omega
  · have f1:decide ((0:Int)<(i:Int))=false:=aL (by omega)
    rw [f1];exact go fun h=>absurd h b4) (by
  unfold oH
  have:decide ((c.list.length:Int)<(c.list.length:Int))=false:=aL (by omega)
  simp only [aH,this,cond_false])
 have same:fG c↔ ∀i,i<c.list.length->(eT (c.list[i]!).2/\0<=(c.list[i]!).1/\(c.list[i]!).1<c.next_/\(0<i->(c.list[i-1]!).1<(c.list[i]!).1)/\ ∀j,j<i-> ¬(c.list[j]!).2=(c.list[i]!).2):=by
  constructor
  · intro ok i hi
    exact ⟨ok.cv i hi,(ok.nr i hi).1,(ok.nr i hi).2,fun h=>ok.up (i-1) i (by omega) hi,fun j hj=>ok.nd j i hj hi⟩
  · intro h
    rw [fG.iff (by omega) (by omega) (by omega)]
    intro i hi;obtain ⟨a1,a2,a3,a4,a5⟩:=h i hi;refine ⟨a1,a5,?_,a3⟩;unfold AU;split
    · omega
    · exact a4 (by omega)
 by_cases ok:fG c
 · rw [if_pos ok]
   exact key.2 fun i hi=>Classical.not_not.2 (same.1 ok i hi)
 · rw [if_neg ok]
   rw [same] at ok;obtain ⟨i,h⟩:=Classical.not_forall.1 ok;obtain ⟨hi,hx⟩:=Classical.not_imp.1 h;exact key.1 ⟨i,hi,hx⟩
def tX (l:List DW) (x:Int×Int):Prop:= ∃i,i<l.length/\(l[i]!).2=x
theorem RK (l:List DW) (x:Int×Int) (hl:l.length<=1000000):bS l x=some (decide (tX l x)):=by
 unfold bS eW;have key:=rQ (body:=cP) (fun i=>(l,x.1,x.2,(l.length:Int),(i:Int))) l.length (fun i=>(l[i]!).2=x) (fun i=>(i:Int)) (e:= -1) (fun i hi=>by
  have e1:decide ((i:Int)<(l.length:Int))=true:=aQ (by omega)
  unfold cP DJ;simp only [e1,cond_true,aD l i hi,aF,aX (show i<1000000000 by omega)]
  generalize l[i]! =y;constructor
  · intro h;rw [gL (congrArg Prod.fst h),gL (congrArg Prod.snd h)];rfl
  · intro h
    by_cases h1:y.2.1=x.1
    · rw [gL h1,dY (fun h2=>h (Prod.ext h1 h2))];rfl
    · rw [dY h1];rfl) (by
  unfold cP
  have:decide ((l.length:Int)<(l.length:Int))=false:=aL (by omega)
  simp only [this,cond_false])
 rw [aH]
 by_cases hx:tX l x
 · obtain ⟨k,h1,h2,h3⟩:=HE hx
   have:=key.1 k h1 h2 h3
   rw [show ((0:Nat):Int)=0 from rfl] at this;rw [this,aQ hx];simp only [aF,aQ (show (0:Int)<=(k:Int) by omega)]
 · have:=key.2 fun i hi he=>hx ⟨i,hi,he⟩
   rw [show ((0:Nat):Int)=0 from rfl] at this;rw [this,aL hx];rfl
theorem GQ:dE=bS:=rfl
theorem yN (c:aZ) (x:Int×Int) (hl:c.list.length<=1000000):sT c x=some (decide (tX c.list x)):=by
 unfold sT;have key:=cU (body:=sO) (fun i=>((i:Int),c.next_,c.list,x)) c.list.length (fun i=>(c.list[i]!).2=x) (r:=true) (e:=false) (fun i hi=>by
  have e1:decide ((i:Int)<(c.list.length:Int))=true:=aQ (by omega)
  unfold sO;simp only [aH,e1,cond_true,aD c.list i hi,aF,aX (show i<1000000000 by omega)]
  generalize c.list[i]! =y;constructor
  · intro h;rw [gL (congrArg Prod.fst h),gL (congrArg Prod.snd h)];rfl
  · intro h
    by_cases h1:y.2.1=x.1
    · rw [gL h1,dY (fun h2=>h (Prod.ext h1 h2))];rfl
    · rw [dY h1];rfl) (by
  unfold sO
  have:decide ((c.list.length:Int)<(c.list.length:Int))=false:=aL (by omega)
  simp only [aH,this,cond_false])
 by_cases hx:tX c.list x
 · rw [aQ hx];exact key.1 hx
 · rw [aL hx];exact key.2 fun i hi he=>hx ⟨i,hi,he⟩
def oO (c:aZ) (x:Int×Int):aZ:=⟨c.next_+1,c.list++[(c.next_,x)]⟩
def E9 (c:aZ):Prop:=c.list.length=200\/c.next_=1000000
theorem RM {c:aZ} (ok:fG c) {x:Int×Int} (hx:eT x):EY c x=some (if tX c.list x then (⟨0,[]⟩,0,14) else if E9 c then (⟨0,[]⟩,0,18) else (oO c x,c.next_,0)):=by
 have:=ok.len;have:=ok.n0;have:=ok.n1
 unfold EY;rw [CT,if_pos ok,CR,aQ hx,RK _ _ (by omega)]
 simp only [aF,show ((0:Int) !=0)=false from rfl,cond_false,Bool.not_true,aH]
 by_cases h1:tX c.list x
 · rw [aQ h1,if_pos h1];rfl
 rw [aL h1,if_neg h1];unfold E9
 by_cases h2:c.list.length=200
 · rw [gL (show (c.list.length:Int)=200 by omega),if_pos (.inl h2)];rfl
 rw [dY (show¬(c.list.length:Int)=200 by omega)]
 by_cases h3:c.next_=1000000
 · rw [gL h3,if_pos (.inr h3)];rfl
 rw [dY h3,if_neg (by omega)]
 have e:aA .i64 (c.next_+1)=c.next_+1:=by rw [wi];omega
 simp only [cond_false,bG (show c.list.length<=1048576 by omega),aF,eG (show c.list.length+[(c.next_,x)].length<=1048576 by simp;omega),e]
 rfl
theorem OO {c:aZ} (ok:fG c) {x:Int×Int} (hx:eT x):GI c x=some (if tX c.list x then (⟨0,[]⟩,0,14) else if E9 c then (⟨0,[]⟩,0,18) else (oO c x,c.next_,0)):=by
 have:=ok.len;have:=ok.n0;have:=ok.n1
 unfold GI yI;rw [AV,if_pos ok,CS,aQ hx,yN _ _ (by omega)]
 simp only [aF,show ((0:Int) !=0)=false from rfl,cond_false,Bool.not_true,aH]
 by_cases h1:tX c.list x
 · rw [aQ h1,if_pos h1];rfl
 rw [aL h1,if_neg h1];unfold E9
 by_cases h2:c.list.length=200
 · rw [gL (show (c.list.length:Int)=200 by omega),if_pos (.inl h2)];rfl
 rw [dY (show¬(c.list.length:Int)=200 by omega)]
 by_cases h3:c.next_=1000000
 · rw [gL h3,if_pos (.inr h3)];rfl
 rw [dY h3,if_neg (by omega)]
 have e:aA .i64 (c.next_+1)=c.next_+1:=by rw [wi];omega
 simp only [cond_false,bG (show c.list.length<=1048576 by omega),aF,eG (show c.list.length+[(c.next_,x)].length<=1048576 by simp;omega),e]
 rfl
theorem tY {c:aZ} {x:Int×Int} {i:Nat}:(oO c x).list[i]! =if i<c.list.length then c.list[i]! else if i=c.list.length then (c.next_,x) else default:=by
 show (c.list++[(c.next_,x)])[i]! =_
 by_cases h:i<c.list.length
 · rw [if_pos h,lC h]
 · rw [if_neg h,lV (by omega)]
   by_cases e:i=c.list.length
   · rw [if_pos e,e,Nat.sub_self];rfl
   · rw [if_neg e,getElem!_neg _ _ (by simp;omega)]
theorem BS {c:aZ} {x:Int×Int}:(oO c x).list.length=c.list.length+1:=by
 show (c.list++[(c.next_,x)]).length=_;simp
theorem T6 {c:aZ} (ok:fG c) {x:Int×Int} (hx:eT x) (hn: ¬tX c.list x) (hf: ¬E9 c):fG (oO c x):=by
 have h1:=ok.len;have h2:=ok.n0;have h3:=ok.n1;unfold E9 at hf;refine ⟨by rw [BS];omega,by show 0<=c.next_+1;omega,by show c.next_+1<=1000000;omega,?_,?_,?_,?_⟩
 · intro i hi
   rw [BS] at hi;rw [tY]
   by_cases h:i<c.list.length
   · rw [if_pos h];exact ok.cv i h
   · rw [if_neg h,if_pos (by omega)];exact hx
 · intro i hi
   rw [BS] at hi;rw [tY];show 0<=_/\_<c.next_+1
   by_cases h:i<c.list.length
   · rw [if_pos h];have:=ok.nr i h;omega
   · rw [if_neg h,if_pos (by omega)];dsimp only;omega
 · intro i j hij hj
   rw [BS] at hj;rw [tY,tY,if_pos (by omega)]
   by_cases h:j<c.list.length
   · rw [if_pos h];exact ok.up i j hij h
   · rw [if_neg h,if_pos (by omega)]
     exact (ok.nr i (by omega)).2
 · intro i j hij hj
   rw [BS] at hj;rw [tY,tY,if_pos (by omega)]
   by_cases h:j<c.list.length
   · rw [if_pos h];exact ok.nd i j hij h
   · rw [if_neg h,if_pos (by omega)]
     exact fun he=>hn ⟨i,by omega,he⟩
def mQ (l:List Pt) (id:Int):Prop:= ∃k,k<l.length/\(l[k]!).1=id
noncomputable def eJ (l:List Pt) (id:Int):Pt:=if h:mQ l id then l[h.choose]! else (-1,0,0)
theorem sP {l:List Pt} (hs:dZ l) {k:Nat} (hk:k<l.length) {id:Int} (h:(l[k]!).1=id):eJ l id=l[k]!:=by
 have hp:mQ l id:=⟨k,hk,h⟩;unfold eJ;rw [dif_pos hp]
 have:=hp.choose_spec
 rw [pU hs this.1 hk (by rw [this.2,h])]
theorem jK {l:List Pt} (ok:bC l) {id:Int} (h:mQ l id):gF (eJ l id)/\(eJ l id).1=id:=by
 obtain ⟨k,hk,he⟩:=h;rw [sP ok.2.2 hk he];exact ⟨ok.2.1 _ (bF hk),he⟩
theorem GR {l:List Pt} {id:Int} (h: ¬mQ l id):eJ l id=(-1,0,0):=by unfold eJ;rw [dif_neg h]
theorem oP {l:List Pt} (ok:bC l) (id:Int):iV ⟨l⟩ id=some (eJ l id):=by
 have h1:=ok.1;have bs:=V3 l id (by omega) (fun i j=>pT ok.2.2)
 unfold iV;dsimp only;rw [aAC]
 by_cases h:mQ l id
 · obtain ⟨k,hk,he⟩:=h
   rw [bs.1 k hk he];simp only [aF,Bool.not_true,cond_false,aD l k hk,sP ok.2.2 hk he]
 · obtain ⟨m,m1,m2,m3,e⟩:=bs.2 (fun k hk he=>h ⟨k,hk,he⟩)
   rw [e,GR h];rfl
theorem GS {l:List Pt} (ok:bC l) {id:Int} (h:mQ l id): ∃k,k<l.length/\gU ⟨l⟩ id=some (k:Int)/\l[k]! =eJ l id:=by
 have h1:=ok.1;obtain ⟨k,hk,he⟩:=h;exact ⟨k,hk,GL ok.2.2 (by omega) hk he,(sP ok.2.2 hk he).symm⟩
theorem aAD {l:List Pt} (ok:bC l) {id:Int} (h: ¬mQ l id):gU ⟨l⟩ id=some (-1):=by
 have h1:=ok.1;exact aGw (by omega) fun k hk he=>h ⟨k,hk,he⟩
def jZ (l:List Pt) (x:Int×Int):Prop:=mQ l x.1/\mQ l x.2
noncomputable def bP (l:List Pt) (x t:Int×Int):(Int×Int)×Bool:=CK (eJ l x.2) (eJ l x.1) t
theorem CU {l:List Pt} (ok:bC l) {x t:Int×Int} (hx:eT x) (ht:bW t) (h64:oS t):
 pK ⟨l⟩ x t=some (if jZ l x then ((bP l x t).1,(bP l x t).2,0) else ((0,0),false,8)):=by
 unfold pK;rw [oP ok,oP ok];simp only [aF,HW h64];have bad: ¬gF (-1,0,0):=by unfold gF;dsimp only;omega
 by_cases h1:mQ l x.1
 · by_cases h2:mQ l x.2
   · obtain ⟨p1,p2⟩:=jK ok h1
     obtain ⟨q1,q2⟩:=jK ok h2;rw [if_pos ⟨q1,p1,ht,by rw [p2,q2];exact fun h=>hx.2.2.2.2 h.symm⟩,if_pos ⟨h1,h2⟩]
     rfl
   · rw [GR h2,if_neg (fun h=>bad h.1),if_neg (fun h=>bad h.1),if_neg (fun h=>h2 h.2)]
 · rw [GR h1,if_neg (fun h=>bad h.2.1),if_neg (fun h=>bad h.2.1),if_neg (fun h=>h1 h.1)]
theorem CV {l:List Pt} (ok:bC l) {x t:Int×Int} (h64:oS t) (hb:jZ l x):pN ⟨l⟩ x t=some (bP l x t):=by
 obtain ⟨h1,h2⟩:=hb;obtain ⟨j,j1,j2,j3⟩:=GS ok h1;obtain ⟨k,k1,k2,k3⟩:=GS ok h2;unfold pN;simp only [j2,k2,aF,aD l j j1,aD l k k1,j3,k3,TX (jK ok h2).1 (jK ok h1).1 h64];rfl
theorem aAE (c:aZ) {l:List Pt} (ok:bC l) (hl:c.list.length<=200):uU c ⟨l⟩=some (decide (∀i,i<c.list.length->jZ l (c.list[i]!).2)):=by
 unfold uU;have key:=cU (body:=oI) (fun i=>((i:Int),c.next_,c.list,l)) c.list.length (fun i=> ¬jZ l (c.list[i]!).2) (r:=false) (e:=true) (fun i hi=>by
  have e1:decide ((i:Int)<(c.list.length:Int))=true:=aQ (by omega)
  unfold oI jZ;simp only [aH,e1,cond_true,aD c.list i hi,aF,aX (show i<1000000000 by omega)]
  by_cases h1:mQ l (c.list[i]!).2.1
  · obtain ⟨k,k1,k2,_⟩:=GS ok h1
    rw [k2];simp only [aF,aL (show¬(k:Int)<0 by omega),cond_false]
    by_cases h2:mQ l (c.list[i]!).2.2
    · obtain ⟨j,j1,j2,_⟩:=GS ok h2
      rw [j2];simp only [aF,aL (show¬(j:Int)<0 by omega),cond_false]
      exact ⟨fun h=>absurd ⟨h1,h2⟩ h,fun _=>trivial⟩
    · rw [aAD ok h2]
      exact ⟨fun _=>rfl,fun h=>absurd (Classical.not_not.1 h).2 h2⟩
  · rw [aAD ok h1]
    exact ⟨fun _=>rfl,fun h=>absurd (Classical.not_not.1 h).1 h1⟩) (by
  unfold oI
  have:decide ((c.list.length:Int)<(c.list.length:Int))=false:=aL (by omega)
  simp only [aH,this,cond_false])
 by_cases hx: ∀i,i<c.list.length->jZ l (c.list[i]!).2
 · rw [aQ hx];exact key.2 fun i hi=>Classical.not_not.2 (hx i hi)
 · rw [aL hx]
   obtain ⟨i,h⟩:=Classical.not_forall.1 hx;obtain ⟨hi,hx⟩:=Classical.not_imp.1 h;exact key.1 ⟨i,hi,hx⟩
def aU (l:List Pt) (t:Int×Int) (H:List Ev):List DW->List DW->Prop
 | [],ds=>ds=[]
 |x::cs,ds=>((bP l x.2 t).2=true-> ∃d ds',ds=d::ds'/\d.1=x.1/\((bP l x.2 t).1.1,(bP l x.2 t).1.2,x.1,d.2)∈H/\aU l t H cs ds')/\((bP l x.2 t).2=false->aU l t H cs ds)
structure bH (c:aR):Prop where
 nowv:bW c.now
 now64:oS c.now
 fld:bC c.field.points
 crt:fG c.certs
 agd:gZ c.agenda
 w200:c.agenda.where_.length=200
 hd:c.agenda.heap.length=c.due.length
 known: ∀i,i<c.certs.list.length->jZ c.field.points (c.certs.list[i]!).2
 fol:aU c.field.points c.now c.agenda.heap c.certs.list c.due
structure wS (c:aR):Prop where
 now64:oS c.now
 ag:HH c.agenda
 du:c.due.length<=1000000
theorem aHl {a:aO} (ok:gZ a) (w2:a.where_.length=200) (t:Int×Int) (n:Int) (h:Int×Int):
 (0<=h.1/\h.1<200/\0<=a.where_[h.1.toNat]!/\a.heap[(a.where_[h.1.toNat]!).toNat]! =(t.1,t.2,n,h))↔((t.1,t.2,n,h):Ev)∈a.heap:=by
 have wl:=ok.wl;have hu:=ok.so.ul;constructor
 · rintro ⟨h1,h2,h3,h4⟩
   cases hb:a.slots.used[h.1.toNat]! with
   |false=>
    have:=ok.un h.1.toNat (by omega) hb
    omega
   |true=>
    have:=ok.fwd h.1.toNat (by omega) hb
    rw [<- h4];exact bF (by omega)
 · intro hm
   obtain ⟨w,hw,he⟩:=bE.1 hm;obtain ⟨b1,b2,b3,b4,b5⟩:=ok.back hw;have e:Ev.ix a.heap[w]! =h.1:=by rw [he]
   have e2:Ev.n a.heap[w]! =h.1.toNat:=by rw [he]
   rw [e] at b1 b2;rw [e2] at b5;refine ⟨b1,by omega,by omega,?_⟩
   rw [b5,Int.toNat_natCast,he]
theorem aAF {a:aO} (ok:gZ a) {i:Nat} (hi:i<a.slots.uses.length) (h:0<=a.where_[i]!):a.where_[i]!<a.heap.length:=by
 cases hb:a.slots.used[i]! with
 |false=>have:=ok.un i hi hb;omega
 |true=>exact (ok.fwd i hi hb).2.1
theorem GT {α:Type} [Inhabited α] {l:List α} {i:Nat} (h:i<l.length):l.drop i=l[i]!::l.drop (i+1):=by
 rw [getElem!_pos l i h];exact List.drop_eq_getElem_cons h
theorem RN {c:aR} (nowv:bW c.now) (now64:oS c.now) (fld:bC c.field.points) (crt:fG c.certs) (agd:gZ c.agenda) (w2:c.agenda.where_.length=200):
 ∀(d i:Nat) (ds:List DW),c.certs.list.length-i<=d->i<=c.certs.list.length->ds.length<=1000000->
  aE bY (ds,c.certs.list,(c.certs.list.length:Int),(i:Int),c.now.1,c.now.2,c.field.points,c.certs.next_,c.certs.list,c.agenda.slots.uses,c.agenda.slots.used,c.agenda.slots.free,c.agenda.heap,c.agenda.where_,c.due)=
   some (.done (if (∀j,i<=j->j<c.certs.list.length->jZ c.field.points (c.certs.list[j]!).2)/\aU c.field.points c.now c.agenda.heap (c.certs.list.drop i) ds then 0 else 8)):=by
 have hl:=crt.len;have wl:=agd.wl;have fin: ∀(ds:List DW),aE bY (ds,c.certs.list,(c.certs.list.length:Int),(c.certs.list.length:Int),c.now.1,c.now.2,c.field.points,c.certs.next_,c.certs.list,c.agenda.slots.uses,c.agenda.slots.used,c.agenda.slots.free,c.agenda.heap,c.agenda.where_,c.due)=some (.done (if ds=[] then 0 else 8)):=by
  intro ds;refine aP ?_;unfold bY;have e1:decide ((c.certs.list.length:Int)<(c.certs.list.length:Int))=false:=aL (by omega)
  simp only [aH,e1,cond_false];cases ds with
  |nil=>rw [aL (by simp),if_pos rfl];rfl
  |cons d ds=>rw [aQ (by simp),if_neg (by simp)];rfl
 intro d
 induction d with
 |zero=>
  intro i ds hd hi hds
  have:i=c.certs.list.length:=by omega
  subst this;rw [fin ds,List.drop_length]
  have:((∀j,c.certs.list.length<=j->j<c.certs.list.length->jZ c.field.points (c.certs.list[j]!).2)/\aU c.field.points c.now c.agenda.heap [] ds)↔ds=[]:=⟨fun h=>h.2,fun h=>⟨fun j h1 h2=>by omega,h⟩⟩
  by_cases h:ds=[]
  · rw [if_pos h,if_pos (this.2 h)]
  · rw [if_neg h,if_neg (fun k=>h (this.1 k))]
 |succ d ih=>
  intro i ds hd hi hds
  by_cases he:i=c.certs.list.length
  · subst he
    rw [fin ds,List.drop_length]
    have:((∀j,c.certs.list.length<=j->j<c.certs.list.length->jZ c.field.points (c.certs.list[j]!).2)/\aU c.field.points c.now c.agenda.heap [] ds)↔ds=[]:=⟨fun h=>h.2,fun h=>⟨fun j h1 h2=>by omega,h⟩⟩
    by_cases h:ds=[]
    · rw [if_pos h,if_pos (this.2 h)]
    · rw [if_neg h,if_neg (fun k=>h (this.1 k))]
  have hi':i<c.certs.list.length:=by omega
  have e1:decide ((i:Int)<(c.certs.list.length:Int))=true:=aQ (by omega)
  have hw:=CU fld (x:=(c.certs.list[i]!).2) (t:=(c.now.1,c.now.2)) (crt.cv i hi') nowv now64;have dr:=GT hi';have all:(∀j,i<=j->j<c.certs.list.length->jZ c.field.points (c.certs.list[j]!).2)↔(jZ c.field.points (c.certs.list[i]!).2/\ ∀j,i+1<=j->j<c.certs.list.length->jZ c.field.points (c.certs.list[j]!).2):=by
   constructor
   · intro h;exact ⟨h i (Nat.le_refl _) hi',fun j h1 h2=>h j (by omega) h2⟩
   · rintro ⟨h1,h2⟩ j h3 h4
     by_cases e:j=i
     · rw [e];exact h1
     · exact h2 j (by omega) h4
  have sc:=aX (show i<1000000000 by omega)
  by_cases hb:jZ c.field.points (c.certs.list[i]!).2
  case neg=>
   rw [if_neg (fun h=>hb (all.1 h.1).1)]
   refine aP ?_;unfold bY;simp only [e1,cond_true,aD c.certs.list i hi',aF,hw,if_neg hb];rfl
  rw [if_pos hb] at hw
  by_cases is:(bP c.field.points (c.certs.list[i]!).2 c.now).2=true
  case neg=>
   have is':(bP c.field.points (c.certs.list[i]!).2 c.now).2=false:=by simpa using is
   rw [bJ (y:=(ds,c.certs.list,(c.certs.list.length:Int),((i+1:Nat):Int),c.now.1,c.now.2,c.field.points,c.certs.next_,c.certs.list,c.agenda.slots.uses,c.agenda.slots.used,c.agenda.slots.free,c.agenda.heap,c.agenda.where_,c.due)) (by
    unfold bY;simp only [e1,cond_true,aD c.certs.list i hi',aF,hw,sc,is',show ((0:Int) !=0)=false from rfl,cond_false,Bool.not_false]),ih (i+1) ds (by omega) (by omega) hds]
   have same:((∀j,i<=j->j<c.certs.list.length->jZ c.field.points (c.certs.list[j]!).2)/\aU c.field.points c.now c.agenda.heap (c.certs.list.drop i) ds)↔((∀j,i+1<=j->j<c.certs.list.length->jZ c.field.points (c.certs.list[j]!).2)/\aU c.field.points c.now c.agenda.heap (c.certs.list.drop (i+1)) ds):=by
    rw [dr,all];constructor
    · rintro ⟨⟨_,h1⟩,h2⟩;exact ⟨h1,h2.2 is'⟩
    · rintro ⟨h1,h2⟩;exact ⟨⟨hb,h1⟩,fun h=>absurd h is,fun _=>h2⟩
   simp only [same]
  have stop:(¬((∀j,i<=j->j<c.certs.list.length->jZ c.field.points (c.certs.list[j]!).2)/\aU c.field.points c.now c.agenda.heap (c.certs.list.drop i) ds))->bY (ds,c.certs.list,(c.certs.list.length:Int),(i:Int),c.now.1,c.now.2,c.field.points,c.certs.next_,c.certs.list,c.agenda.slots.uses,c.agenda.slots.used,c.agenda.slots.free,c.agenda.heap,c.agenda.where_,c.due)=some (.done (.done 8))->aE bY (ds,c.certs.list,(c.certs.list.length:Int),(i:Int),c.now.1,c.now.2,c.field.points,c.certs.next_,c.certs.list,c.agenda.slots.uses,c.agenda.slots.used,c.agenda.slots.free,c.agenda.heap,c.agenda.where_,c.due)=
   some (.done (if (∀j,i<=j->j<c.certs.list.length->jZ c.field.points (c.certs.list[j]!).2)/\aU c.field.points c.now c.agenda.heap (c.certs.list.drop i) ds then 0 else 8)):=by
   intro h1 h2;rw [if_neg h1];exact aP h2
  cases ds with
  |nil=>
   refine stop (fun h=>?_) ?_
   · rw [dr] at h
     obtain ⟨d,ds',h1,_⟩:=h.2.1 is;cases h1
   · unfold bY
     simp only [e1,cond_true,aD c.certs.list i hi',aF,hw,is,show ((0:Int) !=0)=false from rfl,cond_false,Bool.not_true];rfl
  |cons d0 ds=>
   have l0:((((d0::ds).length:Nat):Int)==0)=false:=dY (by simp;omega)
   have g0:aK (d0::ds) 0=some d0:=rfl
   have fol: ∀P:Prop,(P↔d0.1=(c.certs.list[i]!).1/\(((bP c.field.points (c.certs.list[i]!).2 c.now).1.1,(bP c.field.points (c.certs.list[i]!).2 c.now).1.2,(c.certs.list[i]!).1,d0.2):Ev)∈c.agenda.heap)-> ¬P-> ¬((∀j,i<=j->j<c.certs.list.length->jZ c.field.points (c.certs.list[j]!).2)/\aU c.field.points c.now c.agenda.heap (c.certs.list.drop i) (d0::ds)):=by
    intro P hP hn h;rw [dr] at h;obtain ⟨d,ds',h1,h2,h3,_⟩:=h.2.1 is;injection h1 with h1 _;subst h1;exact hn (hP.2 ⟨h2,h3⟩)
   by_cases b1:d0.1=(c.certs.list[i]!).1
   case neg=>
    refine stop (fol (d0.1=(c.certs.list[i]!).1/\_) Iff.rfl (fun h=>b1 h.1)) ?_
    unfold bY;simp only [aH,e1,cond_true,aD c.certs.list i hi',aF,hw,is,show ((0:Int) !=0)=false from rfl,cond_false,Bool.not_true,l0,g0,dL b1]
   have ea:=aHl agd w2 (bP c.field.points (c.certs.list[i]!).2 c.now).1 (c.certs.list[i]!).1 d0.2
   by_cases b2:d0.2.1<0
   · refine stop (fol (d0.1=(c.certs.list[i]!).1/\_) Iff.rfl (fun h=>by have:=(ea.2 h.2).1;omega)) ?_
     unfold bY;simp only [aH,e1,cond_true,aD c.certs.list i hi',aF,hw,is,show ((0:Int) !=0)=false from rfl,cond_false,Bool.not_true,l0,g0,dA b1,aQ b2]
   by_cases b3:200<=d0.2.1
   · refine stop (fol (d0.1=(c.certs.list[i]!).1/\_) Iff.rfl (fun h=>by have:=(ea.2 h.2).2.1;omega)) ?_
     unfold bY;simp only [aH,e1,cond_true,aD c.certs.list i hi',aF,hw,is,show ((0:Int) !=0)=false from rfl,cond_false,Bool.not_true,l0,g0,dA b1,aL b2,aQ b3]
   have gw:=kW (l:=c.agenda.where_) (i:=d0.2.1) (by omega) (by omega)
   by_cases b4:c.agenda.where_[d0.2.1.toNat]!<0
   · refine stop (fol (d0.1=(c.certs.list[i]!).1/\_) Iff.rfl (fun h=>by have:=(ea.2 h.2).2.2.1;omega)) ?_
     unfold bY;simp only [aH,e1,cond_true,aD c.certs.list i hi',aF,hw,is,show ((0:Int) !=0)=false from rfl,cond_false,Bool.not_true,l0,g0,dA b1,aL b2,aL b3,gw,aQ b4]
   have gh:=kW (l:=c.agenda.heap) (i:=c.agenda.where_[d0.2.1.toNat]!) (by omega) (aAF agd (by omega) (by omega))
   have sl:iL (d0::ds) 1 ((((d0::ds).length:Nat):Int))=some ds:=by
    unfold iL;rw [if_pos ⟨by omega,by simp;omega,by omega⟩]
    simp
   have evq: ∀(e:Ev) (p:Int×Int) (n:Int) (h:Int×Int),((e.1==p.1)&&((e.2.1==p.2)&&((e.2.2.1==n)&&((e.2.2.2.1==h.1)&&(e.2.2.2.2==h.2)))))=decide (e=(p.1,p.2,n,h)):=by
    intro e p n h;rw [Bool.eq_iff_iff,decide_eq_true_iff];simp only [Bool.and_eq_true,beq_iff_eq];constructor
    · rintro ⟨h1,h2,h3,h4,h5⟩
      exact Prod.ext h1 (Prod.ext h2 (Prod.ext h3 (Prod.ext h4 h5)))
    · intro h;rw [h];exact ⟨rfl,rfl,rfl,rfl,rfl⟩
   have evq':=evq c.agenda.heap[(c.agenda.where_[d0.2.1.toNat]!).toNat]! (bP c.field.points (c.certs.list[i]!).2 c.now).1 (c.certs.list[i]!).1 d0.2
   by_cases b5:c.agenda.heap[(c.agenda.where_[d0.2.1.toNat]!).toNat]! =((bP c.field.points (c.certs.list[i]!).2 c.now).1.1,(bP c.field.points (c.certs.list[i]!).2 c.now).1.2,(c.certs.list[i]!).1,d0.2)
   case neg=>
    refine stop (fol (d0.1=(c.certs.list[i]!).1/\_) Iff.rfl (fun h=>b5 (ea.2 h.2).2.2.2)) ?_
    unfold bY;simp only [aH,e1,cond_true,aD c.certs.list i hi',aF,hw,is,show ((0:Int) !=0)=false from rfl,cond_false,Bool.not_true,l0,g0,dA b1,aL b2,aL b3,gw,aL b4,gh];rw [evq',aL b5];rfl
   have hmem:=ea.1 ⟨by omega,by omega,by omega,b5⟩
   rw [bJ (y:=(ds,c.certs.list,(c.certs.list.length:Int),((i+1:Nat):Int),c.now.1,c.now.2,c.field.points,c.certs.next_,c.certs.list,c.agenda.slots.uses,c.agenda.slots.used,c.agenda.slots.free,c.agenda.heap,c.agenda.where_,c.due)) (by
    unfold bY;simp only [aH,e1,cond_true,aD c.certs.list i hi',aF,hw,is,show ((0:Int) !=0)=false from rfl,cond_false,Bool.not_true,l0,g0,dA b1,aL b2,aL b3,gw,aL b4,gh,sl,sc];rw [evq',aQ b5]
    rfl),ih (i+1) ds (by omega) (by omega) (by simp at hds;omega)]
   have same:((∀j,i<=j->j<c.certs.list.length->jZ c.field.points (c.certs.list[j]!).2)/\aU c.field.points c.now c.agenda.heap (c.certs.list.drop i) (d0::ds))↔((∀j,i+1<=j->j<c.certs.list.length->jZ c.field.points (c.certs.list[j]!).2)/\aU c.field.points c.now c.agenda.heap (c.certs.list.drop (i+1)) ds):=by
    rw [dr,all];constructor
    · rintro ⟨⟨_,h1⟩,h2⟩
      obtain ⟨d,ds',k1,k2,k3,k4⟩:=h2.1 is;injection k1 with k1 k5;subst k5;exact ⟨h1,k4⟩
    · rintro ⟨h1,h2⟩
      exact ⟨⟨hb,h1⟩,fun _=>⟨d0,ds,rfl,b1,hmem,h2⟩,fun h=>by rw [is] at h;cases h⟩
   simp only [same]
theorem bH.iff {c:aR} (fit:wS c):bH c↔bW c.now/\bC c.field.points/\fG c.certs/\gZ c.agenda/\c.agenda.where_.length=200/\c.agenda.heap.length=c.due.length/\(∀i,i<c.certs.list.length->jZ c.field.points (c.certs.list[i]!).2)/\aU c.field.points c.now c.agenda.heap c.certs.list c.due:=
 ⟨fun h=>⟨h.nowv,h.fld,h.crt,h.agd,h.w200,h.hd,h.known,h.fol⟩,fun ⟨h1,h2,h3,h4,h5,h6,h7,h8⟩=>⟨h1,fit.now64,h2,h3,h4,h5,h6,h7,h8⟩⟩
theorem bH.fit {c:aR} (ok:bH c):wS c:=⟨ok.now64,ok.agd.fit,by have:=ok.hd;have:=ok.agd.bd;omega⟩
theorem RO {c:aR} {n0 n1 n2 n3:Int}:
 aE dU (4,0,c.now.1,c.now.2,c.field.points,c.certs.next_,c.certs.list,c.agenda.slots.uses,c.agenda.slots.used,c.agenda.slots.free,c.agenda.heap,c.agenda.where_,c.due,[n0,n1,n2,n3])=
  if n0=0/\n1=0/\n2=0/\n3=0 then aE dU (4,4,c.now.1,c.now.2,c.field.points,c.certs.next_,c.certs.list,c.agenda.slots.uses,c.agenda.slots.used,c.agenda.slots.free,c.agenda.heap,c.agenda.where_,c.due,[n0,n1,n2,n3]) else some 8:=by
 have st: ∀(i:Nat) (n:Int),i<4->aK [n0,n1,n2,n3] (i:Int)=some n->aE dU (4,(i:Int),c.now.1,c.now.2,c.field.points,c.certs.next_,c.certs.list,c.agenda.slots.uses,c.agenda.slots.used,c.agenda.slots.free,c.agenda.heap,c.agenda.where_,c.due,[n0,n1,n2,n3])=
  if n=0 then aE dU (4,((i+1:Nat):Int),c.now.1,c.now.2,c.field.points,c.certs.next_,c.certs.list,c.agenda.slots.uses,c.agenda.slots.used,c.agenda.slots.free,c.agenda.heap,c.agenda.where_,c.due,[n0,n1,n2,n3]) else some 8:=by
  intro i n hi hg;have e1:decide ((i:Int)<4)=true:=aQ (by omega)
  by_cases h:n=0
  · rw [if_pos h]
    refine bJ ?_;unfold dU;simp only [e1,cond_true,hg,aF,dA h,cond_false,aX (show i<1000000000 by omega)]
  · rw [if_neg h]
    refine aP ?_;unfold dU;simp only [e1,cond_true,hg,aF,dL h]
 have s0:=st 0 n0 (by omega) rfl
 have s1:=st 1 n1 (by omega) rfl
 have s2:=st 2 n2 (by omega) rfl
 have s3:=st 3 n3 (by omega) rfl
 have c0:((0:Nat):Int)=0:=rfl;have c4:((3+1:Nat):Int)=4:=rfl;rw [c0] at s0;rw [c4] at s3;rw [s0]
 by_cases h0:n0=0
 · rw [if_pos h0,show ((0+1:Nat):Int)=((1:Nat):Int) from rfl,s1]
   by_cases h1:n1=0
   · rw [if_pos h1,show ((1+1:Nat):Int)=((2:Nat):Int) from rfl,s2]
     by_cases h2:n2=0
     · rw [if_pos h2,show ((2+1:Nat):Int)=((3:Nat):Int) from rfl,s3]
       by_cases h3:n3=0
       · rw [if_pos h3,if_pos ⟨h0,h1,h2,h3⟩]
       · rw [if_neg h3,if_neg (fun h=>h3 h.2.2.2)]
     · rw [if_neg h2,if_neg (fun h=>h2 h.2.2.1)]
   · rw [if_neg h1,if_neg (fun h=>h1 h.2.1)]
 · rw [if_neg h0,if_neg (fun h=>h0 h.1)]
theorem AW {c:aR} (fit:wS c):fZ c=some (if bH c then 0 else 8):=by
 unfold fZ;rw [gB fit.now64,oN,CT,rZ _ fit.ag];simp only [aF];have h4:Int.ofNat [if bW c.now then (0:Int) else 8,kX c.field.points,if fG c.certs then (0:Int) else 8,if gZ c.agenda then (0:Int) else 8].length=4:=rfl
 rw [h4,RO];have z: ∀(p:Prop) [Decidable p],(if p then (0:Int) else 8)=0↔p:=fun p _=>by by_cases h:p<;>simp [h]
 simp only [z,kH];have f1:=bH.iff fit
 by_cases ok:bW c.now/\bC c.field.points/\fG c.certs/\gZ c.agenda
 case neg=>rw [if_neg ok,if_neg (c:=bH c) (fun h=>ok ⟨h.nowv,h.fld,h.crt,h.agd⟩)]
 obtain ⟨nowv,fld,crt,agd⟩:=ok;rw [if_pos ⟨nowv,fld,crt,agd⟩]
 by_cases w2:c.agenda.where_.length=200
 case neg=>
  rw [if_neg (c:=bH c) (fun h=>w2 h.w200)]
  refine aP ?_;unfold dU;simp only [aH,aL (show¬(4:Int)<4 by omega),cond_false,dL (show¬(c.agenda.where_.length:Int)=200 by omega),cond_true]
 by_cases hd:c.agenda.heap.length=c.due.length
 case neg=>
  rw [if_neg (c:=bH c) (fun h=>hd h.hd)]
  refine aP ?_;unfold dU;simp only [aH,aL (show¬(4:Int)<4 by omega),cond_false,dA (show (c.agenda.where_.length:Int)=200 by omega),dL (show¬(c.agenda.heap.length:Int)=(c.due.length:Int) by omega),cond_true]
 have run:=RN nowv fit.now64 fld crt agd w2 c.certs.list.length 0 c.due (by omega) (by omega) fit.du
 rw [List.drop_zero] at run;have same:((∀j,0<=j->j<c.certs.list.length->jZ c.field.points (c.certs.list[j]!).2)/\aU c.field.points c.now c.agenda.heap c.certs.list c.due)↔bH c:=by
  rw [f1];constructor
  · rintro ⟨h1,h2⟩;exact ⟨nowv,fld,crt,agd,w2,hd,fun i hi=>h1 i (by omega) hi,h2⟩
  · rintro ⟨_,_,_,_,_,_,h1,h2⟩;exact ⟨fun j _ hj=>h1 j hj,h2⟩
 simp only [same] at run;refine aP ?_;unfold dU;simp only [aH,aL (show¬(4:Int)<4 by omega),cond_false,dA (show (c.agenda.where_.length:Int)=200 by omega),dA (show (c.agenda.heap.length:Int)=(c.due.length:Int) by omega)]
 exact run
theorem aGz {a:aO} (ok:gZ a) (h:Int×Int):tP a h=some (if E5 a.slots h then (a.heap[(a.where_[h.1.toNat]!).toNat]!,0) else ((0,0,0,0,0),6)):=by
 unfold tP;rw [AT a ok.fit,if_pos ok,V2 ok.so];simp only [aF,show ((0:Int) !=0)=false from rfl,cond_false]
 by_cases lv:E5 a.slots h
 · obtain ⟨i,hi,hw,hh⟩:=ok.live lv
   have:=lv.1;have:=lv.2.1;have:=ok.wl
   rw [aQ lv,if_pos lv,kW (l:=a.where_) lv.1 (by omega),hw]
   simp only [Bool.not_true,cond_false,aF,aD a.heap i hi,Int.toNat_natCast]
 · rw [aL lv,if_neg lv];rfl
theorem RP {c:aR} (now64:oS c.now) (fld:bC c.field.points) (crt:fG c.certs) (agd:gZ c.agenda) (w2:c.agenda.where_.length=200) (hdu:c.due.length<=1000000)
 (kn: ∀i,i<c.certs.list.length->jZ c.field.points (c.certs.list[i]!).2):
 ∀(d i k:Nat),c.certs.list.length-i<=d->i<=c.certs.list.length->k<=c.due.length->
  aE cT ((k:Int),(i:Int),c.now.1,c.now.2,c.field.points,c.certs.next_,c.certs.list,c.agenda.slots.uses,c.agenda.slots.used,c.agenda.slots.free,c.agenda.heap,c.agenda.where_,c.due)=
   some (if aU c.field.points c.now c.agenda.heap (c.certs.list.drop i) (c.due.drop k) then 0 else 8):=by
 have hl:=crt.len;have wl:=agd.wl
 have fin: ∀k:Nat,k<=c.due.length->aE cT ((k:Int),(c.certs.list.length:Int),c.now.1,c.now.2,c.field.points,c.certs.next_,c.certs.list,c.agenda.slots.uses,c.agenda.slots.used,c.agenda.slots.free,c.agenda.heap,c.agenda.where_,c.due)=some (if aU c.field.points c.now c.agenda.heap (c.certs.list.drop c.certs.list.length) (c.due.drop k) then 0 else 8):=by
  intro k hk;rw [List.drop_length];refine aP ?_;unfold cT;have e1:decide ((c.certs.list.length:Int)<(c.certs.list.length:Int))=false:=aL (by omega)
  simp only [aH,e1,cond_false]
  have:aU c.field.points c.now c.agenda.heap [] (c.due.drop k)↔k=c.due.length:=by
   show c.due.drop k=[]↔_;rw [List.drop_eq_nil_iff];omega
  by_cases h:k=c.due.length
  · rw [if_pos (this.2 h),dA (by omega)];rfl
  · rw [if_neg (fun x=>h (this.1 x)),dL (by omega)];rfl
 intro d
 induction d with
 |zero=>
  intro i k hd hi hk
  have:i=c.certs.list.length:=by omega
  subst this;exact fin k hk
 |succ d ih=>
  intro i k hd hi hk
  by_cases he:i=c.certs.list.length
  · subst he;exact fin k hk
  have hi':i<c.certs.list.length:=by omega
  have e1:decide ((i:Int)<(c.certs.list.length:Int))=true:=aQ (by omega)
  have hw:=CV fld (x:=(c.certs.list[i]!).2) (t:=(c.now.1,c.now.2)) now64 (kn i hi');have dr:=GT hi';have sc:=aX (show i<1000000000 by omega)
  have sk:=aX (show k<1000000000 by omega)
  by_cases is:(bP c.field.points (c.certs.list[i]!).2 c.now).2=true
  case neg=>
   have is':(bP c.field.points (c.certs.list[i]!).2 c.now).2=false:=by simpa using is
   rw [bJ (y:=((k:Int),((i+1:Nat):Int),c.now.1,c.now.2,c.field.points,c.certs.next_,c.certs.list,c.agenda.slots.uses,c.agenda.slots.used,c.agenda.slots.free,c.agenda.heap,c.agenda.where_,c.due)) (by
    unfold cT;simp only [aH,e1,cond_true,aD c.certs.list i hi',aF,hw,sc,is',Bool.not_false]),ih (i+1) k (by omega) (by omega) hk]
   have same:aU c.field.points c.now c.agenda.heap (c.certs.list.drop i) (c.due.drop k)↔aU c.field.points c.now c.agenda.heap (c.certs.list.drop (i+1)) (c.due.drop k):=by
    rw [dr];exact ⟨fun h=>h.2 is',fun h=>⟨fun h'=>absurd h' is,fun _=>h⟩⟩
   simp only [same]
  have stop:(¬aU c.field.points c.now c.agenda.heap (c.certs.list.drop i) (c.due.drop k))->cT ((k:Int),(i:Int),c.now.1,c.now.2,c.field.points,c.certs.next_,c.certs.list,c.agenda.slots.uses,c.agenda.slots.used,c.agenda.slots.free,c.agenda.heap,c.agenda.where_,c.due)=some (.done 8)->
   aE cT ((k:Int),(i:Int),c.now.1,c.now.2,c.field.points,c.certs.next_,c.certs.list,c.agenda.slots.uses,c.agenda.slots.used,c.agenda.slots.free,c.agenda.heap,c.agenda.where_,c.due)=some (if aU c.field.points c.now c.agenda.heap (c.certs.list.drop i) (c.due.drop k) then 0 else 8):=by
   intro h1 h2;rw [if_neg h1];exact aP h2
  by_cases hkl:k=c.due.length
  · refine stop (fun h=>?_) ?_
    · rw [dr] at h
      obtain ⟨d,ds',h1,_⟩:=h.1 is;rw [hkl,List.drop_length] at h1;cases h1
    · unfold cT
      simp only [aH,e1,cond_true,aD c.certs.list i hi',aF,hw,is,Bool.not_true,cond_false,aQ (show (c.due.length:Int)<=(k:Int) by omega)]
  have hk':k<c.due.length:=by omega
  have dk:=GT hk';have e2:decide ((c.due.length:Int)<=(k:Int))=false:=aL (by omega)
  have fol: ¬((c.due[k]!).1=(c.certs.list[i]!).1/\(((bP c.field.points (c.certs.list[i]!).2 c.now).1.1,(bP c.field.points (c.certs.list[i]!).2 c.now).1.2,(c.certs.list[i]!).1,(c.due[k]!).2):Ev)∈c.agenda.heap)-> ¬aU c.field.points c.now c.agenda.heap (c.certs.list.drop i) (c.due.drop k):=by
   intro hn h;rw [dr,dk] at h;obtain ⟨d,ds',h1,h2,h3,_⟩:=h.1 is;injection h1 with h1 _;subst h1;exact hn ⟨h2,h3⟩
  by_cases b1:(c.due[k]!).1=(c.certs.list[i]!).1
  case neg=>
   refine stop (fol (fun h=>b1 h.1)) ?_
   unfold cT;simp only [aH,e1,cond_true,aD c.certs.list i hi',aF,hw,is,Bool.not_true,cond_false,e2,aD c.due k hk',dL b1]
  have fi:=aGz agd (c.due[k]!).2;have ea:=aHl agd w2 (bP c.field.points (c.certs.list[i]!).2 c.now).1 (c.certs.list[i]!).1 (c.due[k]!).2;have fi':tP (aO.mk (aW.mk c.agenda.slots.uses c.agenda.slots.used c.agenda.slots.free) c.agenda.heap c.agenda.where_) (c.due[k]!).2=_:=fi
  by_cases lv:E5 c.agenda.slots (c.due[k]!).2
  case neg=>
   rw [if_neg lv] at fi';refine stop (fol (fun h=>lv ?_)) ?_
   · obtain ⟨w,hw',hev⟩:=bE.1 h.2
     have:=(agd.handle hw').1
     rwa [hev] at this
   · unfold cT
     simp only [aH,e1,cond_true,aD c.certs.list i hi',aF,hw,is,Bool.not_true,cond_false,e2,aD c.due k hk',dA b1,fi',show ((6:Int) !=0)=true from rfl]
  rw [if_pos lv] at fi';obtain ⟨w,hw1,hw2,hw3⟩:=agd.live lv;rw [hw2,Int.toNat_natCast] at fi';have q1:(0<=(c.due[k]!).2.1/\(c.due[k]!).2.1<200/\0<=c.agenda.where_[(c.due[k]!).2.1.toNat]!):=⟨lv.1,by have:=lv.2.1;omega,by rw [hw2];omega⟩
  by_cases b2:(c.agenda.heap[w]!).2.2.1=(c.certs.list[i]!).1
  case neg=>
   refine stop (fol (fun h=>b2 ?_)) ?_
   · have:=(ea.2 h.2).2.2.2
     rw [hw2,Int.toNat_natCast] at this;rw [this]
   · unfold cT
     simp only [aH,e1,cond_true,aD c.certs.list i hi',aF,hw,is,Bool.not_true,cond_false,e2,aD c.due k hk',dA b1,fi',show ((0:Int) !=0)=false from rfl,dL b2]
  have teq:((c.agenda.heap[w]!).1==(bP c.field.points (c.certs.list[i]!).2 c.now).1.1&&(c.agenda.heap[w]!).2.1==(bP c.field.points (c.certs.list[i]!).2 c.now).1.2)=decide (((c.agenda.heap[w]!).1,(c.agenda.heap[w]!).2.1)=(bP c.field.points (c.certs.list[i]!).2 c.now).1):=by
   rw [Bool.eq_iff_iff,decide_eq_true_iff];simp only [Bool.and_eq_true,beq_iff_eq];constructor
   · rintro ⟨h1,h2⟩;exact Prod.ext h1 h2
   · intro h;rw [<- h];exact ⟨rfl,rfl⟩
  by_cases b3:((c.agenda.heap[w]!).1,(c.agenda.heap[w]!).2.1)=(bP c.field.points (c.certs.list[i]!).2 c.now).1
  case neg=>
   refine stop (fol (fun h=>b3 ?_)) ?_
   · have:=(ea.2 h.2).2.2.2
     rw [hw2,Int.toNat_natCast] at this;rw [this]
   · unfold cT
     simp only [aH,e1,cond_true,aD c.certs.list i hi',aF,hw,is,Bool.not_true,cond_false,e2,aD c.due k hk',dA b1,fi',show ((0:Int) !=0)=false from rfl,dA b2];rw [teq,aL b3];rfl
  have hmem:=ea.1 ⟨q1.1,q1.2.1,q1.2.2,by
   rw [hw2,Int.toNat_natCast];have t1:=congrArg Prod.fst b3;have t2:=congrArg Prod.snd b3;exact Prod.ext t1 (Prod.ext t2 (Prod.ext b2 hw3))⟩
  rw [bJ (y:=(((k+1:Nat):Int),((i+1:Nat):Int),c.now.1,c.now.2,c.field.points,c.certs.next_,c.certs.list,c.agenda.slots.uses,c.agenda.slots.used,c.agenda.slots.free,c.agenda.heap,c.agenda.where_,c.due)) (by
   unfold cT;simp only [aH,e1,cond_true,aD c.certs.list i hi',aF,hw,is,Bool.not_true,cond_false,e2,aD c.due k hk',dA b1,fi',show ((0:Int) !=0)=false from rfl,dA b2,sc,sk];rw [teq,aQ b3]
   rfl),ih (i+1) (k+1) (by omega) (by omega) (by omega)]
  have same:aU c.field.points c.now c.agenda.heap (c.certs.list.drop i) (c.due.drop k)↔aU c.field.points c.now c.agenda.heap (c.certs.list.drop (i+1)) (c.due.drop (k+1)):=by
   rw [dr,dk];constructor
   · intro h2
     obtain ⟨d,ds',k1,k2,k3,k4⟩:=h2.1 is;injection k1 with k1 k5;subst k5;exact k4
   · intro h2
     exact ⟨fun _=>⟨_,_,rfl,b1,hmem,h2⟩,fun h=>by rw [is] at h;cases h⟩
  simp only [same]
theorem K5 {c:aR} (fit:wS c):uW c=some (if bH c then 0 else 8):=by
 unfold uW;rw [tT fit.now64,AQ,AV,AT _ fit.ag];simp only [aF]
 by_cases nowv:bW c.now
 case neg=>rw [if_neg nowv,if_neg (c:=bH c) (fun h=>nowv h.nowv)];rfl
 rw [if_pos nowv]
 by_cases fld:bC c.field.points
 case neg=>rw [dL (fun h=>fld (kH.1 h)),if_neg (c:=bH c) (fun h=>fld h.fld)];rfl
 rw [dA (kH.2 fld)]
 by_cases crt:fG c.certs
 case neg=>rw [if_neg crt,if_neg (c:=bH c) (fun h=>crt h.crt)];rfl
 rw [if_pos crt];have kn:=aAE c.certs fld crt.len;simp only [show ((0:Int) !=0)=false from rfl,cond_false,kn,aF]
 by_cases known: ∀i,i<c.certs.list.length->jZ c.field.points (c.certs.list[i]!).2
 case neg=>rw [aL known,if_neg (c:=bH c) (fun h=>known h.known)];rfl
 rw [aQ known]
 by_cases agd:gZ c.agenda
 case neg=>rw [if_neg agd,if_neg (c:=bH c) (fun h=>agd h.agd)];rfl
 rw [if_pos agd];simp only [aH,show ((0:Int) !=0)=false from rfl,cond_false,Bool.not_true]
 by_cases w2:c.agenda.where_.length=200
 case neg=>rw [dL (by omega),if_neg (c:=bH c) (fun h=>w2 h.w200)];rfl
 rw [dA (by omega)]
 by_cases hd:c.agenda.heap.length=c.due.length
 case neg=>rw [dL (by omega),if_neg (c:=bH c) (fun h=>hd h.hd)];rfl
 rw [dA (by omega)]
 have run:=RP fit.now64 fld crt agd w2 fit.du known c.certs.list.length 0 0 (by omega) (by omega) (by omega)
 rw [List.drop_zero,List.drop_zero] at run;have same:aU c.field.points c.now c.agenda.heap c.certs.list c.due↔bH c:=by
  rw [bH.iff fit];exact ⟨fun h=>⟨nowv,fld,crt,agd,w2,hd,known,h⟩,fun h=>h.2.2.2.2.2.2.2⟩
 simp only [same] at run;simp only [cond_false];exact run
section
variable {l : List Pt} {t : Int × Int}
theorem aU.cons_true {H:List Ev} {x:DW} {cs ds:List DW} (h:(bP l x.2 t).2=true):aU l t H (x::cs) ds↔ ∃d ds',ds=d::ds'/\d.1=x.1/\(((bP l x.2 t).1.1,(bP l x.2 t).1.2,x.1,d.2):Ev)∈H/\aU l t H cs ds':=
 ⟨fun k=>k.1 h,fun k=>⟨fun _=>k,fun k'=>(by rw [h] at k';cases k')⟩⟩
theorem aU.cons_false {H:List Ev} {x:DW} {cs ds:List DW} (h:(bP l x.2 t).2=false):aU l t H (x::cs) ds↔aU l t H cs ds:=
 ⟨fun k=>k.2 h,fun k=>⟨fun k'=>(by rw [h] at k';cases k'),fun _=>k⟩⟩
theorem aU.mono {H H':List Ev}: ∀{cs ds:List DW},(∀x∈cs,∀e:Ev,e.num=x.1->e∈H->e∈H')->aU l t H cs ds->aU l t H' cs ds
 | [],_,_,h=>h
 |x::cs,ds,hm,h=>by
  have hm': ∀y∈cs,∀e:Ev,e.num=y.1->e∈H->e∈H':=fun y hy=>hm y (by simp [hy])
  cases hx:(bP l x.2 t).2 with
  |true=>
   rw [aU.cons_true hx] at h ⊢;obtain ⟨d,ds',h1,h2,h3,h4⟩:=h;exact ⟨d,ds',h1,h2,hm x (by simp) _ rfl h3,aU.mono hm' h4⟩
  |false=>
   rw [aU.cons_false hx] at h ⊢;exact aU.mono hm' h
theorem aU.due {H:List Ev}: ∀{cs ds:List DW},aU l t H cs ds-> ∀d∈ds,∃x∈cs,d.1=x.1/\(bP l x.2 t).2=true/\(((bP l x.2 t).1.1,(bP l x.2 t).1.2,x.1,d.2):Ev)∈H
 | [],ds,h,d,hd=>by
  have:ds=[]:=h
  subst this;cases hd
 |x::cs,ds,h,d,hd=>by
  cases hx:(bP l x.2 t).2 with
  |true=>
   rw [aU.cons_true hx] at h;obtain ⟨e,ds',h1,h2,h3,h4⟩:=h;subst h1;rcases List.mem_cons.1 hd with rfl|hd
   · exact ⟨x,by simp,h2,hx,h3⟩
   · obtain ⟨y,hy,k⟩:=aU.due h4 d hd
     exact ⟨y,by simp [hy],k⟩
  |false=>
   rw [aU.cons_false hx] at h;obtain ⟨y,hy,k⟩:=aU.due h d hd;exact ⟨y,by simp [hy],k⟩
theorem aU.has {H:List Ev}: ∀{cs ds:List DW},aU l t H cs ds-> ∀x∈cs,(bP l x.2 t).2=true-> ∃d∈ds,d.1=x.1/\(((bP l x.2 t).1.1,(bP l x.2 t).1.2,x.1,d.2):Ev)∈H
 | [],_,_,x,hx,_=>by cases hx
 |y::cs,ds,h,x,hx,hf=>by
  cases hy:(bP l y.2 t).2 with
  |true=>
   rw [aU.cons_true hy] at h;obtain ⟨e,ds',h1,h2,h3,h4⟩:=h;subst h1;rcases List.mem_cons.1 hx with rfl|hx
   · exact ⟨e,by simp,h2,h3⟩
   · obtain ⟨d,hd,k⟩:=aU.has h4 x hx hf
     exact ⟨d,by simp [hd],k⟩
  |false=>
   rw [aU.cons_false hy] at h;rcases List.mem_cons.1 hx with rfl|hx
   · rw [hf] at hy;cases hy
   · exact aU.has h x hx hf
def Up (cs:List DW):Prop:=cs.Pairwise fun x y=>x.1<y.1
theorem OP {cs:List DW}:Up cs↔ ∀i j,i<j->j<cs.length->(cs[i]!).1<(cs[j]!).1:=by
 unfold Up;rw [List.pairwise_iff_getElem];constructor
 · intro h i j hij hj
   rw [getElem!_pos cs i (by omega),getElem!_pos cs j hj]
   exact h i j (by omega) hj hij
 · intro h i j hi hj hij
   have:=h i j hij hj
   rwa [getElem!_pos cs i hi,getElem!_pos cs j hj] at this
theorem aU.up {H:List Ev}: ∀{cs ds:List DW},aU l t H cs ds->Up cs->Up ds
 | [],ds,h,_=>by
  have:ds=[]:=h
  subst this;exact List.Pairwise.nil
 |x::cs,ds,h,hu=>by
  have hu':=List.pairwise_cons.1 hu;cases hx:(bP l x.2 t).2 with
  |true=>
   rw [aU.cons_true hx] at h;obtain ⟨e,ds',h1,h2,h3,h4⟩:=h;subst h1;refine List.pairwise_cons.2 ⟨fun d hd=>?_,aU.up h4 hu'.2⟩
   obtain ⟨y,hy,k,_⟩:=aU.due h4 d hd
   have:=hu'.1 y hy
   omega
  |false=>
   rw [aU.cons_false hx] at h;exact aU.up h hu'.2
theorem aU.snoc {H:List Ev}: ∀{cs ds:List DW} {x:DW},aU l t H cs ds->((bP l x.2 t).2=false->aU l t H (cs++[x]) ds)/\
 (∀d:DW,(bP l x.2 t).2=true->d.1=x.1->(((bP l x.2 t).1.1,(bP l x.2 t).1.2,x.1,d.2):Ev)∈H->aU l t H (cs++[x]) (ds++[d]))
 | [],ds,x,h=>by
  have:ds=[]:=h
  subst this;refine ⟨fun hx=>(aU.cons_false hx).2 rfl,fun d hx h1 h2=>(aU.cons_true hx).2 ⟨d,[],rfl,h1,h2,rfl⟩⟩
 |y::cs,ds,x,h=>by
  cases hy:(bP l y.2 t).2 with
  |true=>
   rw [aU.cons_true hy] at h;obtain ⟨e,ds',h1,h2,h3,h4⟩:=h;subst h1;have ih:=aU.snoc (x:=x) h4;refine ⟨fun hx=>(aU.cons_true hy).2 ⟨e,ds',rfl,h2,h3,ih.1 hx⟩,fun d hx k1 k2=>(aU.cons_true hy).2 ⟨e,ds'++[d],rfl,h2,h3,ih.2 d hx k1 k2⟩⟩
  |false=>
   rw [aU.cons_false hy] at h;have ih:=aU.snoc (x:=x) h;exact ⟨fun hx=>(aU.cons_false hy).2 (ih.1 hx),fun d hx k1 k2=>(aU.cons_false hy).2 (ih.2 d hx k1 k2)⟩
theorem aU.erase {H:List Ev}: ∀{cs ds:List DW} {i:Nat},aU l t H cs ds->i<cs.length->((bP l (cs[i]!).2 t).2=false->aU l t H (cs.eraseIdx i) ds)/\
 ((bP l (cs[i]!).2 t).2=true-> ∃k,k<ds.length/\(ds[k]!).1=(cs[i]!).1/\(((bP l (cs[i]!).2 t).1.1,(bP l (cs[i]!).2 t).1.2,(cs[i]!).1,(ds[k]!).2):Ev)∈H/\aU l t H (cs.eraseIdx i) (ds.eraseIdx k))
 | [],_,i,_,hi=>by cases hi
 |y::cs,ds,0,h,_=>by
  show ((bP l y.2 t).2=false->aU l t H cs ds)/\((bP l y.2 t).2=true-> ∃k,k<ds.length/\(ds[k]!).1=y.1/\(((bP l y.2 t).1.1,(bP l y.2 t).1.2,y.1,(ds[k]!).2):Ev)∈H/\aU l t H cs (ds.eraseIdx k));refine ⟨fun hy=>(aU.cons_false hy).1 h,fun hy=>?_⟩
  obtain ⟨e,ds',h1,h2,h3,h4⟩:=(aU.cons_true hy).1 h;subst h1;exact ⟨0,by simp,h2,h3,h4⟩
 |y::cs,ds,i+1,h,hi=>by
  have hi':i<cs.length:=by simpa using hi
  show ((bP l (cs[i]!).2 t).2=false->aU l t H (y::cs.eraseIdx i) ds)/\((bP l (cs[i]!).2 t).2=true-> ∃k,k<ds.length/\(ds[k]!).1=(cs[i]!).1/\(((bP l (cs[i]!).2 t).1.1,(bP l (cs[i]!).2 t).1.2,(cs[i]!).1,(ds[k]!).2):Ev)∈H/\aU l t H (y::cs.eraseIdx i) (ds.eraseIdx k));cases hy:(bP l y.2 t).2 with
  |true=>
   obtain ⟨e,ds',h1,h2,h3,h4⟩:=(aU.cons_true hy).1 h;subst h1;have ih:=aU.erase (i:=i) h4 hi';refine ⟨fun hx=>(aU.cons_true hy).2 ⟨e,ds',rfl,h2,h3,ih.1 hx⟩,fun hx=>?_⟩
   obtain ⟨k,k1,k2,k3,k4⟩:=ih.2 hx;exact ⟨k+1,by simp;omega,k2,k3,(aU.cons_true hy).2 ⟨e,ds'.eraseIdx k,rfl,h2,h3,k4⟩⟩
  |false=>
   have h:=(aU.cons_false hy).1 h;have ih:=aU.erase (i:=i) h hi';refine ⟨fun hx=>(aU.cons_false hy).2 (ih.1 hx),fun hx=>?_⟩
   obtain ⟨k,k1,k2,k3,k4⟩:=ih.2 hx;exact ⟨k,k1,k2,k3,(aU.cons_false hy).2 k4⟩
end
theorem RQ {H:List Ev} {ns:List Int} (hd:ns.Nodup) (hl:H.length<=ns.length) (he: ∀n∈ns,∃e∈H,Ev.num e=n): ∀e∈H,Ev.num e∈ns:=by
 have pos: ∀n,n∈ns-> ∃w,w<H.length/\Ev.num H[w]! =n:=fun n hn=>by
  obtain ⟨e,he,h2⟩:=he n hn;obtain ⟨w,hw,rfl⟩:=bE.1 he;exact ⟨w,hw,h2⟩
 let f:Int->Nat:=fun n=>if h: ∃w,w<H.length/\Ev.num H[w]! =n then h.choose else 0
 have hf: ∀n∈ns,f n<H.length/\Ev.num H[f n]! =n:=fun n hn=>by
  have h:=pos n hn;show (if h: ∃w,w<H.length/\Ev.num H[w]! =n then h.choose else 0)<_/\Ev.num H[(if h: ∃w,w<H.length/\Ev.num H[w]! =n then h.choose else 0)]! =n
  rw [dif_pos h];exact h.choose_spec
 have full:=HF (n:=H.length) (l:=ns.map f) (BQ hd fun x hx y hy h=>by
  have h1:=(hf x hx).2;have h2:=(hf y hy).2;rw [h] at h1
  omega) (fun x hx=>by
  obtain ⟨n,hn,rfl⟩:=List.mem_map.1 hx;exact (hf n hn).1) (by rw [List.length_map];exact hl)
 intro e hm;obtain ⟨w,hw,rfl⟩:=bE.1 hm;obtain ⟨n,hn,h⟩:=List.mem_map.1 (full w hw);rw [<- h,(hf n hn).2];exact hn
theorem aAG {cs:List DW} (h:Up cs):(cs.map fun x=>x.1).Nodup:=by
 refine BQ ?_ ?_
 · unfold Up at h
   exact h.imp fun hab he=>by rw [he] at hab;omega
 · intro x hx y hy he
   obtain ⟨i,hi,rfl⟩:=bE.1 hx;obtain ⟨j,hj,rfl⟩:=bE.1 hy;rcases Nat.lt_trichotomy i j with h1|h1|h1
   · have:=OP.1 h i j h1 hj;omega
   · rw [h1]
   · have:=OP.1 h j i h1 hi;omega
theorem bH.crt_up {c:aR} (ok:bH c):Up c.certs.list:=OP.2 ok.crt.up
theorem bH.due_up {c:aR} (ok:bH c):Up c.due:=ok.fol.up ok.crt_up
theorem bH.nums {c:aR} (ok:bH c): ∀e∈c.agenda.heap,∃d∈c.due,d.1=Ev.num e:=by
 have:=RQ (H:=c.agenda.heap) (aAG ok.due_up) (by rw [List.length_map,ok.hd];exact Nat.le_refl _) (fun n hn=>by
  obtain ⟨d,hd,rfl⟩:=List.mem_map.1 hn;obtain ⟨x,hx,h1,h2,h3⟩:=ok.fol.due d hd;exact ⟨_,h3,h1.symm⟩)
 intro e he;obtain ⟨d,hd,h⟩:=List.mem_map.1 (this e he);exact ⟨d,hd,h⟩
end Go.Proofs.YtbncnimfgdelaaaGreat
