/- Plain laws (2). -/
import Derived.Test.YtmlghnibpjlchaaGreatAQM1
namespace Go.Proofs.YtmlghnibpjlchaaGreat
open Go.Vm Classical
theorem N4 (a:aG) (fit:BI a) (so:eF a.slots) (wl:a.where_.length=a.slots.uses.length):
 aJ lD (a.where_,(a.where_.length:Int),0,a.slots.uses,a.slots.used,a.slots.free,a.heap,a.where_)=some (if (∀i,i<a.slots.uses.length->KI a i)/\(∀k,k<a.heap.length->LE a.heap k) then 0 else 8):=by
 have hu:=so.ul;have hn:=so.n2;have hh:=fit.hp;have inner:=N3 a.heap a.slots.uses a.slots.free a.where_ a.slots.used fit.hp fit.at64
 have key:=cZ (body:=lD) (fun i=>(a.where_,(a.where_.length:Int),(i:Int),a.slots.uses,a.slots.used,a.slots.free,a.heap,a.where_)) a.where_.length (fun i=> ¬KI a i) (r:=8) (e:=if (∀k,k<a.heap.length->LE a.heap k) then 0 else 8) (fun i hi=>by
  have e1:decide ((i:Int)<(a.where_.length:Int))=true:=aQ (by omega)
  unfold lD;simp only [aE,e1,cond_true,aD a.where_ i hi,aD a.slots.used i (by omega),aD a.slots.uses i (by omega),aB,bF (show i<1000000000 by omega)]
  unfold KI;generalize a.where_[i]! =w at*;cases hb:a.slots.used[i]! with
  |false=>
   simp only [Bool.not_false,cond_true]
   by_cases hw:w= -1
   · rw [bZ hw]
     exact ⟨fun h=>absurd ⟨fun h=>(by cases h),fun _=>hw⟩ h,fun _=>rfl⟩
   · rw [eM hw]
     exact ⟨fun _=>rfl,fun h=>absurd ((Classical.not_not.1 h).2 trivial) hw⟩
  |true=>
   simp only [Bool.not_true,cond_false]
   by_cases b1:w<0
   · rw [aQ b1]
     exact ⟨fun _=>rfl,fun h=>absurd ((Classical.not_not.1 h).1 trivial).1 (by omega)⟩
   by_cases b2:(a.heap.length:Int)<=w
   · rw [aL b1,aQ b2]
     exact ⟨fun _=>rfl,fun h=>absurd ((Classical.not_not.1 h).1 trivial).2.1 (by omega)⟩
   rw [aL b1,aL b2];simp only [cond_false,dD (l:=a.heap) (i:=w) (by omega) (by omega),aB]
   by_cases b3:(a.heap[w.toNat]!).2.2.2.1=i
   · by_cases b4:(a.heap[w.toNat]!).2.2.2.2=a.slots.uses[i]!
     · rw [fJ b3,fJ b4]
       exact ⟨fun h=>absurd ⟨fun _=>⟨by omega,by omega,b3,b4⟩,fun h=>(by cases h)⟩ h,fun _=>rfl⟩
     · rw [fJ b3,fO b4]
       exact ⟨fun _=>rfl,fun h=>absurd ((Classical.not_not.1 h).1 trivial).2.2.2 b4⟩
   · rw [fO b3]
     exact ⟨fun _=>rfl,fun h=>absurd ((Classical.not_not.1 h).1 trivial).2.2.1 b3⟩) (by
  unfold lD
  have:decide ((a.where_.length:Int)<(a.where_.length:Int))=false:=aL (by omega)
  simp only [aE,this,cond_false]
  by_cases hx: ∀k,k<a.heap.length->LE a.heap k
  · rw [if_pos hx];exact inner.1 hx
  · rw [if_neg hx];exact inner.2 hx)
 by_cases hw: ∀i,i<a.slots.uses.length->KI a i
 · refine (key.2 fun i hi=>Classical.not_not.2 (hw i (by omega))).trans ?_
   by_cases hx: ∀k,k<a.heap.length->LE a.heap k
   · rw [if_pos hx,if_pos ⟨hw,hx⟩]
   · rw [if_neg hx,if_neg (fun h=>hx h.2)]
 · rw [if_neg (fun h=>hw h.1)]
   obtain ⟨i,h⟩:=Classical.not_forall.1 hw;obtain ⟨hi,hx⟩:=Classical.not_imp.1 h;exact key.1 ⟨i,by omega,hx⟩
theorem iP (a:aG) (fit:BI a):iV a=some (if dZ a then 0 else 8):=by
 have hh:=fit.hp;unfold iV;rw [wT _ fit.fr];simp only [aE]
 by_cases so:eF a.slots
 case neg=>rw [if_neg so,if_neg (fun h=>so h.so)];rfl
 have hu:=so.ul;have hn:=so.n2;have hf:=so.fl;rw [if_pos so];simp only [aB,show ((0:Int) !=0)=false from rfl,cond_false]
 by_cases wl:a.where_.length=a.slots.uses.length
 case neg=>
  rw [eM (by omega),if_neg (fun h=>wl h.wl)];rfl
 rw [bZ (by omega)]
 have e:aA .i64 ((a.slots.used.length:Int) - (a.slots.free.length:Int))=((a.slots.uses.length-a.slots.free.length:Nat):Int):=by rw [wi];omega
 rw [e]
 by_cases hl:a.heap.length+a.slots.free.length=a.slots.uses.length
 case neg=>
  rw [eM (by omega),if_neg (fun h=>hl h.hl)];rfl
 rw [bZ (by omega)]
 simp only [cond_false];rw [N4 a fit so wl]
 by_cases ok:dZ a
 · rw [if_pos ok,if_pos ok.to]
 · rw [if_neg ok,if_neg]
   intro h;exact ok (dZ.of fit so wl hl h.1 h.2)
theorem aAk {x y:Ev} (hx:nT (x.1,x.2.1)) (hy:nT (y.1,y.2.1)):dS x y=some (decide (dA x y)):=by
 unfold dS dA;rw [uP hx hy];simp only [aB];generalize oM (x.1,x.2.1) (y.1,y.2.1)=c
 by_cases h1:c<0
 · simp [h1]
 · by_cases h2:c=0
   · subst h2;simp
   · simp only [h1,fO h2,h2,decide_false,cond_false,false_or,false_and]
theorem VW {s:aS} (ok:eF s) (h:Int×Int):uK s h=some (decide (wG s h)):=by
 have hu:=ok.ul;unfold uK wG;simp only [aE]
 by_cases a1:0<=h.1
 · by_cases a2:h.1<s.uses.length
   · simp only [a1,a2,decide_true,cond_true,dD (l:=s.used) a1 (by omega),dD (l:=s.uses) a1 a2,aB,true_and]
     generalize s.uses[h.1.toNat]! =u;cases s.used[h.1.toNat]!<;>simp [VU]
   · simp [a1,a2]
 · simp [a1]
theorem XJ (a:aG) (so:eF a.slots):tM a=some (decide (a.where_.length=a.slots.uses.length/\a.heap.length+a.slots.free.length=a.slots.uses.length/\ ∀i,i<a.slots.uses.length->KI a i)):=by
 have hu:=so.ul;have hn:=so.n2;have hf:=so.fl;unfold tM;simp only [aE]
 by_cases wl:a.where_.length=a.slots.uses.length
 case neg=>
  rw [eM (by omega),aL (fun h=>wl h.1)];rfl
 rw [bZ (by omega)]
 have e:aA .i64 ((a.slots.uses.length:Int) - (a.slots.free.length:Int))=((a.slots.uses.length-a.slots.free.length:Nat):Int):=by rw [wi];omega
 rw [e]
 by_cases hl:a.heap.length+a.slots.free.length=a.slots.uses.length
 case neg=>
  rw [eM (by omega),aL (fun h=>hl h.2.1)];rfl
 rw [bZ (by omega)]
 simp only [cond_false];have key:=cZ (body:=nI) (fun i=>((a.slots.uses.length:Int),(i:Int),a.slots.uses,a.slots.used,a.slots.free,a.heap,a.where_)) a.slots.uses.length (fun i=> ¬KI a i) (r:=false) (e:=true) (fun i hi=>by
  have e1:decide ((i:Int)<(a.slots.uses.length:Int))=true:=aQ (by omega)
  unfold nI;simp only [aE,e1,cond_true,aD a.where_ i (by omega),aD a.slots.used i (by omega),aB,bF (show i<1000000000 by omega)]
  unfold KI;generalize a.where_[i]! =w at*;cases hb:a.slots.used[i]! with
  |false=>
   simp only [Bool.not_false,cond_true]
   by_cases hw:w= -1
   · rw [bZ hw]
     exact ⟨fun h=>absurd ⟨fun h=>(by cases h),fun _=>hw⟩ h,fun _=>rfl⟩
   · rw [eM hw]
     exact ⟨fun _=>rfl,fun h=>absurd ((Classical.not_not.1 h).2 trivial) hw⟩
  |true=>
   simp only [Bool.not_true,cond_false]
   by_cases b1:w<0
   · rw [aQ b1]
     exact ⟨fun _=>rfl,fun h=>absurd ((Classical.not_not.1 h).1 trivial).1 (by omega)⟩
   by_cases b2:(a.heap.length:Int)<=w
   · rw [aL b1,aQ b2]
     exact ⟨fun _=>rfl,fun h=>absurd ((Classical.not_not.1 h).1 trivial).2.1 (by omega)⟩
   rw [aL b1,aL b2];simp only [cond_false,dD (l:=a.heap) (i:=w) (by omega) (by omega),aB]
   by_cases b3:(a.heap[w.toNat]!).2.2.2.1=i
   · rw [bZ b3]
     simp only [cond_false];rw [VW (s:=⟨a.slots.uses,a.slots.used,a.slots.free⟩) so];have lv:wG ⟨a.slots.uses,a.slots.used,a.slots.free⟩ (a.heap[w.toNat]!).2.2.2↔(a.heap[w.toNat]!).2.2.2.2=a.slots.uses[i]!:=by
      unfold wG;dsimp only;rw [b3];constructor
      · intro h;exact h.2.2.2.symm
      · intro h;exact ⟨by omega,by omega,by rw [Int.toNat_natCast];exact hb,by rw [Int.toNat_natCast];exact h.symm⟩
     simp only [aB,lv]
     by_cases b4:(a.heap[w.toNat]!).2.2.2.2=a.slots.uses[i]!
     · rw [aQ b4]
       exact ⟨fun h=>absurd ⟨fun _=>⟨by omega,by omega,b3,b4⟩,fun h=>(by cases h)⟩ h,fun _=>rfl⟩
     · rw [aL b4]
       exact ⟨fun _=>rfl,fun h=>absurd ((Classical.not_not.1 h).1 trivial).2.2.2 b4⟩
   · rw [eM b3]
     exact ⟨fun _=>rfl,fun h=>absurd ((Classical.not_not.1 h).1 trivial).2.2.1 b3⟩) (by
  unfold nI
  have:decide ((a.slots.uses.length:Int)<(a.slots.uses.length:Int))=false:=aL (by omega)
  simp only [this,cond_false])
 by_cases hw: ∀i,i<a.slots.uses.length->KI a i
 · rw [aQ ⟨wl,hl,hw⟩]
   exact key.2 fun i hi=>Classical.not_not.2 (hw i hi)
 · rw [aL (fun h=>hw h.2.2)]
   obtain ⟨i,h⟩:=Classical.not_forall.1 hw;obtain ⟨hi,hx⟩:=Classical.not_imp.1 h;exact key.1 ⟨i,hi,hx⟩
theorem QZ (H:List Ev) (u fr W:List Int) (us:List Bool) (k:Nat) (hk:k<H.length) (hl:H.length<=1000000) (x:Ev):
 ((∃j,j<k/\(H[j]!).2.2.1=x.2.2.1)->aJ jY ((k:Int),0,u,us,fr,H,W,x)=some (.done 8))/\
 ((∀j,j<k-> ¬(H[j]!).2.2.1=x.2.2.1)->aJ jY ((k:Int),0,u,us,fr,H,W,x)=some (.next (((k+1:Nat):Int),u,us,fr,H,W))):=by
 refine cZ (body:=jY) (fun j=>((k:Int),(j:Int),u,us,fr,H,W,x)) k (fun j=>(H[j]!).2.2.1=x.2.2.1) (r:= .done 8) (e:= .next (((k+1:Nat):Int),u,us,fr,H,W)) (fun j hj=>?_) ?_
 · have e1:decide ((j:Int)<(k:Int))=true:=aQ (by omega)
   unfold jY;simp only [e1,cond_true,aD H j (by omega),aB,bF (show j<1000000000 by omega)]
   constructor
   · intro h;rw [fJ h];rfl
   · intro h;rw [fO h];rfl
 · unfold jY
   have:decide ((k:Int)<(k:Int))=false:=aL (by omega)
   simp only [this,cond_false,bF (show k<1000000000 by omega)]
theorem Q0 (H:List Ev) (u fr W:List Int) (us:List Bool) (hl:H.length<=1000000) (r64: ∀w,w<H.length->nT ((H[w]!).1,(H[w]!).2.1)):
 aJ jZ (1,u,us,fr,H,W)=some (.done (if∀k,0<k->k<H.length-> ¬dA H[k]! H[(k-1) / 2]! then 0 else 8)):=by
 by_cases h0:H.length=0
 · rw [if_pos (fun k _ hk=>by omega)]
   refine aM ?_;unfold jZ
   have:decide ((1:Int)<(H.length:Int))=false:=aL (by omega)
   simp only [aE,this,cond_false]
 have key:=cZ (body:=jZ) (fun i=>(((i+1:Nat):Int),u,us,fr,H,W)) (H.length-1) (fun i=>dA H[i+1]! H[i / 2]!) (r:= .done 8) (e:= .done 0) (fun i hi=>by
  have e1:decide (((i+1:Nat):Int)<(H.length:Int))=true:=aQ (by omega)
  unfold jZ;simp only [aE,e1,cond_true,sU (show i<1000000000 by omega),aD H (i+1) (by omega),aD H (i / 2) (by omega),aB,aAk (r64 (i+1) (by omega)) (r64 (i / 2) (by omega)),bF (show i+1<1000000000 by omega)]
  constructor
  · intro h;rw [aQ h];rfl
  · intro h;rw [aL h];rfl) (by
  unfold jZ
  have:decide (((H.length-1+1:Nat):Int)<(H.length:Int))=false:=aL (by omega)
  simp only [aE,this,cond_false])
 by_cases ho: ∀k,0<k->k<H.length-> ¬dA H[k]! H[(k-1) / 2]!
 · rw [if_pos ho]
   refine key.2 fun i hi hc=>ho (i+1) (by omega) (by omega) ?_
   rwa [show (i+1-1) / 2=i / 2 by omega]
 · rw [if_neg ho]
   obtain ⟨k,h⟩:=Classical.not_forall.1 ho;obtain ⟨k0,h⟩:=Classical.not_imp.1 h;obtain ⟨hk,hx⟩:=Classical.not_imp.1 h;refine key.1 ⟨k-1,by omega,?_⟩
   rw [show k-1+1=k by omega]
   exact Classical.not_not.1 hx
def N5 (H:List Ev) (k:Nat):Prop:=bO ((H[k]!).1,(H[k]!).2.1)/\0<=(H[k]!).2.2.1/\(H[k]!).2.2.1<=1000000/\(∀j,j<k-> ¬(H[j]!).2.2.1=(H[k]!).2.2.1)
theorem BJ (a:aG) (fit:BI a):sJ a=some (if dZ a then 0 else 8):=by
 have hh:=fit.hp;unfold sJ;rw [KH _ fit.fr]
 by_cases so:eF a.slots
 case neg=>rw [if_neg so,if_neg (fun h=>so h.so)];rfl
 rw [if_pos so];simp only [aB,show ((0:Int) !=0)=false from rfl,cond_false,XJ a so]
 by_cases pl:a.where_.length=a.slots.uses.length/\a.heap.length+a.slots.free.length=a.slots.uses.length/\ ∀i,i<a.slots.uses.length->KI a i
 case neg=>
  rw [aL pl,if_neg (fun h=>pl ⟨h.wl,h.hl,h.to.1⟩)];rfl
 rw [aQ pl];obtain ⟨wl,hl,hw⟩:=pl;simp only [Bool.not_true,cond_false];have key:=cZ (body:=pF) (fun k=>((k:Int),a.slots.uses,a.slots.used,a.slots.free,a.heap,a.where_)) a.heap.length (fun k=> ¬N5 a.heap k) (r:=8) (e:=if∀k,0<k->k<a.heap.length-> ¬dA a.heap[k]! a.heap[(k-1) / 2]! then 0 else 8) (fun k hk=>by
  have e1:decide ((k:Int)<(a.heap.length:Int))=true:=aQ (by omega)
  have l1:=QZ a.heap a.slots.uses a.slots.free a.where_ a.slots.used k hk hh a.heap[k]!;unfold pF;simp only [aE,e1,cond_true,aD a.heap k hk,aB,mF (fit.at64 k hk)];unfold N5
  by_cases b1:bO ((a.heap[k]!).1,(a.heap[k]!).2.1)
  case neg=>
   rw [if_neg b1];exact ⟨fun _=>rfl,fun h=>absurd (Classical.not_not.1 h).1 b1⟩
  rw [if_pos b1]
  by_cases b2:(a.heap[k]!).2.2.1<0
  · rw [aQ b2]
    exact ⟨fun _=>rfl,fun h=>absurd (Classical.not_not.1 h).2.1 (by omega)⟩
  by_cases b3:1000000<(a.heap[k]!).2.2.1
  · rw [aL b2,aQ b3]
    exact ⟨fun _=>rfl,fun h=>absurd (Classical.not_not.1 h).2.2.1 (by omega)⟩
  rw [aL b2,aL b3];simp only [show ((0:Int) !=0)=false from rfl,cond_false]
  by_cases b4: ∃j,j<k/\(a.heap[j]!).2.2.1=(a.heap[k]!).2.2.1
  · refine ⟨fun _=>l1.1 b4,fun h=>?_⟩
    obtain ⟨j,j1,j2⟩:=b4;exact absurd j2 ((Classical.not_not.1 h).2.2.2 j j1)
  · have b4': ∀j,j<k-> ¬(a.heap[j]!).2.2.1=(a.heap[k]!).2.2.1:=fun j h1 h2=>b4 ⟨j,h1,h2⟩
    exact ⟨fun h=>absurd ⟨b1,by omega,by omega,b4'⟩ h,fun _=>l1.2 b4'⟩) (by
  unfold pF
  have:decide ((a.heap.length:Int)<(a.heap.length:Int))=false:=aL (by omega)
  simp only [aE,this,cond_false];exact Q0 a.heap _ _ _ _ hh fit.at64)
 have same:dZ a↔(∀k,k<a.heap.length->N5 a.heap k)/\ ∀k,0<k->k<a.heap.length-> ¬dA a.heap[k]! a.heap[(k-1) / 2]!:=by
  constructor
  · intro ok
    refine ⟨fun k hk=>?_,ok.ord⟩
    have:=ok.to.2 k hk
    exact ⟨this.1,this.2.1,this.2.2.1,this.2.2.2.1⟩
  · rintro ⟨h1,h2⟩
    refine dZ.of fit so wl hl hw fun k hk=>?_
    obtain ⟨c1,c2,c3,c4⟩:=h1 k hk;refine ⟨c1,c2,c3,c4,fun k0=>?_⟩
    unfold TK;rw [if_pos ⟨c1,(h1 ((k-1) / 2) (by omega)).1⟩,E7]
    exact h2 k k0 hk
 by_cases he: ∀k,k<a.heap.length->N5 a.heap k
 · refine (key.2 fun i hi=>Classical.not_not.2 (he i hi)).trans ?_
   by_cases ho: ∀k,0<k->k<a.heap.length-> ¬dA a.heap[k]! a.heap[(k-1) / 2]!
   · rw [if_pos ho,if_pos (same.2 ⟨he,ho⟩)]
   · rw [if_neg ho,if_neg (fun h=>ho (same.1 h).2)]
 · rw [if_neg (fun h=>he (same.1 h).1)]
   obtain ⟨i,h⟩:=Classical.not_forall.1 he;obtain ⟨hi,hx⟩:=Classical.not_imp.1 h;exact key.1 ⟨i,hi,hx⟩
end Go.Proofs.YtmlghnibpjlchaaGreat
namespace Go.Proofs.YtmlghnibpjlchaaGreat
open Go.Vm Classical
theorem CY {l:List Ev} {n:Nat} {e:Ev} (hn:n<=l.length):e∈l.take n↔ ∃w,w<n/\l[w]! =e:=by
 rw [cB];constructor
 · rintro ⟨i,h1,_,h3⟩;exact ⟨i,h1,h3⟩
 · rintro ⟨i,h1,h3⟩;exact ⟨i,h1,by omega,h3⟩
theorem aG3 {s:aS} (so:eF s) {n:Nat} {H:List Ev} {W:List Int} (E:Ev->Prop) (hn:n<=H.length) (wl:W.length=s.uses.length) (hl:n+s.free.length=s.uses.length)
 (ix: ∀w,w<n->0<=(H[w]!).ix/\(H[w]!).ix<W.length/\W[(H[w]!).n]! =(w:Int)) (mem: ∀e,(∃w,w<n/\H[w]! =e)↔E e) (ord: ∀k,0<k->k<n-> ¬dA H[k]! H[(k-1) / 2]!)
 (ue: ∀i,i<s.uses.length->s.used[i]! =true-> ∃e:Ev,E e/\e.ix=i/\e.2.2.2.2=s.uses[i]!) (un: ∀i,i<s.uses.length->s.used[i]! =false->W[i]! = -1)
 (ev: ∀e,E e->qP e) (nums: ∀e f:Ev,E e->E f->e.num=f.num->e.ix=f.ix):dZ ⟨s,H.take n,W⟩:=by
 have len:(H.take n).length=n:=by rw [List.length_take];omega
 have cell: ∀w,w<n->(H.take n)[w]! =H[w]!:=fun w hw=>lL hw
 refine ⟨so,wl,by show (H.take n).length+_=_;rw [len];exact hl,?_,un,?_,?_,?_⟩
 · intro i hi hu
   dsimp only at hi hu ⊢;rw [len];obtain ⟨e,he,e1,e2⟩:=ue i hi hu;obtain ⟨w,hw,rfl⟩:=(mem e).2 he;obtain ⟨a1,a2,a3⟩:=ix w hw;have hn':(H[w]!).n=i:=by show ((H[w]!).ix).toNat=i;omega
   rw [hn'] at a3;rw [a3,Int.toNat_natCast,cell w hw];exact ⟨by omega,by omega,e1,e2⟩
 · intro w hw
   dsimp only at hw ⊢;rw [len] at hw;rw [cell w hw];exact ev _ ((mem _).1 ⟨w,hw,rfl⟩)
 · intro v w hv hw
   dsimp only at hw ⊢;rw [len] at hw;rw [cell v (by omega),cell w hw]
   intro hc
   have:=nums _ _ ((mem _).1 ⟨v,by omega,rfl⟩) ((mem _).1 ⟨w,hw,rfl⟩) hc
   obtain ⟨a1,a2,a3⟩:=ix v (by omega)
   obtain ⟨b1,b2,b3⟩:=ix w hw;have hn':(H[v]!).n=(H[w]!).n:=by show ((H[v]!).ix).toNat=((H[w]!).ix).toNat;rw [this]
   rw [hn'] at a3;omega
 · intro k k0 hk
   dsimp only at hk ⊢;rw [len] at hk;rw [cell k hk,cell _ (by omega)]
   exact ord k k0 hk
theorem wW {s:aS} (so:eF s) {n:Nat} {x:Ev} {M:Ev->Prop} {K:Nat->Prop} {H H1:List Ev} {W W1:List Int} (st:CB n x M K H W H1 W1) (hn:n<=H.length) (wl:W.length=s.uses.length) (hl:n+s.free.length=s.uses.length)
 (ue: ∀i,i<s.uses.length->s.used[i]! =true-> ∃e:Ev,(e=x\/M e)/\e.ix=i/\e.2.2.2.2=s.uses[i]!) (un: ∀i,i<s.uses.length->s.used[i]! =false->K i/\W[i]! = -1)
 (ev: ∀e,(e=x\/M e)->qP e) (nums: ∀e f:Ev,(e=x\/M e)->(f=x\/M f)->e.num=f.num->e.ix=f.ix):dZ ⟨s,H1.take n,W1⟩:=by
 refine aG3 so (fun e=>e=x\/M e) (by rw [st.hl];exact hn) (by rw [st.wl];exact wl) hl (by rw [st.wl];exact st.ix) st.mem st.ord ue ?_ ev nums
 intro i hi hu;rw [st.out i (un i hi hu).1];exact (un i hi hu).2
theorem dZ.bd {a:aG} (ok:dZ a):a.heap.length<=200/\a.where_.length<=200:=by
 have:=ok.hl;have:=ok.wl;have:=ok.so.n2
 omega
theorem dZ.cells {a:aG} (ok:dZ a):mG a.heap.length a.heap a.where_:=by
 have:=ok.bd
 refine ⟨Nat.le_refl _,by omega,fun w hw=>?_⟩
 obtain ⟨b1,b2,b3,b4,b5⟩:=ok.back hw;exact ⟨ok.ev w hw,b1,by rw [ok.wl];exact b2⟩
theorem dZ.inj {a:aG} (ok:dZ a) {v w:Nat} (hv:v<a.heap.length) (hw:w<a.heap.length) (h:Ev.ix a.heap[v]! =Ev.ix a.heap[w]!):v=w:=by
 have h1:=(ok.back hv).2.2.2.2;have h2:=(ok.back hw).2.2.2.2
 have:Ev.n a.heap[v]! =Ev.n a.heap[w]!:=by show (Ev.ix a.heap[v]!).toNat=(Ev.ix a.heap[w]!).toNat;rw [h]
 rw [this] at h1;omega
theorem dZ.grand {a:aG} (ok:dZ a) {i k:Nat} (i0:0<i) (k0:0<k) (hk:k<a.heap.length) (hp:(k-1) / 2=i): ¬dA a.heap[k]! a.heap[(i-1) / 2]!:=by
 have h1:=ok.ord k k0 hk;rw [hp] at h1;exact xV (ok.ev _ (by omega)).den (ok.ev _ (by omega)).den (ok.ev _ hk).den (ok.ord i i0 (by omega)) h1
theorem dZ.live {a:aG} (ok:dZ a) {h:Int×Int} (lv:wG a.slots h): ∃i,i<a.heap.length/\a.where_[h.1.toNat]! =(i:Int)/\(a.heap[i]!).2.2.2=h:=by
 obtain ⟨l1,l2,l3,l4⟩:=lv;obtain ⟨f1,f2,f3,f4⟩:=ok.fwd h.1.toNat (by omega) l3
 refine ⟨(a.where_[h.1.toNat]!).toNat,by omega,by omega,?_⟩
 have e1:(a.heap[(a.where_[h.1.toNat]!).toNat]!).2.2.2.1=h.1:=by
  have:Ev.ix a.heap[(a.where_[h.1.toNat]!).toNat]! =(h.1.toNat:Int):=f3
  have h2:Ev.ix a.heap[(a.where_[h.1.toNat]!).toNat]! =(a.heap[(a.where_[h.1.toNat]!).toNat]!).2.2.2.1:=rfl;omega
 exact Prod.ext e1 (by rw [f4,l4])
theorem dZ.handle {a:aG} (ok:dZ a) {i:Nat} (hi:i<a.heap.length):wG a.slots (a.heap[i]!).2.2.2/\a.where_[((a.heap[i]!).2.2.2.1).toNat]! =(i:Int):=by
 obtain ⟨b1,b2,b3,b4,b5⟩:=ok.back hi;exact ⟨⟨b1,b2,b3,b4⟩,b5⟩
theorem dZ.used_ev {a:aG} (ok:dZ a) {i:Nat} (hi:i<a.slots.uses.length) (hu:a.slots.used[i]! =true): ∃w,w<a.heap.length/\Ev.ix a.heap[w]! =i/\(a.heap[w]!).2.2.2.2=a.slots.uses[i]!:=by
 obtain ⟨f1,f2,f3,f4⟩:=ok.fwd i hi hu;exact ⟨(a.where_[i]!).toNat,by omega,f3,f4⟩
theorem dZ.no_ev {a:aG} (ok:dZ a) {i:Nat} (hu:a.slots.used[i]! =false) {w:Nat} (hw:w<a.heap.length):Ev.n a.heap[w]!≠i:=by
 intro h
 have:=(ok.back hw).2.2.1
 rw [h,hu] at this;cases this
theorem dZ.nums {a:aG} (ok:dZ a) {v w:Nat} (hv:v<a.heap.length) (hw:w<a.heap.length) (h:Ev.num a.heap[v]! =Ev.num a.heap[w]!):v=w:=by
 rcases Nat.lt_trichotomy v w with h1|h1|h1
 · exact absurd h (ok.nd v w h1 hw)
 · exact h1
 · exact absurd h.symm (ok.nd w v h1 hv)
theorem set_same {α:Type} [Inhabited α] {l:List α} {k:Nat} {v:α} (h:l[k]! =v):l.set k v=l:=by
 by_cases hk:k<l.length
 · apply J1 (by rw [List.length_set])
   intro i hi;rw [bG];split
   · rename_i e;rw [e.1];exact h.symm
   · rfl
 · exact List.set_eq_of_length_le (by omega)
def qQ (x:Ev) (t:Int×Int):Ev:=(t.1,t.2,x.2.2)
noncomputable def jR (a:aG) (i:Nat) (t:Int×Int):aG:=⟨a.slots,(cA a.heap.length (qQ a.heap[i]! t) i a.heap a.where_).1,(cA a.heap.length (qQ a.heap[i]! t) i a.heap a.where_).2⟩
theorem KJ {a:aG} (ok:dZ a) {i:Nat} (hi:i<a.heap.length) {t:Int×Int} (ht:bO t) (h64:nT t):qP (qQ a.heap[i]! t):=by
 have:=ok.ev i hi
 exact ⟨ht,h64,this.2.2.1,this.2.2.2⟩
theorem KK {a:aG} (ok:dZ a) {i:Nat} (hi:i<a.heap.length) (t:Int×Int):DW a.heap.length (qQ a.heap[i]! t) (fun e=> ∃w,w<a.heap.length/\w≠i/\a.heap[w]! =e) a.heap a.where_ i:=by
 obtain ⟨b1,b2,b3,b4,b5⟩:=ok.back hi;refine ⟨hi,Nat.le_refl _,fun w hw hwi=>?_,b1,by rw [ok.wl];exact b2,fun e=>Iff.rfl⟩
 obtain ⟨c1,c2,c3,c4,c5⟩:=ok.back hw;exact ⟨c1,by rw [ok.wl];exact c2,c5,fun h=>hwi (ok.inj hw hi h)⟩
theorem MF {a:aG} (ok:dZ a) (i:Nat):DZ a.heap.length a.heap i:=
 ⟨fun w hw=>(ok.ev w hw).den,fun k k0 hk _ _=>ok.ord k k0 hk,fun i0 _k k0 hk hp=>ok.grand i0 k0 hk hp⟩
theorem nD {a:aG} (ok:dZ a) {i:Nat} (hi:i<a.heap.length) {t:Int×Int} (ht:bO t):
 CB a.heap.length (qQ a.heap[i]! t) (fun e=> ∃w,w<a.heap.length/\w≠i/\a.heap[w]! =e) (fun k=>k≠Ev.n (qQ a.heap[i]! t)/\ ∀w,w<a.heap.length->w≠i->Ev.n a.heap[w]!≠k) a.heap a.where_ (jR a i t).heap (jR a i t).where_:=
 BG (x:=qQ a.heap[i]! t) ht.1 (KK ok hi t) (MF ok i)
theorem GE {a:aG} (ok:dZ a) {i:Nat} (hi:i<a.heap.length) {t:Int×Int} (ht:bO t):(jR a i t).heap.length=a.heap.length/\(jR a i t).where_.length=a.where_.length:=
 ⟨(nD ok hi ht).hl,(nD ok hi ht).wl⟩
theorem XK {a:aG} (ok:dZ a) {i:Nat} (hi:i<a.heap.length) {t:Int×Int} (ht:bO t) (e:Ev):e∈(jR a i t).heap↔(e=qQ a.heap[i]! t\/(e∈a.heap/\e≠a.heap[i]!)):=by
 have st:=nD ok hi ht;have h1:e∈(jR a i t).heap↔ ∃w,w<a.heap.length/\((jR a i t).heap)[w]! =e:=by
  rw [aY,(GE ok hi ht).1]
 rw [h1];refine (st.mem e).trans ?_;constructor
 · rintro (h|⟨w,hw,hwi,rfl⟩)
   · exact .inl h
   · exact .inr ⟨bM hw,fun h=>hwi (ok.inj hw hi (by rw [h]))⟩
 · rintro (h|⟨h,hne⟩)
   · exact .inl h
   · obtain ⟨w,hw,rfl⟩:=aY.1 h
     exact .inr ⟨w,hw,fun h=>hne (by rw [h]),rfl⟩
theorem aAl {a:aG} (ok:dZ a) {i:Nat} (hi:i<a.heap.length) {t:Int×Int} (ht:bO t) (h64:nT t):dZ (jR a i t):=by
 have st:=nD ok hi ht;have len:=(GE ok hi ht).1;have hx:Ev.ix (qQ a.heap[i]! t)=Ev.ix a.heap[i]!:=rfl;have key:=wW ok.so st (Nat.le_refl _) ok.wl ok.hl (fun j hj hu=>by
  obtain ⟨w,hw,e1,e2⟩:=ok.used_ev hj hu
  by_cases e:w=i
  · subst e;exact ⟨qQ a.heap[w]! t,.inl rfl,e1,e2⟩
  · exact ⟨a.heap[w]!,.inr ⟨w,hw,e,rfl⟩,e1,e2⟩) (fun j hj hu=>⟨⟨(ok.no_ev hu hi).symm,fun w hw _=>ok.no_ev hu hw⟩,ok.un j hj hu⟩) (by
  rintro e (rfl|⟨w,hw,_,rfl⟩)
  · exact KJ ok hi ht h64
  · exact ok.ev w hw) (by
  rintro e f (rfl|⟨v,hv,hvi,rfl⟩) (rfl|⟨w,hw,hwi,rfl⟩) he
  · rfl
  · exact absurd (ok.nums hi hw he).symm hwi
  · exact absurd (ok.nums hv hi he) hvi
  · rw [ok.nums hv hw he])
 have:(jR a i t).heap.take a.heap.length=(jR a i t).heap:=List.take_of_length_le (by rw [len];exact Nat.le_refl _)
 show dZ ⟨a.slots,(jR a i t).heap,(jR a i t).where_⟩;rw [<- this];exact key
theorem aP1 (p q:Prop) [Decidable p] [Decidable q]:(if (if q then (0:Int) else 8)>(if p then 0 else 8) then (if q then (0:Int) else 8) else if p then 0 else 8)=if p/\q then 0 else 8:=by
 by_cases h1:p<;>by_cases h2:q<;>simp [h1,h2]
theorem Q1 {a:aG} (ok:dZ a) (fit:BI a) {h:Int×Int} {i:Nat} (hi:i<a.heap.length) (hh:(a.heap[i]!).2.2.2=h):pA a h=some ((i:Int),0):=by
 obtain ⟨lv,wv⟩:=ok.handle hi;rw [hh] at lv;unfold pA;rw [iP a fit,if_pos ok];simp only [aB,show ((0:Int) !=0)=false from rfl,cond_false,G5 ok.so,aQ lv,Bool.not_true]
 have:=lv.2.1;have:=lv.1;have:=ok.wl
 have e:(a.heap[i]!).2.2.2.1=h.1:=by rw [hh]
 rw [dD (l:=a.where_) lv.1 (by omega),<- e,wv]
 rfl
theorem HI {a:aG} (ok:dZ a) (fit:BI a) {h t:Int×Int} {i:Nat} (hi:i<a.heap.length) (hh:(a.heap[i]!).2.2.2=h) (ht:bO t) (h64:nT t):tL a h t=some (jR a i t,0):=by
 have bd:=ok.bd;obtain ⟨b1,b2,b3,b4,b5⟩:=ok.back hi;unfold tL;rw [iP a fit,if_pos ok,dG h64,if_pos ht];have pl:=Q1 ok fit hi hh;have se:=KE (u:=a.slots.uses) (us:=a.slots.used) (fr:=a.slots.free) (KJ ok hi ht h64) (show 0<=Ev.ix (qQ a.heap[i]! t) from b1) ok.cells rfl hi (show Ev.ix (qQ a.heap[i]! t)<a.where_.length by rw [ok.wl];exact b2)
 have se':eB (a.slots.uses,a.slots.used,a.slots.free,(i:Int),t.1,t.2,(a.heap[i]!).2.2.1,(a.heap[i]!).2.2.2.1,(a.heap[i]!).2.2.2.2,a.heap,a.where_)=some (cA a.heap.length (qQ a.heap[i]! t) i a.heap a.where_):=se
 simp only [aB,gt_iff_lt,Int.lt_irrefl,if_false,show ((0:Int) !=0)=false from rfl,cond_false,pl,bC (show a.heap.length<=1048576 by omega),bC (show a.where_.length<=1048576 by omega),aD a.heap i hi,se']
 rfl
theorem rM {a:aG} (ok:dZ a):kO a=some a:=by
 have bd:=ok.bd;unfold kO;simp only [wU ok.so,aB,bC (show a.heap.length<=1048576 by omega),bC (show a.where_.length<=1048576 by omega)]
theorem GF {a:aG} (ok:dZ a) {h t:Int×Int} {i:Nat} (hi:i<a.heap.length) (hh:(a.heap[i]!).2.2.2=h) (ht:bO t) (h64:nT t):rF a h t=some (jR a i t):=by
 have bd:=ok.bd;obtain ⟨b1,b2,b3,b4,b5⟩:=ok.back hi;obtain ⟨lv,wv⟩:=ok.handle hi;have hx:=KJ ok hi ht h64;have x1:Ev.ix (qQ a.heap[i]! t)<a.where_.length:=by rw [ok.wl];exact b2
 have st:=nD ok hi ht;obtain ⟨j,H1,W1,e1,e3,e4,e5,e6,e7,e8,e9,e10⟩:=HT (x:=qQ a.heap[i]! t) ht.1 i a.heap a.where_ (KK ok hi t) (MF ok i);have w1:a.where_.set (Ev.n (qQ a.heap[i]! t)) (i:Int)=a.where_:=set_same b5;unfold rF;rw [rM ok];have g1:aN a.where_ h.1=some (i:Int):=by
  have e:(a.heap[i]!).2.2.2.1=h.1:=by rw [hh]
  rw [dD (l:=a.where_) (i:=h.1) (by rw [<- e];exact b1) (by rw [<- e,ok.wl];exact b2),<- e,wv]
 have u1:pK ((i:Int),a.slots.uses,a.slots.used,a.slots.free,a.heap.set i (qQ a.heap[i]! t),a.where_)=some ((j:Int),a.slots.uses,a.slots.used,a.slots.free,H1.set j (qQ a.heap[i]! t),W1.set (Ev.n (qQ a.heap[i]! t)) (j:Int)):=by
  unfold pK
  have:=aAg (c0:=((i:Int),a.slots.uses,a.slots.used,a.slots.free,a.heap.set i (qQ a.heap[i]! t),a.where_)) (u:=a.slots.uses) (us:=a.slots.used) (fr:=a.slots.free) hx b1 rfl rfl rfl i a.heap a.where_ ok.cells hi rfl x1 List.length_set rfl
  rw [w1,e1] at this;exact this
 have cells1:mG a.heap.length H1 W1:=by
  refine ⟨by rw [e5];exact Nat.le_refl _,by omega,fun w hw=>?_⟩
  exact ⟨(BH ok.cells hi e1 w hw).1,(BH ok.cells hi e1 w hw).2.1,by rw [e6];exact (BH ok.cells hi e1 w hw).2.2⟩
 have d1:mM ((j:Int),a.slots.uses,a.slots.used,a.slots.free,H1.set j (qQ a.heap[i]! t),W1.set (Ev.n (qQ a.heap[i]! t)) (j:Int))=some (a.slots.uses,a.slots.used,a.slots.free,(cA a.heap.length (qQ a.heap[i]! t) i a.heap a.where_).1,(cA a.heap.length (qQ a.heap[i]! t) i a.heap a.where_).2):=by
  unfold mM
  have:=QX (c0:=((j:Int),a.slots.uses,a.slots.used,a.slots.free,H1.set j (qQ a.heap[i]! t),W1.set (Ev.n (qQ a.heap[i]! t)) (j:Int))) (n:=a.heap.length) (u:=a.slots.uses) (us:=a.slots.used) (fr:=a.slots.free) hx b1 rfl rfl rfl a.heap.length j H1 W1 (by omega) cells1 e3.lt e5 (by rw [e6];exact x1) List.length_set List.length_set
  rw [this];unfold cA;rw [e1]
 have s1:bV a.heap (i:Int) (t.1,t.2,(a.heap[i]!).2.2)=a.heap.set i (qQ a.heap[i]! t):=rfl;simp only [aB,g1,aD a.heap i hi,s1,u1,d1];rfl
end Go.Proofs.YtmlghnibpjlchaaGreat
namespace Go.Proofs.YtmlghnibpjlchaaGreat
open Go.Vm Classical
theorem MG (H:List Ev) (n:Int) (hl:H.length<=1000000):cH H n=some (decide (∃w,w<H.length/\(H[w]!).2.2.1=n)):=by
 unfold cH dW;have key:=iZ (body:=cG) (fun i=>(H,n,(H.length:Int),(i:Int))) H.length (fun i=>(H[i]!).2.2.1=n) (fun i=>(i:Int)) (e:= -1) (fun i hi=>by
  have e1:decide ((i:Int)<(H.length:Int))=true:=aQ (by omega)
  unfold cG wR;simp only [e1,cond_true,aD H i hi,aB,bF (show i<1000000000 by omega)]
  constructor
  · intro h;rw [fJ h];rfl
  · intro h;rw [fO h];rfl) (by
  unfold cG
  have:decide ((H.length:Int)<(H.length:Int))=false:=aL (by omega)
  simp only [this,cond_false])
 rw [aE]
 by_cases hx: ∃w,w<H.length/\(H[w]!).2.2.1=n
 · obtain ⟨k,h1,h2,h3⟩:=J0 hx
   have:=key.1 k h1 h2 h3
   rw [show ((0:Nat):Int)=0 from rfl] at this;rw [this,aQ hx];simp only [aB,aQ (show (0:Int)<=(k:Int) by omega)]
 · have:=key.2 fun i hi he=>hx ⟨i,hi,he⟩
   rw [show ((0:Nat):Int)=0 from rfl] at this;rw [this,aL hx];rfl
noncomputable def cT (a:aG) (t:Int×Int) (n:Int):Ev:=(t.1,t.2,n,kY a.slots)
noncomputable def kZ (a:aG) (t:Int×Int) (n:Int):aG:=
 ⟨gY a.slots,(cA (a.heap.length+1) (cT a t n) a.heap.length (a.heap++[cT a t n]) a.where_).1,(cA (a.heap.length+1) (cT a t n) a.heap.length (a.heap++[cT a t n]) a.where_).2⟩
section
variable {a : aG} (ok : dZ a) (op : CX a.slots) {t : Int × Int} (ht : bO t) (h64 : nT t) {n : Int} (n0 : 0 <= n) (n1 : n <= 1000000)
include ok op
theorem E9:Ev.ix (cT a t n)=(cR a.slots:Int)/\cR a.slots<a.slots.uses.length/\a.slots.used[cR a.slots]! =false/\a.slots.free.length=(gY a.slots).free.length+1:=by
 obtain ⟨h1,h2,h3⟩:=E5 ok.so op.1;refine ⟨rfl,h1,?_,?_⟩
 · have:=ok.so.uf (cR a.slots) h1
   cases h:a.slots.used[cR a.slots]! with
   |false=>rfl
   |true=>exact absurd h3 (this.1 h)
 · show _=(a.slots.free.take (a.slots.free.length-1)).length+1
   have:=op.1
   rw [List.length_take];omega
theorem MH:DW (a.heap.length+1) (cT a t n) (fun e=>e∈a.heap) (a.heap++[cT a t n]) a.where_ a.heap.length:=by
 obtain ⟨h1,h2,h3,h4⟩:=E9 (t:=t) (n:=n) ok op;have cell: ∀w,w<a.heap.length->(a.heap++[cT a t n])[w]! =a.heap[w]!:=fun w hw=>lK hw
 refine ⟨by omega,by simp,fun w hw hwi=>?_,by rw [h1];omega,by rw [h1,ok.wl];omega,fun e=>?_⟩
 · have hw':w<a.heap.length:=by omega
   rw [cell w hw'];obtain ⟨c1,c2,c3,c4,c5⟩:=ok.back hw';refine ⟨c1,by rw [ok.wl];exact c2,c5,fun h=>?_⟩
   rw [h1] at h
   have:Ev.n a.heap[w]! =cR a.slots:=by show (Ev.ix a.heap[w]!).toNat=_;omega
   exact ok.no_ev h3 hw' this
 · constructor
   · rintro ⟨w,hw,hwi,rfl⟩
     rw [cell w (by omega)]
     exact bM (by omega)
   · intro h
     obtain ⟨w,hw,rfl⟩:=aY.1 h;exact ⟨w,by omega,by omega,cell w hw⟩
theorem Q2 (ht:bO t):DZ (a.heap.length+1) (a.heap++[cT a t n]) a.heap.length:=by
 have _:=op;have cell: ∀w,w<a.heap.length->(a.heap++[cT a t n])[w]! =a.heap[w]!:=fun w hw=>lK hw
 refine ⟨fun w hw=>?_,fun k k0 hk k1 k2=>?_,fun i0 k k0 hk hp=>by omega⟩
 · by_cases h:w<a.heap.length
   · rw [cell w h];exact (ok.ev w h).den
   · have:w=a.heap.length:=by omega
     subst this;rw [mE (Nat.le_refl _),Nat.sub_self];exact ht.1
 · rw [cell k (by omega),cell _ (by omega)]
   exact ok.ord k k0 (by omega)
theorem zQ (ht:bO t):CB (a.heap.length+1) (cT a t n) (fun e=>e∈a.heap) (fun k=>k≠Ev.n (cT a t n)/\ ∀w,w<a.heap.length+1->w≠a.heap.length->Ev.n (a.heap++[cT a t n])[w]!≠k) (a.heap++[cT a t n]) a.where_ (kZ a t n).heap (kZ a t n).where_:=
 BG (x:=cT a t n) ht.1 (MH ok op) (Q2 ok op ht)
theorem FA (ht:bO t):(kZ a t n).heap.length=a.heap.length+1:=by
 have:=(zQ (n:=n) ok op ht).hl
 rw [this];simp
theorem Q3 (ht:bO t) (e:Ev):e∈(kZ a t n).heap↔(e=cT a t n\/e∈a.heap):=by
 have st:=zQ (n:=n) ok op ht;rw [aY,FA ok op ht];exact st.mem e
theorem N6 (ht:bO t) (h64:nT t) (n0:0<=n) (n1:n<=1000000):qP (cT a t n):=by
 have _:=ok;have _:=op;exact ⟨ht,h64,n0,n1⟩
theorem VX (ht:bO t) (h64:nT t) (n0:0<=n) (n1:n<=1000000) (nn: ∀e∈a.heap,Ev.num e≠n):dZ (kZ a t n):=by
 have st:=zQ (n:=n) ok op ht;have len:=FA (n:=n) ok op ht;obtain ⟨h1,h2,h3,h4⟩:=E9 (t:=t) (n:=n) ok op;have hu:=ok.so.ul;have ul:(gY a.slots).uses.length=a.slots.uses.length:=List.length_set;have key:=wW (aAe ok.so op) st (by simp) (by rw [ul];exact ok.wl) (by rw [ul];have:=ok.hl;omega) (fun j hj hu'=>by
  rw [ul] at hj;change (a.slots.used.set (cR a.slots) true)[j]! =true at hu';rw [bG] at hu'
  show∃e:Ev,_/\_/\_=(a.slots.uses.set (cR a.slots) (a.slots.uses[cR a.slots]!+1))[j]!
  rw [bG]
  by_cases e:j=cR a.slots
  · rw [if_pos ⟨e,h2⟩]
    exact ⟨cT a t n,.inl rfl,by rw [h1,e],rfl⟩
  · rw [if_neg (fun k=>e k.1)]
    rw [if_neg (fun k=>e k.1)] at hu'
    obtain ⟨w,hw,e1,e2⟩:=ok.used_ev hj hu';exact ⟨a.heap[w]!,.inr (bM hw),e1,e2⟩) (fun j hj hu'=>by
  rw [ul] at hj;change (a.slots.used.set (cR a.slots) true)[j]! =false at hu';rw [bG] at hu'
  by_cases e:j=cR a.slots
  · rw [if_pos ⟨e,by omega⟩] at hu';cases hu'
  · rw [if_neg (fun k=>e k.1)] at hu'
    refine ⟨⟨?_,fun w hw hwi=>?_⟩,ok.un j hj hu'⟩
    · show j≠(Ev.ix (cT a t n)).toNat
      omega
    · rw [lK (by omega)]
      exact ok.no_ev hu' (by omega)) (by
  rintro e (rfl|h)
  · exact N6 ok op ht h64 n0 n1
  · obtain ⟨w,hw,rfl⟩:=aY.1 h
    exact ok.ev w hw) (by
  rintro e f (rfl|he) (rfl|hf) hn
  · rfl
  · exact absurd hn.symm (nn f hf)
  · exact absurd hn (nn e he)
  · obtain ⟨v,hv,rfl⟩:=aY.1 he
    obtain ⟨w,hw,rfl⟩:=aY.1 hf;rw [ok.nums hv hw hn])
 have:(kZ a t n).heap.take (a.heap.length+1)=(kZ a t n).heap:=List.take_of_length_le (by rw [len];exact Nat.le_refl _)
 show dZ ⟨gY a.slots,(kZ a t n).heap,(kZ a t n).where_⟩;rw [<- this];exact key
theorem KL (ht:bO t) (h64:nT t) (n0:0<=n) (n1:n<=1000000):mG (a.heap.length+1) (a.heap++[cT a t n]) a.where_:=by
 have bd:=ok.bd;obtain ⟨h1,h2,h3,h4⟩:=E9 (t:=t) (n:=n) ok op;refine ⟨by simp,by simp;omega,fun w hw=>?_⟩
 by_cases h:w<a.heap.length
 · rw [lK h];exact ok.cells.ev w h
 · have:w=a.heap.length:=by omega
   subst this;rw [mE (Nat.le_refl _),Nat.sub_self];exact ⟨N6 ok op ht h64 n0 n1,by show 0<=Ev.ix (cT a t n);omega,by show Ev.ix (cT a t n)<_;rw [ok.wl];omega⟩
theorem xW (fit:BI a) (ht:bO t) (h64:nT t) (n0:0<=n) (n1:n<=1000000) (nn: ∀e∈a.heap,Ev.num e≠n):kJ a t n=some (kZ a t n,kY a.slots,0):=by
 have bd:=ok.bd;obtain ⟨h1,h2,h3,h4⟩:=E9 (t:=t) (n:=n) ok op;have hn: ¬ ∃w,w<a.heap.length/\(a.heap[w]!).2.2.1=n:=by
  rintro ⟨w,hw,e⟩;exact nn _ (bM hw) e
 unfold kJ;rw [iP a fit,if_pos ok,dG h64,if_pos ht,MG _ _ (by omega),aL hn,E6 ok.so,if_pos op]
 have se:=KE (u:=(gY a.slots).uses) (us:=(gY a.slots).used) (fr:=(gY a.slots).free) (N6 ok op ht h64 n0 n1) (show 0<=Ev.ix (cT a t n) by omega) (KL ok op ht h64 n0 n1) (by simp) (show a.heap.length<a.heap.length+1 by omega) (show Ev.ix (cT a t n)<a.where_.length by rw [ok.wl];omega)
 have e1:aA .i64 (((a.heap++[cT a t n]).length:Int) -1)=(a.heap.length:Int):=by rw [wi,List.length_append];simp;omega
 have ap:bT a.heap [(t.1,t.2,n,kY a.slots)]=some (a.heap++[cT a t n]):=fG (by simp;omega)
 have se':eB ((gY a.slots).uses,(gY a.slots).used,(gY a.slots).free,(a.heap.length:Int),t.1,t.2,n,(kY a.slots).1,(kY a.slots).2,a.heap++[cT a t n],a.where_)=some (cA (a.heap.length+1) (cT a t n) a.heap.length (a.heap++[cT a t n]) a.where_):=se
 simp only [aB,gt_iff_lt,Int.lt_irrefl,if_false,show ((0:Int) !=0)=false from rfl,cond_false,aL (show¬n<0 by omega),aL (show¬1000000<n by omega),bC (show a.heap.length<=1048576 by omega),bC (show a.where_.length<=1048576 by omega),ap,aE,e1,se']
 rfl
theorem AH (ht:bO t) (h64:nT t) (n0:0<=n) (n1:n<=1000000):dX a t n=some (kZ a t n,kY a.slots):=by
 have bd:=ok.bd;obtain ⟨h1,h2,h3,h4⟩:=E9 (t:=t) (n:=n) ok op;unfold dX;rw [rM ok];have e1:aA .i64 (((a.heap++[cT a t n]).length:Int) -1)=(a.heap.length:Int):=by rw [wi,List.length_append];simp;omega
 have ap:bT a.heap [(t.1,t.2,n,kY a.slots)]=some (a.heap++[cT a t n]):=fG (by simp;omega)
 have hx:=N6 (n:=n) ok op ht h64 n0 n1;have last:cA (a.heap.length+1) (cT a t n) a.heap.length (a.heap++[cT a t n]) a.where_=_:=QV (x:=cT a t n) ht.1 (MH ok op) (Q2 ok op ht) (fun k k0 hk hp=>by omega)
 have hs:(a.heap++[cT a t n]).set a.heap.length (cT a t n)=a.heap++[cT a t n]:=set_same (by rw [mE (Nat.le_refl _),Nat.sub_self];rfl)
 have ws:bV a.where_ (kY a.slots).1 (a.heap.length:Int)=a.where_.set (Ev.n (cT a t n)) (a.heap.length:Int):=rfl
 have u1:pL ((gY a.slots).uses,(gY a.slots).used,(gY a.slots).free,(a.heap.length:Int),a.heap++[cT a t n],a.where_.set (Ev.n (cT a t n)) (a.heap.length:Int))=some (((iG (cT a t n) a.heap.length (a.heap++[cT a t n]) a.where_).1:Int),(iG (cT a t n) a.heap.length (a.heap++[cT a t n]) a.where_).2.1.set (iG (cT a t n) a.heap.length (a.heap++[cT a t n]) a.where_).1 (cT a t n),(iG (cT a t n) a.heap.length (a.heap++[cT a t n]) a.where_).2.2.set (Ev.n (cT a t n)) ((iG (cT a t n) a.heap.length (a.heap++[cT a t n]) a.where_).1:Int)):=by
  unfold pL
  have:=aAi (c0:=((gY a.slots).uses,(gY a.slots).used,(gY a.slots).free,(a.heap.length:Int),a.heap++[cT a t n],a.where_.set (Ev.n (cT a t n)) (a.heap.length:Int))) (u:=(gY a.slots).uses) (us:=(gY a.slots).used) (fr:=(gY a.slots).free) hx (show 0<=Ev.ix (cT a t n) by omega) a.heap.length (a.heap++[cT a t n]) a.where_ (KL ok op ht h64 n0 n1) (by omega) (by simp) (by rw [ok.wl];omega) rfl List.length_set
  rw [hs] at this;exact this
 have g1:aN a.where_ (kY a.slots).1=some a.where_[cR a.slots]!:=aD a.where_ (cR a.slots) (by rw [ok.wl];exact h2)
 simp only [aB,KA ok.so op,ap,g1,aE,e1,ws,u1];unfold kZ;rw [last]
end
theorem xX {a:aG} (ok:dZ a) (op: ¬CX a.slots) (fit:BI a) {t:Int×Int} (ht:bO t) (h64:nT t) {n:Int} (n0:0<=n) (n1:n<=1000000) (nn: ∀e∈a.heap,Ev.num e≠n):kJ a t n=some (⟨⟨[],[],[]⟩,[],[]⟩,(0,0),18):=by
 have bd:=ok.bd;have hn: ¬ ∃w,w<a.heap.length/\(a.heap[w]!).2.2.1=n:=by
  rintro ⟨w,hw,e⟩;exact nn _ (bM hw) e
 unfold kJ;rw [iP a fit,if_pos ok,dG h64,if_pos ht,MG _ _ (by omega),aL hn,E6 ok.so,if_neg op]
 simp only [aB,gt_iff_lt,Int.lt_irrefl,if_false,show ((0:Int) !=0)=false from rfl,cond_false,aL (show¬n<0 by omega),aL (show¬1000000<n by omega),show ((18:Int) !=0)=true from rfl,cond_true]
end Go.Proofs.YtmlghnibpjlchaaGreat
namespace Go.Proofs.YtmlghnibpjlchaaGreat
open Go.Vm Classical
theorem wH {l:List Ev} {n i:Nat} {v:Ev}:(l.set i v).take n=(l.take n).set i v:=by
 apply List.ext_getElem?;intro j;rw [List.getElem?_take,List.getElem?_set,List.getElem?_set,List.getElem?_take,List.length_take]
 by_cases h1:j<n
 · rw [if_pos h1]
   by_cases h2:i=j
   · subst h2
     by_cases h3:i<l.length
     · rw [if_pos rfl,if_pos h3,if_pos rfl,if_pos (by omega)]
     · rw [if_pos rfl,if_neg h3,if_pos rfl,if_neg (by omega)]
   · rw [if_neg h2,if_neg h2,if_pos h1]
 · rw [if_neg h1]
   by_cases h2:i=j
   · rw [if_pos h2,if_neg (by omega)]
   · rw [if_neg h2,if_neg h1]
theorem Q4 {n:Nat} {x:Ev}: ∀(i:Nat) (H:List Ev) (W:List Int),i<n->iG x i (H.take n) W=((iG x i H W).1,(iG x i H W).2.1.take n,(iG x i H W).2.2)
 |0,H,W,hi=>by rw [iG,iG]
 |i+1,H,W,hi=>by
  have e:(H.take n)[i / 2]! =H[i / 2]!:=lL (by omega)
  rw [iG,iG,e]
  by_cases h:dA x H[i / 2]!
  · rw [if_pos h,if_pos h,<- wH]
    exact Q4 (i / 2) _ _ (by omega)
  · rw [if_neg h,if_neg h]
termination_by i=>i
decreasing_by omega
theorem aAm {x:Ev}: ∀(i:Nat) (H:List Ev) (W:List Int),(iG x i H W).1<=i
 |0,H,W=>by rw [iG];exact Nat.le_refl _
 |i+1,H,W=>by
  rw [iG];split
  · exact Nat.le_trans (aAm (i / 2) _ _) (by omega)
  · exact Nat.le_refl _
termination_by i=>i
decreasing_by omega
theorem KM {n:Nat} {H:List Ev} {i:Nat} (hk:2*i+1<n):gR n (H.take n) i=gR n H i:=by
 unfold gR
 by_cases h:2*i+2<n
 · rw [lL h,lL (show 2*i+1<n by omega)]
 · rw [if_neg (fun k=>h k.1),if_neg (fun k=>h k.1)]
theorem Q5 {n:Nat} {x:Ev} {i:Nat} {H:List Ev} {W:List Int} (h:2*i+1<n) (hl:dA H[gR n H i]! x):dH n x i H W=dH n x (gR n H i) (H.set i H[gR n H i]!) (W.set (H[gR n H i]!).n (i:Int)):=by
 rw [dH,dif_pos h,if_pos hl]
theorem zR {n:Nat} {x:Ev} {i:Nat} {H:List Ev} {W:List Int} (h: ¬(2*i+1<n/\dA H[gR n H i]! x)):dH n x i H W=(i,H,W):=by
 rw [dH];split
 · rename_i h1;rw [if_neg (fun k=>h ⟨h1,k⟩)]
 · rfl
theorem KN {n:Nat} {x:Ev}: ∀(d i:Nat) (H:List Ev) (W:List Int),n-i<=d->dH n x i (H.take n) W=((dH n x i H W).1,(dH n x i H W).2.1.take n,(dH n x i H W).2.2)
 |0,i,H,W,hd=>by
  rw [zR (fun h=>by omega),zR (fun h=>by omega)]
 |d+1,i,H,W,hd=>by
  have kc:=oL n H i
  by_cases h:2*i+1<n/\dA H[gR n H i]! x
  · have e:(H.take n)[gR n (H.take n) i]! =H[gR n H i]!:=by rw [KM h.1,lL (by omega)]
    rw [Q5 h.1 h.2,Q5 (H:=H.take n) h.1 (by rw [e];exact h.2),e,KM h.1,<- wH]
    exact KN d _ _ _ (by omega)
  · have h': ¬(2*i+1<n/\dA (H.take n)[gR n (H.take n) i]! x):=by
     rintro ⟨k1,k2⟩;rw [KM k1,lL (by omega)] at k2
     exact h ⟨k1,k2⟩
    rw [zR h,zR h']
theorem VY {x:Ev}: ∀(i:Nat) (H:List Ev) (W:List Int),(iG x i H W).2.1.length=H.length/\(iG x i H W).2.2.length=W.length
 |0,H,W=>by rw [iG];exact ⟨rfl,rfl⟩
 |i+1,H,W=>by
  rw [iG];split
  · have:=VY (x:=x) (i / 2) (H.set (i+1) H[i / 2]!) (W.set (H[i / 2]!).n ((i+1:Nat):Int))
    rwa [List.length_set,List.length_set] at this
  · exact ⟨rfl,rfl⟩
termination_by i=>i
decreasing_by omega
theorem FB {n:Nat} {x:Ev} {i:Nat} {H:List Ev} {W:List Int} (hi:i<n):cA n x i (H.take n) W=((cA n x i H W).1.take n,(cA n x i H W).2):=by
 unfold cA;rw [Q4 i H W hi];dsimp only;rw [KN n _ _ _ (by omega)]
 dsimp only;rw [wH]
noncomputable def dT (a:aG) (i:Nat):aG:=
 if i<a.heap.length-1 then ⟨eX a.slots (a.heap[i]!).2.2.2,(cA (a.heap.length-1) a.heap[a.heap.length-1]! i a.heap (a.where_.set (Ev.n a.heap[i]!) (-1))).1.take (a.heap.length-1),(cA (a.heap.length-1) a.heap[a.heap.length-1]! i a.heap (a.where_.set (Ev.n a.heap[i]!) (-1))).2⟩
 else ⟨eX a.slots (a.heap[i]!).2.2.2,a.heap.take (a.heap.length-1),a.where_.set (Ev.n a.heap[i]!) (-1)⟩
section
variable {a : aG} (ok : dZ a) {i : Nat} (hi : i < a.heap.length)
include ok hi
theorem xY {w:Nat} (hw:w<a.heap.length) (hne:w≠i):Ev.n a.heap[w]!≠Ev.n a.heap[i]!:=by
 have h1:=(ok.back hw).1;have h2:=(ok.back hi).1;exact aNP h1 h2 fun h=>hne (ok.inj hw hi h)
theorem MI:mG (a.heap.length-1) a.heap (a.where_.set (Ev.n a.heap[i]!) (-1)):=by
 have c:=ok.cells;refine ⟨by omega,c.hb,fun w hw=>?_⟩
 rw [List.length_set];exact c.ev w (by omega)
theorem aAn (hlt:i<a.heap.length-1):DW (a.heap.length-1) a.heap[a.heap.length-1]! (fun e=> ∃w,w<a.heap.length-1/\w≠i/\a.heap[w]! =e) a.heap (a.where_.set (Ev.n a.heap[i]!) (-1)) i:=by
 obtain ⟨b1,b2,b3,b4,b5⟩:=ok.back (show a.heap.length-1<a.heap.length by omega)
 refine ⟨hlt,by omega,fun w hw hwi=>?_,b1,by rw [List.length_set,ok.wl];exact b2,fun e=>Iff.rfl⟩
 obtain ⟨c1,c2,c3,c4,c5⟩:=ok.back (show w<a.heap.length by omega)
 refine ⟨c1,by rw [List.length_set,ok.wl];exact c2,?_,fun h=>?_⟩
 · rw [bG,if_neg (fun h=>xY ok hi (show w<a.heap.length by omega) hwi h.1)]
   exact c5
 · have:=ok.inj (show w<a.heap.length by omega) (show a.heap.length-1<a.heap.length by omega) h
   omega
theorem aGs:DZ (a.heap.length-1) a.heap i:=
 ⟨fun w hw=>(ok.ev w (by omega)).den,fun k k0 hk _ _=>ok.ord k k0 (by omega),fun i0 k k0 hk hp=>ok.grand i0 k0 (by omega) hp⟩
theorem G6 (hlt:i<a.heap.length-1):
 CB (a.heap.length-1) a.heap[a.heap.length-1]! (fun e=> ∃w,w<a.heap.length-1/\w≠i/\a.heap[w]! =e) (fun k=>k≠Ev.n a.heap[a.heap.length-1]!/\ ∀w,w<a.heap.length-1->w≠i->Ev.n a.heap[w]!≠k) a.heap (a.where_.set (Ev.n a.heap[i]!) (-1))
  (cA (a.heap.length-1) a.heap[a.heap.length-1]! i a.heap (a.where_.set (Ev.n a.heap[i]!) (-1))).1 (cA (a.heap.length-1) a.heap[a.heap.length-1]! i a.heap (a.where_.set (Ev.n a.heap[i]!) (-1))).2:=
 BG (ok.ev (a.heap.length-1) (by omega)).den (aAn ok hi hlt) (aGs ok hi)
theorem MJ:eF (eX a.slots (a.heap[i]!).2.2.2):=aAd ok.so (ok.handle hi).1
theorem BK {j:Nat} (hj:j<a.slots.uses.length):(eX a.slots (a.heap[i]!).2.2.2).used[j]! =if j=Ev.n a.heap[i]! then false else a.slots.used[j]!:=by
 have _:=hi;show (a.slots.used.set (Ev.n a.heap[i]!) false)[j]! =_;rw [bG]
 have:=ok.so.ul
 by_cases e:j=Ev.n a.heap[i]!
 · rw [if_pos ⟨e,by omega⟩,if_pos e]
 · rw [if_neg (fun k=>e k.1),if_neg e]
theorem GG:dZ (dT a i):=by
 have hb:=ok.back hi;have hl:a.heap.length-1+(eX a.slots (a.heap[i]!).2.2.2).free.length=a.slots.uses.length:=by
  show a.heap.length-1+(a.slots.free++[_]).length=_;rw [List.length_append]
  have:=ok.hl
  simp only [List.length_cons,List.length_nil];omega
 have un: ∀j,j<a.slots.uses.length->(eX a.slots (a.heap[i]!).2.2.2).used[j]! =false->(a.where_.set (Ev.n a.heap[i]!) (-1))[j]! = -1:=by
  intro j hj hu;rw [BK ok hi hj] at hu;rw [bG]
  by_cases e:j=Ev.n a.heap[i]!
  · rw [if_pos ⟨e.symm▸rfl,by rw [ok.wl];omega⟩]
  · rw [if_neg e] at hu
    rw [if_neg (fun k=>e k.1)]
    exact ok.un j hj hu
 unfold dT
 by_cases hlt:i<a.heap.length-1
 · rw [if_pos hlt]
   have st:=G6 ok hi hlt;refine wW (MJ ok hi) st (by omega) (by rw [List.length_set];exact ok.wl) hl (fun j hj hu=>?_) (fun j hj hu=>⟨⟨?_,fun w hw hwi=>?_⟩,un j hj hu⟩) ?_ ?_
   · change j<a.slots.uses.length at hj
     rw [BK ok hi hj] at hu
     by_cases e:j=Ev.n a.heap[i]!
     · rw [if_pos e] at hu;cases hu
     · rw [if_neg e] at hu
       obtain ⟨w,hw,e1,e2⟩:=ok.used_ev hj hu;refine ⟨a.heap[w]!,?_,e1,e2⟩
       by_cases hl':w=a.heap.length-1
       · left;rw [hl']
       · refine .inr ⟨w,by omega,fun h=>e ?_,rfl⟩
         rw [<- h];show j=(Ev.ix a.heap[w]!).toNat;omega
   · change j<a.slots.uses.length at hj
     rw [BK ok hi hj] at hu
     by_cases e:j=Ev.n a.heap[i]!
     · rw [e];exact (xY ok hi (by omega) (by omega)).symm
     · rw [if_neg e] at hu
       exact (ok.no_ev hu (by omega)).symm
   · change j<a.slots.uses.length at hj
     rw [BK ok hi hj] at hu
     by_cases e:j=Ev.n a.heap[i]!
     · rw [e];exact xY ok hi (by omega) hwi
     · rw [if_neg e] at hu
       exact ok.no_ev hu (by omega)
   · rintro e (rfl|⟨w,hw,_,rfl⟩)
     · exact ok.ev _ (by omega)
     · exact ok.ev w (by omega)
   · rintro e f (rfl|⟨v,hv,hvi,rfl⟩) (rfl|⟨w,hw,hwi,rfl⟩) he
     · rfl
     · rw [ok.nums (by omega) (by omega) he]
     · rw [ok.nums (by omega) (by omega) he]
     · rw [ok.nums (by omega) (by omega) he]
 · rw [if_neg hlt]
   have hie:i=a.heap.length-1:=by omega
   refine aG3 (MJ ok hi) (fun e=> ∃w,w<a.heap.length-1/\a.heap[w]! =e) (by omega) (by rw [List.length_set];exact ok.wl) hl (fun w hw=>?_) (fun e=>Iff.rfl) (fun k k0 hk=>ok.ord k k0 (by omega)) (fun j hj hu=>?_) un ?_ ?_
   · obtain ⟨c1,c2,c3,c4,c5⟩:=ok.back (show w<a.heap.length by omega)
     refine ⟨c1,by rw [List.length_set,ok.wl];exact c2,?_⟩
     rw [bG,if_neg (fun h=>xY ok hi (show w<a.heap.length by omega) (by omega) h.1)]
     exact c5
   · change j<a.slots.uses.length at hj
     rw [BK ok hi hj] at hu
     by_cases e:j=Ev.n a.heap[i]!
     · rw [if_pos e] at hu;cases hu
     · rw [if_neg e] at hu
       obtain ⟨w,hw,e1,e2⟩:=ok.used_ev hj hu;refine ⟨a.heap[w]!,⟨w,?_,rfl⟩,e1,e2⟩
       have:w≠i:=fun h=>e (by rw [<- h];show j=(Ev.ix a.heap[w]!).toNat;omega)
       omega
   · rintro e ⟨w,hw,rfl⟩
     exact ok.ev w (by omega)
   · rintro e f ⟨v,hv,rfl⟩ ⟨w,hw,rfl⟩ he
     rw [ok.nums (by omega) (by omega) he]
theorem KO (e:Ev):e∈(dT a i).heap↔(e∈a.heap/\e≠a.heap[i]!):=by
 have other: ∀w,w<a.heap.length->(a.heap[w]!≠a.heap[i]!↔w≠i):=fun w hw=>⟨fun h k=>h (by rw [k]),fun h k=>h (ok.inj hw hi (by rw [k]))⟩
 unfold dT
 by_cases hlt:i<a.heap.length-1
 · rw [if_pos hlt]
   have st:=G6 ok hi hlt;show e∈(_:List Ev).take _↔_;rw [CY (by rw [st.hl];omega)]
   refine (st.mem e).trans ?_;constructor
   · rintro (h|⟨w,hw,hwi,rfl⟩)
     · rw [h];exact ⟨bM (by omega),(other _ (by omega)).2 (by omega)⟩
     · exact ⟨bM (by omega),(other _ (by omega)).2 hwi⟩
   · rintro ⟨h,hne⟩
     obtain ⟨w,hw,rfl⟩:=aY.1 h
     by_cases c:w=a.heap.length-1
     · left;rw [c]
     · exact .inr ⟨w,by omega,(other w hw).1 hne,rfl⟩
 · rw [if_neg hlt]
   show e∈a.heap.take _↔_;rw [CY (by omega)]
   constructor
   · rintro ⟨w,hw,rfl⟩
     exact ⟨bM (by omega),(other _ (by omega)).2 (by omega)⟩
   · rintro ⟨h,hne⟩
     obtain ⟨w,hw,rfl⟩:=aY.1 h
     have:=(other w hw).1 hne
     exact ⟨w,by omega,rfl⟩
theorem GH:qZ a (i:Int)=some (dT a i,a.heap[i]!,0):=by
 have bd:=ok.bd;obtain ⟨b1,b2,b3,b4,b5⟩:=ok.back hi;obtain ⟨c1,c2,c3,c4,c5⟩:=ok.back (show a.heap.length-1<a.heap.length by omega)
 unfold qZ;have e1:aA .i64 ((a.heap.length:Int) -1)=((a.heap.length-1:Nat):Int):=zN (by omega) (by omega)
 have g1:aN a.where_ (a.heap[i]!).2.2.2.1=some a.where_[(a.heap[i]!).2.2.2.1.toNat]!:=dD b1 (by rw [ok.wl];exact b2)
 have ws:bV a.where_ (a.heap[i]!).2.2.2.1 (-1)=a.where_.set (Ev.n a.heap[i]!) (-1):=rfl
 simp only [aD a.heap i hi,aB,N0 ok.so (ok.handle hi).1,show ((0:Int) !=0)=false from rfl,cond_false,bC (show a.heap.length<=1048576 by omega),bC (show a.where_.length<=1048576 by omega),aE,e1,aD a.heap (a.heap.length-1) (by omega),qO a.heap (a.heap.length-1) (by omega),g1,ws,Int.toNat_natCast]
 unfold dT
 by_cases hlt:i<a.heap.length-1
 · rw [aQ (by omega),if_pos hlt]
   have se:=TJ (cap:=a.heap.length) (u:=(eX a.slots (a.heap[i]!).2.2.2).uses) (us:=(eX a.slots (a.heap[i]!).2.2.2).used) (fr:=(eX a.slots (a.heap[i]!).2.2.2).free) (ok.ev (a.heap.length-1) (by omega)) (show 0<=Ev.ix a.heap[a.heap.length-1]! from c1) (MI ok hi) hlt (show Ev.ix a.heap[a.heap.length-1]!<_ by rw [List.length_set,ok.wl];exact c2)
   rw [se];rfl
 · rw [aL (by omega),if_neg hlt]
   rfl
theorem xZ (fit:BI a) {h:Int×Int} (hh:(a.heap[i]!).2.2.2=h):lG a h=some (dT a i,a.heap[i]!,0):=by
 unfold lG;rw [Q1 ok fit hi hh];simp only [aB,show ((0:Int) !=0)=false from rfl,cond_false,GH ok hi]
theorem yA {h:Int×Int} (hh:(a.heap[i]!).2.2.2=h):jF a h=some (dT a i):=by
 have bd:=ok.bd;subst hh;obtain ⟨b1,b2,b3,b4,b5⟩:=ok.back hi;obtain ⟨c1,c2,c3,c4,c5⟩:=ok.back (show a.heap.length-1<a.heap.length by omega)
 unfold jF;rw [rM ok];have e1:aA .i64 ((a.heap.length:Int) -1)=((a.heap.length-1:Nat):Int):=zN (by omega) (by omega)
 have g1:aN a.where_ (a.heap[i]!).2.2.2.1=some (i:Int):=by
  rw [dD (l:=a.where_) b1 (by rw [ok.wl];exact b2)]
  exact congrArg some b5
 have gv:=J9 ok.so (ok.handle hi).1;simp only [aB,g1,aE,e1,Int.toNat_natCast];unfold dT
 by_cases hlt:i<a.heap.length-1
 · rw [eM (show (i:Int)≠((a.heap.length-1:Nat):Int) by omega),if_pos hlt]
   have hne:a.heap.length-1≠i:=by omega
   have nn:Ev.n a.heap[a.heap.length-1]!≠Ev.n a.heap[i]!:=xY ok hi (by omega) hne
   have sw:=E8 (n:=a.heap.length) (x:=a.heap[i]!) (u:=a.slots.uses) (us:=a.slots.used) (fr:=a.slots.free) (H:=a.heap) (W:=a.where_) hi (show a.heap.length-1<a.heap.length by omega) hne rfl b1 (by rw [ok.wl];exact b2) c1 (by rw [ok.wl];exact c2)
   rw [set_same (l:=a.heap) rfl,set_same (l:=a.where_) b5] at sw;have hs:(a.heap.set i a.heap[a.heap.length-1]!).set (a.heap.length-1) a.heap[i]! =(a.heap.set (a.heap.length-1) a.heap[i]!).set i a.heap[a.heap.length-1]!:=List.set_comm _ _ (by omega)
   have ws:bV ((a.where_.set (Ev.n a.heap[a.heap.length-1]!) (i:Int)).set (Ev.n a.heap[i]!) ((a.heap.length-1:Nat):Int)) (a.heap[i]!).2.2.2.1 (-1)=(a.where_.set (Ev.n a.heap[i]!) (-1)).set (Ev.n a.heap[a.heap.length-1]!) (i:Int):=by
    show ((a.where_.set (Ev.n a.heap[a.heap.length-1]!) (i:Int)).set (Ev.n a.heap[i]!) ((a.heap.length-1:Nat):Int)).set (Ev.n a.heap[i]!) (-1)=_;rw [List.set_set,List.set_comm _ _ nn]
   have g2:aN ((a.where_.set (Ev.n a.heap[a.heap.length-1]!) (i:Int)).set (Ev.n a.heap[i]!) ((a.heap.length-1:Nat):Int)) (a.heap[i]!).2.2.2.1=some _:=dD b1 (by rw [List.length_set,List.length_set,ok.wl];exact b2)
   have cells:mG (a.heap.length-1) (a.heap.set (a.heap.length-1) a.heap[i]!) (a.where_.set (Ev.n a.heap[i]!) (-1)):=by
    refine ⟨by rw [List.length_set];omega,by rw [List.length_set];omega,fun w hw=>?_⟩
    rw [bG,if_neg (by omega)]
    exact (MI ok hi).ev w hw
   have x1:Ev.ix a.heap[a.heap.length-1]!<(a.where_.set (Ev.n a.heap[i]!) (-1)).length:=by rw [List.length_set,ok.wl];exact c2
   have hx:=ok.ev (a.heap.length-1) (by omega)
   have gv':oH (aS.mk a.slots.uses a.slots.used a.slots.free) (a.heap[i]!).2.2.2=some (eX a.slots (a.heap[i]!).2.2.2):=gv;have tk:(a.heap.set (a.heap.length-1) a.heap[i]!).take (a.heap.length-1)=a.heap.take (a.heap.length-1):=by rw [wH];exact List.set_eq_of_length_le (by rw [List.length_take];omega)
   have U:mC ((eX a.slots (a.heap[i]!).2.2.2).uses,(eX a.slots (a.heap[i]!).2.2.2).used,(eX a.slots (a.heap[i]!).2.2.2).free,a.heap.length-1,((a.heap.set (a.heap.length-1) a.heap[i]!).set i a.heap[a.heap.length-1]!).length,(i:Int),(a.heap.set (a.heap.length-1) a.heap[i]!).set i a.heap[a.heap.length-1]!,(a.where_.set (Ev.n a.heap[i]!) (-1)).set (Ev.n a.heap[a.heap.length-1]!) (i:Int))=
    some (((iG a.heap[a.heap.length-1]! i (a.heap.set (a.heap.length-1) a.heap[i]!) (a.where_.set (Ev.n a.heap[i]!) (-1))).1:Int),(iG a.heap[a.heap.length-1]! i (a.heap.set (a.heap.length-1) a.heap[i]!) (a.where_.set (Ev.n a.heap[i]!) (-1))).2.1.set (iG a.heap[a.heap.length-1]! i (a.heap.set (a.heap.length-1) a.heap[i]!) (a.where_.set (Ev.n a.heap[i]!) (-1))).1 a.heap[a.heap.length-1]!,(iG a.heap[a.heap.length-1]! i (a.heap.set (a.heap.length-1) a.heap[i]!) (a.where_.set (Ev.n a.heap[i]!) (-1))).2.2.set (Ev.n a.heap[a.heap.length-1]!) ((iG a.heap[a.heap.length-1]! i (a.heap.set (a.heap.length-1) a.heap[i]!) (a.where_.set (Ev.n a.heap[i]!) (-1))).1:Int)):=by
    unfold mC
    exact aAf (n:=a.heap.length-1) (c0:=((eX a.slots (a.heap[i]!).2.2.2).uses,(eX a.slots (a.heap[i]!).2.2.2).used,(eX a.slots (a.heap[i]!).2.2.2).free,a.heap.length-1,((a.heap.set (a.heap.length-1) a.heap[i]!).set i a.heap[a.heap.length-1]!).length,(i:Int),(a.heap.set (a.heap.length-1) a.heap[i]!).set i a.heap[a.heap.length-1]!,(a.where_.set (Ev.n a.heap[i]!) (-1)).set (Ev.n a.heap[a.heap.length-1]!) (i:Int))) hx c1 i _ _ cells hlt x1 List.length_set List.length_set
   have ul:=aAm (x:=a.heap[a.heap.length-1]!) i (a.heap.set (a.heap.length-1) a.heap[i]!) (a.where_.set (Ev.n a.heap[i]!) (-1));have un:=VY (x:=a.heap[a.heap.length-1]!) i (a.heap.set (a.heap.length-1) a.heap[i]!) (a.where_.set (Ev.n a.heap[i]!) (-1));have uc:=fun w hw=>BH (x:=a.heap[a.heap.length-1]!) cells hlt (i:=i) rfl w hw
   have cells1:mG (a.heap.length-1) (iG a.heap[a.heap.length-1]! i (a.heap.set (a.heap.length-1) a.heap[i]!) (a.where_.set (Ev.n a.heap[i]!) (-1))).2.1 (iG a.heap[a.heap.length-1]! i (a.heap.set (a.heap.length-1) a.heap[i]!) (a.where_.set (Ev.n a.heap[i]!) (-1))).2.2:=by
    refine ⟨by rw [un.1,List.length_set];omega,by rw [un.1,List.length_set];omega,fun w hw=>?_⟩
    rw [un.2];exact uc w hw
   have D:kB ((eX a.slots (a.heap[i]!).2.2.2).uses,(eX a.slots (a.heap[i]!).2.2.2).used,(eX a.slots (a.heap[i]!).2.2.2).free,a.heap.length-1,((a.heap.set (a.heap.length-1) a.heap[i]!).set i a.heap[a.heap.length-1]!).length,((iG a.heap[a.heap.length-1]! i (a.heap.set (a.heap.length-1) a.heap[i]!) (a.where_.set (Ev.n a.heap[i]!) (-1))).1:Int),(iG a.heap[a.heap.length-1]! i (a.heap.set (a.heap.length-1) a.heap[i]!) (a.where_.set (Ev.n a.heap[i]!) (-1))).2.1.set (iG a.heap[a.heap.length-1]! i (a.heap.set (a.heap.length-1) a.heap[i]!) (a.where_.set (Ev.n a.heap[i]!) (-1))).1 a.heap[a.heap.length-1]!,(iG a.heap[a.heap.length-1]! i (a.heap.set (a.heap.length-1) a.heap[i]!) (a.where_.set (Ev.n a.heap[i]!) (-1))).2.2.set (Ev.n a.heap[a.heap.length-1]!) ((iG a.heap[a.heap.length-1]! i (a.heap.set (a.heap.length-1) a.heap[i]!) (a.where_.set (Ev.n a.heap[i]!) (-1))).1:Int))=
    some (cA (a.heap.length-1) a.heap[a.heap.length-1]! i (a.heap.set (a.heap.length-1) a.heap[i]!) (a.where_.set (Ev.n a.heap[i]!) (-1))):=by
    unfold kB
    exact QW (n:=a.heap.length-1) (c0:=((eX a.slots (a.heap[i]!).2.2.2).uses,(eX a.slots (a.heap[i]!).2.2.2).used,(eX a.slots (a.heap[i]!).2.2.2).free,a.heap.length-1,((a.heap.set (a.heap.length-1) a.heap[i]!).set i a.heap[a.heap.length-1]!).length,((iG a.heap[a.heap.length-1]! i (a.heap.set (a.heap.length-1) a.heap[i]!) (a.where_.set (Ev.n a.heap[i]!) (-1))).1:Int),(iG a.heap[a.heap.length-1]! i (a.heap.set (a.heap.length-1) a.heap[i]!) (a.where_.set (Ev.n a.heap[i]!) (-1))).2.1.set (iG a.heap[a.heap.length-1]! i (a.heap.set (a.heap.length-1) a.heap[i]!) (a.where_.set (Ev.n a.heap[i]!) (-1))).1 a.heap[a.heap.length-1]!,(iG a.heap[a.heap.length-1]! i (a.heap.set (a.heap.length-1) a.heap[i]!) (a.where_.set (Ev.n a.heap[i]!) (-1))).2.2.set (Ev.n a.heap[a.heap.length-1]!) ((iG a.heap[a.heap.length-1]! i (a.heap.set (a.heap.length-1) a.heap[i]!) (a.where_.set (Ev.n a.heap[i]!) (-1))).1:Int))) hx c1 a.heap.length (iG a.heap[a.heap.length-1]! i (a.heap.set (a.heap.length-1) a.heap[i]!) (a.where_.set (Ev.n a.heap[i]!) (-1))).1 (iG a.heap[a.heap.length-1]! i (a.heap.set (a.heap.length-1) a.heap[i]!) (a.where_.set (Ev.n a.heap[i]!) (-1))).2.1 (iG a.heap[a.heap.length-1]! i (a.heap.set (a.heap.length-1) a.heap[i]!) (a.where_.set (Ev.n a.heap[i]!) (-1))).2.2 (by omega) cells1 (by omega) (by rw [un.2];exact x1) List.length_set List.length_set
   have st:=FB (n:=(a.heap.length-1)) (x:=a.heap[a.heap.length-1]!) (i:=i) (H:=(a.heap.set (a.heap.length-1) a.heap[i]!)) (W:=(a.where_.set (Ev.n a.heap[i]!) (-1))) hlt;have st2:=FB (n:=(a.heap.length-1)) (x:=a.heap[a.heap.length-1]!) (i:=i) (H:=a.heap) (W:=(a.where_.set (Ev.n a.heap[i]!) (-1))) hlt;rw [tk,st2] at st;injection st with st1 st3
   simp only [cond_true,sw,aB,qO _ (a.heap.length-1) (show a.heap.length-1<=((a.heap.set (a.heap.length-1) a.heap[i]!).set i a.heap[a.heap.length-1]!).length by rw [List.length_set,List.length_set];omega),g2,gv',ws,hs,U,D,<- st1,<- st3]
 · rw [bZ (show (i:Int)=((a.heap.length-1:Nat):Int) by omega),if_neg hlt]
   have ws:bV a.where_ (a.heap[i]!).2.2.2.1 (-1)=a.where_.set (Ev.n a.heap[i]!) (-1):=rfl;simp only [cond_false,qO a.heap (a.heap.length-1) (by omega),aB,gv,ws]
end
end Go.Proofs.YtmlghnibpjlchaaGreat
namespace Go.Proofs.YtmlghnibpjlchaaGreat
open Go.Vm Classical
abbrev sV:=Int×Int×Int
theorem dZ.fit {a:aG} (ok:dZ a):BI a:=by
 have bd:=ok.bd
 have:=ok.so.fl
 have:=ok.so.n2
 exact ⟨by omega,by omega,by omega,fun w hw=>(ok.ev w hw).2.1⟩
theorem FC (l:List sV) (id:Int) (hl:l.length<=1000000) (hs: ∀i j,i<j->j<l.length->(l[i]!).1<(l[j]!).1):
 (∀k,k<l.length->(l[k]!).1=id->aV l id ()=some ((k:Int),true))/\
 ((∀k,k<l.length->(l[k]!).1≠id)-> ∃m,m<=l.length/\(∀i,i<m->(l[i]!).1<id)/\(∀i,m<=i->i<l.length->id<(l[i]!).1)/\aV l id ()=some ((m:Int),false)):=by
 obtain ⟨m,m1,m2,m3⟩:=QU (fun i=>(l[i]!).1) id l.length hs
 have run:aV l id ()=aJ aU (l,id,(l.length:Int),(m:Int),(m:Int)):=by
  unfold aV;refine GB (body:=aU) (fun lo hi=>(l,id,(l.length:Int),(lo:Int),(hi:Int))) l.length m (fun i=>(l[i]!).1<id) (fun lo hi h1 h2=>?_) m2 (fun i h1 h2 h3=>by have:=m3 i h1 h2;omega) l.length 0 l.length (by omega) (by omega) m1 (Nat.le_refl _)
  have e1:decide ((lo:Int)<(hi:Int))=true:=aQ (by omega)
  have hh:=aGn (a:=lo) (b:=hi) (by omega) (by omega)
  unfold aU sF;simp only [e1,cond_true,hh,aD l ((lo+hi) / 2) (by omega),kD,aB,bF (show (lo+hi) / 2<1000000000 by omega)]
  constructor
  · intro h
    have:decide (jL (l[(lo+hi) / 2]!).1 id<0)=true:=by
     rcases eO (l[(lo+hi) / 2]!).1 id with ⟨a,e⟩|⟨a,e⟩|⟨a,e⟩<;>rw [e]<;>first|rfl|omega
    rw [this];rfl
  · intro h
    have:decide (jL (l[(lo+hi) / 2]!).1 id<0)=false:=by
     rcases eO (l[(lo+hi) / 2]!).1 id with ⟨a,e⟩|⟨a,e⟩|⟨a,e⟩<;>rw [e]<;>first|rfl|omega
    rw [this];rfl
 have fin:aJ aU (l,id,(l.length:Int),(m:Int),(m:Int))=if m<l.length/\(l[m]!).1=id then some ((m:Int),true) else some ((m:Int),false):=by
  have e1:decide ((m:Int)<(m:Int))=false:=aL (by omega)
  by_cases hm:m<l.length
  · have e2:decide ((m:Int)<(l.length:Int))=true:=aQ (by omega)
    have body:aU (l,id,(l.length:Int),(m:Int),(m:Int))=some (.done ((m:Int),jL (l[m]!).1 id==0)):=by
     unfold aU sF;simp only [e1,e2,cond_true,cond_false,aD l m hm,kD,aB]
    rw [aM body];rcases eO (l[m]!).1 id with ⟨a,e⟩|⟨a,e⟩|⟨a,e⟩
    · rw [e,if_neg (fun h=>by omega)];rfl
    · rw [e,if_pos ⟨hm,a⟩];rfl
    · rw [e,if_neg (fun h=>by omega)];rfl
  · have e2:decide ((m:Int)<(l.length:Int))=false:=aL (by omega)
    have body:aU (l,id,(l.length:Int),(m:Int),(m:Int))=some (.done ((m:Int),false)):=by
     unfold aU;simp only [e1,e2,cond_false]
    rw [aM body,if_neg (fun h=>hm h.1)]
 rw [run,fin];constructor
 · intro k hk he
   have hkm:k=m:=by
    rcases Nat.lt_trichotomy k m with h|h|h
    · have:=m2 k h;omega
    · exact h
    · have h1:=m3 m (Nat.le_refl _) (by omega)
      have h2:=hs m k h hk;omega
   subst hkm;rw [if_pos ⟨hk,he⟩]
 · intro h
   refine ⟨m,m1,m2,fun i h1 h2=>?_,?_⟩
   · have:=m3 i h1 h2
     have:=h i h2
     omega
   · rw [if_neg (fun k=>h m k.1 k.2)]
theorem aL2:cS=aV:=rfl
theorem aAo:cL=aV:=rfl
theorem VZ:cO=aV:=rfl
theorem uR {α:Type} (l:List α) (k:Nat):l.eraseIdx k=l.take k++l.drop (k+1):=List.eraseIdx_eq_take_drop_succ l k
theorem G7 (l:List sV) (k:Nat) (hk:k<l.length): ∃L:List sV,eQ ((k:Int),((k+1:Nat):Int),l)=some (l.length-1,l.length,L)/\L.take (l.length-1)=l.eraseIdx k:=by
 unfold eQ;have e1:decide ((0:Int)<=(k:Int))=true:=aQ (by omega)
 have e2:decide ((k:Int)<=((k+1:Nat):Int))=true:=aQ (by omega)
 have e3:decide (((k+1:Nat):Int)<=(l.length:Int))=true:=aQ (by omega)
 have e4:decide ((l.length:Int)<=(l.length:Int))=true:=aQ (by omega)
 have e5:((k:Int)==((k+1:Nat):Int))=false:=fO (by omega)
 have e6:decide ((0:Int)<=((k+1:Nat):Int))=true:=aQ (by omega)
 have e7:decide ((k:Int)<=(l.length:Int))=true:=aQ (by omega)
 have dr:(l.drop (k+1)).take (l.length- (k+1))=l.drop (k+1):=List.take_of_length_le (by rw [List.length_drop];exact Nat.le_refl _)
 have dl:(l.drop (k+1)).length=l.length- (k+1):=List.length_drop;simp only [aE,e1,e2,e3,e4,e5,e6,e7,Bool.and_self,cond_true,cond_false,qO l k (by omega),aB,Int.toNat_natCast,Nat.zero_add,dr,dl,Bool.not_false,Bool.and_true]
 by_cases h:k+1=l.length
 · have em:(l.drop (k+1)).isEmpty=true:=by rw [List.isEmpty_iff,List.drop_eq_nil_iff];omega
   have n1:Nat.beq (l.length-k) 0=false:=by
    cases hb:Nat.beq (l.length-k) 0 with
    |false=>rfl
    |true=>have:=Nat.eq_of_beq_eq_true hb;omega
   have n2:Nat.ble (k+(l.length-k)) l.length=true:=Nat.ble_eq_true_of_le (by omega)
   have ll:(hM l k (List.replicate (l.length-k) ((0:Int),(0:Int),(0:Int)))).length=l.length:=by
    unfold hM;simp;omega
   simp only [em,cond_true,n1,cond_false,n2,ll,beq_self_eq_true];refine ⟨_,by rw [show k=l.length-1 by omega],?_⟩
   rw [uR,show l.length-1=k by omega]
   unfold hM;rw [List.append_assoc,List.take_append_of_le_length (by rw [List.length_take];omega),List.take_take,Nat.min_self]
   rw [List.drop_eq_nil_of_le (by omega),List.append_nil]
 · have em:(l.drop (k+1)).isEmpty=false:=by
    cases hb:(l.drop (k+1)).isEmpty with
    |false=>rfl
    |true=>rw [List.isEmpty_iff,List.drop_eq_nil_iff] at hb;omega
   have n1:Nat.ble (k+(l.length- (k+1))) l.length=true:=Nat.ble_eq_true_of_le (by omega)
   have n2:decide ((0:Int)<=((k+(l.length- (k+1)):Nat):Int))=true:=aQ (by omega)
   have n3:decide (((k+(l.length- (k+1)):Nat):Int)<=(l.length:Int))=true:=aQ (by omega)
   have n4:Nat.beq (l.length- (k+(l.length- (k+1)))) 0=false:=by
    cases hb:Nat.beq (l.length- (k+(l.length- (k+1)))) 0 with
    |false=>rfl
    |true=>have:=Nat.eq_of_beq_eq_true hb;omega
   have l1:(hM l k (l.drop (k+1))).length=l.length:=by
    unfold hM;simp;omega
   have n5:Nat.ble (k+(l.length- (k+1))+(l.length- (k+(l.length- (k+1))))) l.length=true:=Nat.ble_eq_true_of_le (by omega)
   have l2:(hM (hM l k (l.drop (k+1))) (k+(l.length- (k+1))) (List.replicate (l.length- (k+(l.length- (k+1)))) ((0:Int),(0:Int),(0:Int)))).length=l.length:=by
    unfold hM;simp;omega
   simp only [em,cond_false,n1,cond_true,n2,n3,Bool.and_self,n4,l1,n5,l2,beq_self_eq_true];refine ⟨_,by rw [show k+(l.length- (k+1))=l.length-1 by omega],?_⟩
   rw [uR]
   have:k+(l.length- (k+1))=l.length-1:=by omega
   unfold hM;rw [List.append_assoc,List.take_append_of_le_length (by simp;omega),List.take_take,Nat.min_self,List.append_assoc]
   rw [show (l.take k++(l.drop (k+1)++l.drop (k+(l.drop (k+1)).length)))=(l.take k++l.drop (k+1))++l.drop (k+(l.drop (k+1)).length) by rw [List.append_assoc]]
   rw [List.take_append_of_le_length (by simp;omega),List.take_of_length_le (by simp;omega)]
theorem TL:kQ=eQ:=rfl
theorem KP {α:Type} [Inhabited α] {l:List α} {k i:Nat}:(l.eraseIdx k)[i]! =if i<k then l[i]! else l[i+1]!:=by
 rw [uR]
 by_cases hk:k<l.length
 · by_cases h:i<k
   · rw [if_pos h,lK (by rw [List.length_take];omega),lL h]
   · rw [if_neg h,mE (by rw [List.length_take];omega),tT,List.length_take]
     congr 1;omega
 · have e1:l.take k=l:=List.take_of_length_le (by omega)
   have e2:l.drop (k+1)=[]:=List.drop_eq_nil_of_le (by omega)
   rw [e1,e2,List.append_nil];split
   · rfl
   · rw [getElem!_neg l i (by omega),getElem!_neg l (i+1) (by omega)]
end Go.Proofs.YtmlghnibpjlchaaGreat
namespace Go.Proofs.YtmlghnibpjlchaaGreat
open Go.Vm Classical
def iL (x:Int×Int):Prop:=0<=x.1/\x.1<=65535/\0<=x.2/\x.2<=65535/\x.1≠x.2
theorem wX (x:Int×Int):uG x=some (decide (iL x)):=by
 obtain ⟨a,b⟩:=x;unfold uG;dsimp only
 by_cases h1:0<=a
 · by_cases h3:0<=b
   · have e1:decide (0<=if b<a then b else a)=true:=aQ (by split<;>omega)
     rw [e1]
     by_cases h2:a<=65535
     · by_cases h4:b<=65535
       · have e2:decide ((if b>a then b else a)<=65535)=true:=aQ (by split<;>omega)
         rw [e2]
         by_cases h5:a=b
         · rw [bZ h5,aL (p:=iL (a,b)) (fun h=>h.2.2.2.2 h5)];rfl
         · rw [eM h5,aQ (p:=iL (a,b)) ⟨h1,h2,h3,h4,h5⟩];rfl
       · have e2:decide ((if b>a then b else a)<=65535)=false:=aL (by split<;>omega)
         rw [e2,aL (p:=iL (a,b)) (fun h=>h4 h.2.2.2.1)];rfl
     · have e2:decide ((if b>a then b else a)<=65535)=false:=aL (by split<;>omega)
       rw [e2,aL (p:=iL (a,b)) (fun h=>h2 h.2.1)];rfl
   · have e1:decide (0<=if b<a then b else a)=false:=aL (by split<;>omega)
     rw [e1,aL (p:=iL (a,b)) (fun h=>h3 h.2.2.1)];rfl
 · have e1:decide (0<=if b<a then b else a)=false:=aL (by split<;>omega)
   rw [e1,aL (p:=iL (a,b)) (fun h=>h1 h.1)];rfl
theorem CZ (x:Int×Int):uJ x=some (decide (iL x)):=by
 obtain ⟨a,b⟩:=x;unfold uJ;dsimp only
 by_cases h1:0<=a
 · by_cases h2:a<=65535
   · by_cases h3:0<=b
     · by_cases h4:b<=65535
       · by_cases h5:a=b
         · rw [bZ h5,aQ h1,aQ h2,aQ h3,aQ h4,aL (p:=iL (a,b)) (fun h=>h.2.2.2.2 h5)];rfl
         · rw [eM h5,aQ h1,aQ h2,aQ h3,aQ h4,aQ (p:=iL (a,b)) ⟨h1,h2,h3,h4,h5⟩];rfl
       · rw [aQ h1,aQ h2,aQ h3,aL h4,aL (p:=iL (a,b)) (fun h=>h4 h.2.2.2.1)];rfl
     · rw [aQ h1,aQ h2,aL h3,aL (p:=iL (a,b)) (fun h=>h3 h.2.2.1)];rfl
   · rw [aQ h1,aL h2,aL (p:=iL (a,b)) (fun h=>h2 h.2.1)];rfl
 · rw [aL h1,aL (p:=iL (a,b)) (fun h=>h1 h.1)];rfl
structure dO (c:aW):Prop where
 len:c.list.length<=200
 n0:0<=c.next_
 n1:c.next_<=1000000
 cv: ∀i,i<c.list.length->iL (c.list[i]!).2
 nr: ∀i,i<c.list.length->0<=(c.list[i]!).1/\(c.list[i]!).1<c.next_
 up: ∀i j,i<j->j<c.list.length->(c.list[i]!).1<(c.list[j]!).1
 nd: ∀i j,i<j->j<c.list.length->(c.list[i]!).2≠(c.list[j]!).2
def BL (l:List sV) (i:Nat):Int:=if i=0 then -1 else (l[i-1]!).1
def TM (c:aW) (i:Nat):Prop:=iL (c.list[i]!).2/\(∀j,j<i->(c.list[j]!).2≠(c.list[i]!).2)/\BL c.list i<(c.list[i]!).1/\(c.list[i]!).1<c.next_
theorem dO.iff {c:aW} (h1:c.list.length<=200) (h2:0<=c.next_) (h3:c.next_<=1000000):dO c↔ ∀i,i<c.list.length->TM c i:=by
 constructor
 · intro ok i hi
   refine ⟨ok.cv i hi,fun j hj=>ok.nd j i hj hi,?_,(ok.nr i hi).2⟩
   unfold BL;split
   · have:=(ok.nr i hi).1;omega
   · exact ok.up (i-1) i (by omega) hi
 · intro h
   have low: ∀i,i<c.list.length->0<=(c.list[i]!).1:=by
    intro i
    induction i with
    |zero=>
     intro hi
     have:=(h 0 hi).2.2.1
     unfold BL at this;rw [if_pos rfl] at this;omega
    |succ i ih=>
     intro hi;have h1:=(h (i+1) hi).2.2.1;unfold BL at h1;rw [if_neg (by omega),show i+1-1=i by omega] at h1
     have:=ih (by omega)
     omega
   have up: ∀i j,i<j->j<c.list.length->(c.list[i]!).1<(c.list[j]!).1:=by
    intro i j
    induction j with
    |zero=>intro h;omega
    |succ j ih=>
     intro hij hj;have h1:=(h (j+1) hj).2.2.1;unfold BL at h1;rw [if_neg (by omega),show j+1-1=j by omega] at h1
     by_cases e:i=j
     · subst e;exact h1
     · have:=ih (by omega) (by omega)
       omega
   exact ⟨h1,h2,h3,fun i hi=>(h i hi).1,fun i hi=>⟨low i hi,(h i hi).2.2.2⟩,up,fun i j hij hj=>(h j hj).2.1 i hij⟩
theorem KQ (l:List sV) (k:Nat) (a b:Int):oR [a,b] ((l.take k).map fun x=>[x.2.1,x.2.2])=true:=by
 unfold oR;rw [List.all_eq_true];intro x hx;obtain ⟨y,hy,rfl⟩:=List.mem_map.1 hx;rfl
theorem KR (l:List sV) (k:Nat) (x:Int×Int):HF ((l.take k).map fun y=>[y.2.1,y.2.2]) [x.1,x.2]=decide (∃j,j<k/\j<l.length/\(l[j]!).2=x):=by
 unfold HF;rw [Bool.eq_iff_iff,List.any_eq_true,decide_eq_true_iff];constructor
 · rintro ⟨y,hy,he⟩
   obtain ⟨z,hz,rfl⟩:=List.mem_map.1 hy;obtain ⟨j,h1,h2,rfl⟩:=cB.1 hz
   have:[x.1,x.2]=[(l[j]!).2.1,(l[j]!).2.2]:=by simpa using he
   injection this with e1 e2;injection e2 with e2 _;exact ⟨j,h1,h2,Prod.ext e1.symm e2.symm⟩
 · rintro ⟨j,h1,h2,h3⟩
   refine ⟨[(l[j]!).2.1,(l[j]!).2.2],List.mem_map.2 ⟨l[j]!,cB.2 ⟨j,h1,h2,rfl⟩,rfl⟩,?_⟩;rw [h3];simp
theorem rN (c:aW):qD c=some (if dO c then 0 else 8):=by
 unfold qD;simp only [aE]
 by_cases h1:200<c.list.length
 · rw [aQ (show (200:Int)<(c.list.length:Int) by omega),if_neg (fun h=>by have:=h.len;omega)];rfl
 rw [aL (show¬(200:Int)<(c.list.length:Int) by omega)]
 by_cases h2:c.next_<0
 · rw [aQ h2,if_neg (fun h=>by have:=h.n0;omega)];rfl
 rw [aL h2]
 by_cases h3:1000000<c.next_
 · rw [aQ h3,if_neg (fun h=>by have:=h.n1;omega)];rfl
 rw [aL h3];simp only [cond_false];have key:=cZ (body:=qV) (fun i=>(BL c.list i,c.list,(c.list.length:Int),(i:Int),c.next_,c.list,(c.list.take i).map fun x=>[x.2.1,x.2.2])) c.list.length (fun i=> ¬TM c i) (r:=8) (e:=0) (fun i hi=>by
  have e1:decide ((i:Int)<(c.list.length:Int))=true:=aQ (by omega)
  have has:PA ((c.list.take i).map fun x=>[x.2.1,x.2.2]) [(c.list[i]!).2.1,(c.list[i]!).2.2]=some (decide (∃j,j<i/\j<c.list.length/\(c.list[j]!).2=(c.list[i]!).2)):=by
   unfold PA;rw [KQ,KR];rfl
  have nx:(c.list.take (i+1)).map (fun x=>[x.2.1,x.2.2])=((c.list.take i).map fun x=>[x.2.1,x.2.2])++[[(c.list[i]!).2.1,(c.list[i]!).2.2]]:=by
   rw [kE hi,List.map_append];rfl
  have ln:BL c.list (i+1)=(c.list[i]!).1:=by unfold BL;rw [if_neg (by omega),show i+1-1=i by omega]
  unfold qV;simp only [e1,cond_true,aD c.list i hi,aB,wX,has,nx,ln,bF (show i<1000000000 by omega)]
  unfold TM
  by_cases b1:iL (c.list[i]!).2
  case neg=>
   rw [aL b1];exact ⟨fun _=>rfl,fun h=>absurd (Classical.not_not.1 h).1 b1⟩
  rw [aQ b1]
  by_cases b2: ∃j,j<i/\j<c.list.length/\(c.list[j]!).2=(c.list[i]!).2
  · rw [aQ b2]
    refine ⟨fun _=>rfl,fun h=>?_⟩
    obtain ⟨j,j1,j2,j3⟩:=b2;exact absurd j3 ((Classical.not_not.1 h).2.1 j j1)
  rw [aL b2];have b2': ∀j,j<i->(c.list[j]!).2≠(c.list[i]!).2:=fun j hj he=>b2 ⟨j,hj,by omega,he⟩
  by_cases b3:(c.list[i]!).1<=BL c.list i
  · rw [aQ b3]
    exact ⟨fun _=>rfl,fun h=>absurd (Classical.not_not.1 h).2.2.1 (by omega)⟩
  rw [aL b3]
  by_cases b4:c.next_<=(c.list[i]!).1
  · rw [aQ b4]
    exact ⟨fun _=>rfl,fun h=>absurd (Classical.not_not.1 h).2.2.2 (by omega)⟩
  rw [aL b4];have ins:PB ((c.list.take i).map fun x=>[x.2.1,x.2.2]) [(c.list[i]!).2.1,(c.list[i]!).2.2]=some (((c.list.take i).map fun x=>[x.2.1,x.2.2])++[[(c.list[i]!).2.1,(c.list[i]!).2.2]]):=by
   unfold PB SA;rw [KQ,KR,aL b2];rfl
  rw [ins];exact ⟨fun h=>absurd ⟨b1,b2',by omega,by omega⟩ h,fun _=>rfl⟩) (by
  unfold qV
  have:decide ((c.list.length:Int)<(c.list.length:Int))=false:=aL (by omega)
  simp only [this,cond_false])
 have h0:BL c.list 0= -1:=rfl;rw [h0] at key
 by_cases ok:dO c
 · rw [if_pos ok]
   exact key.2 fun i hi=>Classical.not_not.2 ((dO.iff (by omega) (by omega) (by omega)).1 ok i hi)
 · rw [if_neg ok]
   rw [dO.iff (by omega) (by omega) (by omega)] at ok
   obtain ⟨i,h⟩:=Classical.not_forall.1 ok;obtain ⟨hi,hx⟩:=Classical.not_imp.1 h;exact key.1 ⟨i,hi,hx⟩
theorem Q6 (c:aW) (i:Nat) (hi:i<c.list.length) (hl:c.list.length<=200):
 ((∃j,j<i/\(c.list[j]!).2=(c.list[i]!).2)->aJ fF ((i:Int),0,c.next_,c.list,c.list[i]!)=some (.done 8))/\
 ((∀j,j<i-> ¬(c.list[j]!).2=(c.list[i]!).2)->aJ fF ((i:Int),0,c.next_,c.list,c.list[i]!)=some (.next (((i+1:Nat):Int),c.next_,c.list))):=by
 refine cZ (body:=fF) (fun j=>((i:Int),(j:Int),c.next_,c.list,c.list[i]!)) i (fun j=>(c.list[j]!).2=(c.list[i]!).2) (r:= .done 8) (e:= .next (((i+1:Nat):Int),c.next_,c.list)) (fun j hj=>?_) ?_
 · have e1:decide ((j:Int)<(i:Int))=true:=aQ (by omega)
   unfold fF;simp only [e1,cond_true,aD c.list j (by omega),aB,bF (show j<1000000000 by omega)]
   generalize c.list[j]! =x;generalize c.list[i]! =y;constructor
   · intro h;rw [fJ (congrArg Prod.fst h),fJ (congrArg Prod.snd h)];rfl
   · intro h
     by_cases h1:x.2.1=y.2.1
     · rw [fJ h1,fO (fun h2=>h (Prod.ext h1 h2))];rfl
     · rw [fO h1];rfl
 · unfold fF
   have:decide ((i:Int)<(i:Int))=false:=aL (by omega)
   simp only [this,cond_false,bF (show i<1000000000 by omega)]
theorem BM (c:aW):sH c=some (if dO c then 0 else 8):=by
 unfold sH;simp only [aE]
 by_cases h1:200<c.list.length
 · rw [aQ (show (200:Int)<(c.list.length:Int) by omega),if_neg (fun h=>by have:=h.len;omega)];rfl
 rw [aL (show¬(200:Int)<(c.list.length:Int) by omega)]
 by_cases h2:c.next_<0
 · rw [aQ h2,if_neg (fun h=>by have:=h.n0;omega)];rfl
 rw [aL h2]
 by_cases h3:1000000<c.next_
 · rw [aQ h3,if_neg (fun h=>by have:=h.n1;omega)];rfl
 rw [aL h3];simp only [cond_false];have key:=cZ (body:=pC) (fun i=>((i:Int),c.next_,c.list)) c.list.length (fun i=> ¬(iL (c.list[i]!).2/\0<=(c.list[i]!).1/\(c.list[i]!).1<c.next_/\(0<i->(c.list[i-1]!).1<(c.list[i]!).1)/\ ∀j,j<i-> ¬(c.list[j]!).2=(c.list[i]!).2)) (r:=8) (e:=0) (fun i hi=>by
  have e1:decide ((i:Int)<(c.list.length:Int))=true:=aQ (by omega)
  have l1:=Q6 c i hi (by omega)
  unfold pC;simp only [aE,e1,cond_true,aD c.list i hi,aB,CZ]
  by_cases b1:iL (c.list[i]!).2
  case neg=>
   rw [aL b1];exact ⟨fun _=>rfl,fun h=>absurd (Classical.not_not.1 h).1 b1⟩
  rw [aQ b1]
  by_cases b2:(c.list[i]!).1<0
  · rw [aQ b2]
    exact ⟨fun _=>rfl,fun h=>absurd (Classical.not_not.1 h).2.1 (by omega)⟩
  rw [aL b2]
  by_cases b3:c.next_<=(c.list[i]!).1
  · rw [aQ b3]
    exact ⟨fun _=>rfl,fun h=>absurd (Classical.not_not.1 h).2.2.1 (by omega)⟩
  rw [aL b3];simp only [Bool.not_true,cond_false];have go:(0<i->(c.list[i-1]!).1<(c.list[i]!).1)->(¬(iL (c.list[i]!).2/\0<=(c.list[i]!).1/\(c.list[i]!).1<c.next_/\(0<i->(c.list[i-1]!).1<(c.list[i]!).1)/\ ∀j,j<i-> ¬(c.list[j]!).2=(c.list[i]!).2)->aJ fF ((i:Int),0,c.next_,c.list,c.list[i]!)=some (.done 8))/\
   (¬¬(iL (c.list[i]!).2/\0<=(c.list[i]!).1/\(c.list[i]!).1<c.next_/\(0<i->(c.list[i-1]!).1<(c.list[i]!).1)/\ ∀j,j<i-> ¬(c.list[j]!).2=(c.list[i]!).2)->aJ fF ((i:Int),0,c.next_,c.list,c.list[i]!)=some (.next (((i+1:Nat):Int),c.next_,c.list))):=by
   intro hp;constructor
   · intro h
     refine l1.1 (Classical.byContradiction fun hx=>h ⟨b1,by omega,by omega,hp,fun j hj he=>hx ⟨j,hj,he⟩⟩)
   · intro h
     exact l1.2 (Classical.not_not.1 h).2.2.2.2
  by_cases b4:0<i
  · have f1:decide ((0:Int)<(i:Int))=true:=aQ (by omega)
    simp only [f1,cond_true,zN (show i<1000000000 by omega) b4,aD c.list (i-1) (by omega),aB]
    by_cases b5:(c.list[i]!).1<=(c.list[i-1]!).1
    · rw [aQ b5]
      exact ⟨fun _=>rfl,fun h=>absurd ((Classical.not_not.1 h).2.2.2.1 b4) (by omega)⟩
    · rw [aL b5]
      exact go fun _=>by omega
  · have f1:decide ((0:Int)<(i:Int))=false:=aL (by omega)
    rw [f1];exact go fun h=>absurd h b4) (by
  unfold pC
  have:decide ((c.list.length:Int)<(c.list.length:Int))=false:=aL (by omega)
  simp only [aE,this,cond_false])
 have same:dO c↔ ∀i,i<c.list.length->(iL (c.list[i]!).2/\0<=(c.list[i]!).1/\(c.list[i]!).1<c.next_/\(0<i->(c.list[i-1]!).1<(c.list[i]!).1)/\ ∀j,j<i-> ¬(c.list[j]!).2=(c.list[i]!).2):=by
  constructor
  · intro ok i hi
    exact ⟨ok.cv i hi,(ok.nr i hi).1,(ok.nr i hi).2,fun h=>ok.up (i-1) i (by omega) hi,fun j hj=>ok.nd j i hj hi⟩
  · intro h
    rw [dO.iff (by omega) (by omega) (by omega)]
    intro i hi;obtain ⟨a1,a2,a3,a4,a5⟩:=h i hi;refine ⟨a1,a5,?_,a3⟩;unfold BL;split
    · omega
    · exact a4 (by omega)
 by_cases ok:dO c
 · rw [if_pos ok]
   exact key.2 fun i hi=>Classical.not_not.2 (same.1 ok i hi)
 · rw [if_neg ok]
   rw [same] at ok;obtain ⟨i,h⟩:=Classical.not_forall.1 ok;obtain ⟨hi,hx⟩:=Classical.not_imp.1 h;exact key.1 ⟨i,hi,hx⟩
end Go.Proofs.YtmlghnibpjlchaaGreat
namespace Go.Proofs.YtmlghnibpjlchaaGreat
open Go.Vm Classical
def zS (l:List sV) (x:Int×Int):Prop:= ∃i,i<l.length/\(l[i]!).2=x
theorem Q7 (l:List sV) (x:Int×Int) (hl:l.length<=1000000):bY l x=some (decide (zS l x)):=by
 unfold bY eW;have key:=iZ (body:=cU) (fun i=>(l,x.1,x.2,(l.length:Int),(i:Int))) l.length (fun i=>(l[i]!).2=x) (fun i=>(i:Int)) (e:= -1) (fun i hi=>by
  have e1:decide ((i:Int)<(l.length:Int))=true:=aQ (by omega)
  unfold cU DQ;simp only [e1,cond_true,aD l i hi,aB,bF (show i<1000000000 by omega)]
  generalize l[i]! =y;constructor
  · intro h;rw [fJ (congrArg Prod.fst h),fJ (congrArg Prod.snd h)];rfl
  · intro h
    by_cases h1:y.2.1=x.1
    · rw [fJ h1,fO (fun h2=>h (Prod.ext h1 h2))];rfl
    · rw [fO h1];rfl) (by
  unfold cU
  have:decide ((l.length:Int)<(l.length:Int))=false:=aL (by omega)
  simp only [this,cond_false])
 rw [aE]
 by_cases hx:zS l x
 · obtain ⟨k,h1,h2,h3⟩:=J0 hx
   have:=key.1 k h1 h2 h3
   rw [show ((0:Nat):Int)=0 from rfl] at this;rw [this,aQ hx];simp only [aB,aQ (show (0:Int)<=(k:Int) by omega)]
 · have:=key.2 fun i hi he=>hx ⟨i,hi,he⟩
   rw [show ((0:Nat):Int)=0 from rfl] at this;rw [this,aL hx];rfl
theorem GI:dL=bY:=rfl
theorem zT (c:aW) (x:Int×Int) (hl:c.list.length<=1000000):tQ c x=some (decide (zS c.list x)):=by
 unfold tQ;have key:=cZ (body:=tN) (fun i=>((i:Int),c.next_,c.list,x)) c.list.length (fun i=>(c.list[i]!).2=x) (r:=true) (e:=false) (fun i hi=>by
  have e1:decide ((i:Int)<(c.list.length:Int))=true:=aQ (by omega)
  unfold tN;simp only [aE,e1,cond_true,aD c.list i hi,aB,bF (show i<1000000000 by omega)]
  generalize c.list[i]! =y;constructor
  · intro h;rw [fJ (congrArg Prod.fst h),fJ (congrArg Prod.snd h)];rfl
  · intro h
    by_cases h1:y.2.1=x.1
    · rw [fJ h1,fO (fun h2=>h (Prod.ext h1 h2))];rfl
    · rw [fO h1];rfl) (by
  unfold tN
  have:decide ((c.list.length:Int)<(c.list.length:Int))=false:=aL (by omega)
  simp only [aE,this,cond_false])
 by_cases hx:zS c.list x
 · rw [aQ hx];exact key.1 hx
 · rw [aL hx];exact key.2 fun i hi he=>hx ⟨i,hi,he⟩
def rO (c:aW) (x:Int×Int):aW:=⟨c.next_+1,c.list++[(c.next_,x)]⟩
def KS (c:aW):Prop:=c.list.length=200\/c.next_=1000000
theorem Q8 {c:aW} (ok:dO c) {x:Int×Int} (hx:iL x):xT c x=some (if zS c.list x then (⟨0,[]⟩,0,14) else if KS c then (⟨0,[]⟩,0,18) else (rO c x,c.next_,0)):=by
 have:=ok.len;have:=ok.n0;have:=ok.n1
 unfold xT;rw [rN,if_pos ok,wX,aQ hx,Q7 _ _ (by omega)]
 simp only [aB,show ((0:Int) !=0)=false from rfl,cond_false,Bool.not_true,aE]
 by_cases h1:zS c.list x
 · rw [aQ h1,if_pos h1];rfl
 rw [aL h1,if_neg h1];unfold KS
 by_cases h2:c.list.length=200
 · rw [fJ (show (c.list.length:Int)=200 by omega),if_pos (.inl h2)];rfl
 rw [fO (show¬(c.list.length:Int)=200 by omega)]
 by_cases h3:c.next_=1000000
 · rw [fJ h3,if_pos (.inr h3)];rfl
 rw [fO h3,if_neg (by omega)]
 have e:aA .i64 (c.next_+1)=c.next_+1:=by rw [wi];omega
 simp only [cond_false,bC (show c.list.length<=1048576 by omega),aB,fG (show c.list.length+[(c.next_,x)].length<=1048576 by simp;omega),e]
 rfl
theorem N7 {c:aW} (ok:dO c) {x:Int×Int} (hx:iL x):B7 c x=some (if zS c.list x then (⟨0,[]⟩,0,14) else if KS c then (⟨0,[]⟩,0,18) else (rO c x,c.next_,0)):=by
 have:=ok.len;have:=ok.n0;have:=ok.n1
 unfold B7 nQ;rw [BM,if_pos ok,CZ,aQ hx,zT _ _ (by omega)]
 simp only [aB,show ((0:Int) !=0)=false from rfl,cond_false,Bool.not_true,aE]
 by_cases h1:zS c.list x
 · rw [aQ h1,if_pos h1];rfl
 rw [aL h1,if_neg h1];unfold KS
 by_cases h2:c.list.length=200
 · rw [fJ (show (c.list.length:Int)=200 by omega),if_pos (.inl h2)];rfl
 rw [fO (show¬(c.list.length:Int)=200 by omega)]
 by_cases h3:c.next_=1000000
 · rw [fJ h3,if_pos (.inr h3)];rfl
 rw [fO h3,if_neg (by omega)]
 have e:aA .i64 (c.next_+1)=c.next_+1:=by rw [wi];omega
 simp only [cond_false,bC (show c.list.length<=1048576 by omega),aB,fG (show c.list.length+[(c.next_,x)].length<=1048576 by simp;omega),e]
 rfl
theorem aGt {c:aW} (ok:dO c) {x:Int×Int} (hx: ¬iL x):xT c x=some (⟨0,[]⟩,0,8):=by
 unfold xT;rw [rN,if_pos ok,wX,aL hx];rfl
theorem uS {c:aW} {x:Int×Int} {i:Nat}:(rO c x).list[i]! =if i<c.list.length then c.list[i]! else if i=c.list.length then (c.next_,x) else default:=by
 show (c.list++[(c.next_,x)])[i]! =_
 by_cases h:i<c.list.length
 · rw [if_pos h,lK h]
 · rw [if_neg h,mE (by omega)]
   by_cases e:i=c.list.length
   · rw [if_pos e,e,Nat.sub_self];rfl
   · rw [if_neg e,getElem!_neg _ _ (by simp;omega)]
theorem CE {c:aW} {x:Int×Int}:(rO c x).list.length=c.list.length+1:=by
 show (c.list++[(c.next_,x)]).length=_;simp
theorem TN {c:aW} (ok:dO c) {x:Int×Int} (hx:iL x) (hn: ¬zS c.list x) (hf: ¬KS c):dO (rO c x):=by
 have h1:=ok.len;have h2:=ok.n0;have h3:=ok.n1;unfold KS at hf;refine ⟨by rw [CE];omega,by show 0<=c.next_+1;omega,by show c.next_+1<=1000000;omega,?_,?_,?_,?_⟩
 · intro i hi
   rw [CE] at hi;rw [uS]
   by_cases h:i<c.list.length
   · rw [if_pos h];exact ok.cv i h
   · rw [if_neg h,if_pos (by omega)];exact hx
 · intro i hi
   rw [CE] at hi;rw [uS];show 0<=_/\_<c.next_+1
   by_cases h:i<c.list.length
   · rw [if_pos h];have:=ok.nr i h;omega
   · rw [if_neg h,if_pos (by omega)];dsimp only;omega
 · intro i j hij hj
   rw [CE] at hj;rw [uS,uS,if_pos (by omega)]
   by_cases h:j<c.list.length
   · rw [if_pos h];exact ok.up i j hij h
   · rw [if_neg h,if_pos (by omega)]
     exact (ok.nr i (by omega)).2
 · intro i j hij hj
   rw [CE] at hj;rw [uS,uS,if_pos (by omega)]
   by_cases h:j<c.list.length
   · rw [if_pos h];exact ok.nd i j hij h
   · rw [if_neg h,if_pos (by omega)]
     exact fun he=>hn ⟨i,by omega,he⟩
def mQ (c:aW) (k:Nat):aW:=⟨c.next_,c.list.eraseIdx k⟩
theorem V0 {α:Type} {l:List α} {k:Nat} (hk:k<l.length):(l.eraseIdx k).length=l.length-1:=by
 rw [List.length_eraseIdx,if_pos hk]
theorem KT {c:aW} (ok:dO c) {k:Nat} (hk:k<c.list.length):dO (mQ c k):=by
 have h1:=ok.len;have len:(mQ c k).list.length=c.list.length-1:=V0 hk;have cell: ∀i,∃j,i<=j/\j<=i+1/\(i<c.list.length-1->j<c.list.length)/\(mQ c k).list[i]! =c.list[j]!/\(i<k->j=i)/\(k<=i->j=i+1):=by
  intro i
  by_cases h:i<k
  · exact ⟨i,by omega,by omega,by omega,by show (c.list.eraseIdx k)[i]! =_;rw [KP,if_pos h],fun _=>rfl,by omega⟩
  · exact ⟨i+1,by omega,by omega,by omega,by show (c.list.eraseIdx k)[i]! =_;rw [KP,if_neg h],by omega,fun _=>rfl⟩
 refine ⟨by omega,ok.n0,ok.n1,?_,?_,?_,?_⟩
 · intro i hi
   obtain ⟨j,j1,j2,j3,j4,j5,j6⟩:=cell i;rw [j4];exact ok.cv j (j3 (by omega))
 · intro i hi
   obtain ⟨j,j1,j2,j3,j4,j5,j6⟩:=cell i;rw [j4];exact ok.nr j (j3 (by omega))
 · intro i i' hij hi
   obtain ⟨j,j1,j2,j3,j4,j5,j6⟩:=cell i;obtain ⟨m,m1,m2,m3,m4,m5,m6⟩:=cell i';rw [j4,m4];exact ok.up j m (by omega) (m3 (by omega))
 · intro i i' hij hi
   obtain ⟨j,j1,j2,j3,j4,j5,j6⟩:=cell i;obtain ⟨m,m1,m2,m3,m4,m5,m6⟩:=cell i';rw [j4,m4];exact ok.nd j m (by omega) (m3 (by omega))
theorem KU {c:aW} (ok:dO c) {k:Nat} (hk:k<c.list.length) {n:Int} (hn:(c.list[k]!).1=n):vS c n=some (mQ c k,(c.list[k]!).2,0):=by
 have h1:=ok.len;unfold vS F8;obtain ⟨L,d1,d2⟩:=G7 c.list k hk;rw [rN,if_pos ok,(FC c.list n (by omega) ok.up).1 k hk hn]
 simp only [aB,show ((0:Int) !=0)=false from rfl,cond_false,Bool.not_true,bC (show c.list.length<=1048576 by omega),bF (show k<1000000000 by omega),d1,aD c.list k hk,d2]
 rfl
theorem N8 {l:List sV} {k:Nat} (hk:k<l.length) (hs: ∀i j,i<j->j<l.length->(l[i]!).1<(l[j]!).1) {n:Int} (hn:(l[k]!).1=n):l.filter (fun x=>x.1 !=n)=l.eraseIdx k:=by
 rw [uR];have e:l.filter (fun x=>x.1 !=n)=(l.take k++l[k]!::l.drop (k+1)).filter (fun x=>x.1 !=n):=congrArg _ (Z7 hk)
 rw [e,List.filter_append,List.filter_cons_of_neg (by rw [hn];simp)]
 congr 1
 · rw [List.filter_eq_self]
   intro x hx;obtain ⟨i,h1,h2,rfl⟩:=cB.1 hx
   have:=hs i k h1 hk
   exact eM (by omega)
 · rw [List.filter_eq_self]
   intro x hx;obtain ⟨i,h1,rfl⟩:=aY.1 hx;rw [List.length_drop] at h1;rw [tT]
   have:=hs k (k+1+i) (by omega) (by omega)
   exact eM (by omega)
theorem GJ {c:aW} (ok:dO c) {k:Nat} (hk:k<c.list.length) {n:Int} (hn:(c.list[k]!).1=n):rD c n=some (mQ c k):=by
 have h1:=ok.len;unfold rD;have key:=eE (body:=kA) (fun i=>(n,(i:Int),c.next_,c.list,0,c.next_,(c.list.take i).filter (fun x=>x.1 !=n))) c.list.length (fun i hi=>by
  have e1:decide ((i:Int)<(c.list.length:Int))=true:=aQ (by omega)
  have nx:(c.list.take (i+1)).filter (fun x=>x.1 !=n)=(c.list.take i).filter (fun x=>x.1 !=n)++(if (c.list[i]!).1 !=n then [c.list[i]!] else []):=by
   rw [kE hi,List.filter_append,List.filter_cons,List.filter_nil]
  have fl:((c.list.take i).filter (fun x=>x.1 !=n)).length<=200:=Nat.le_trans (List.length_filter_le _ _) (by rw [List.length_take];omega)
  unfold kA;simp only [aE,e1,cond_true,aD c.list i hi,aB,bF (show i<1000000000 by omega),nx]
  by_cases h:(c.list[i]!).1=n
  · rw [bZ h];simp
  · rw [eM h]
    simp only [cond_true,if_true,fG (show ((c.list.take i).filter (fun x=>x.1 !=n)).length+[c.list[i]!].length<=1048576 by simp only [List.length_cons,List.length_nil];omega),aB])
 have fin:kA (n,(c.list.length:Int),c.next_,c.list,0,c.next_,(c.list.take c.list.length).filter (fun x=>x.1 !=n))=some (.done (mQ c k)):=by
  unfold kA
  have:decide ((c.list.length:Int)<(c.list.length:Int))=false:=aL (by omega)
  simp only [aE,this,cond_false,List.take_length];rw [N8 hk ok.up hn];rfl
 refine Eq.trans ?_ (aM fin);exact key
end Go.Proofs.YtmlghnibpjlchaaGreat
namespace Go.Proofs.YtmlghnibpjlchaaGreat
open Go.Vm Classical
def sN (l:List Pt) (id:Int):Prop:= ∃k,k<l.length/\(l[k]!).1=id
noncomputable def gB (l:List Pt) (id:Int):Pt:=if h:sN l id then l[h.choose]! else (-1,0,0)
theorem HW {l:List Pt} (hs:kX l) {k:Nat} (hk:k<l.length) {id:Int} (h:(l[k]!).1=id):gB l id=l[k]!:=by
 have hp:sN l id:=⟨k,hk,h⟩;unfold gB;rw [dif_pos hp]
 have:=hp.choose_spec
 rw [J7 hs this.1 hk (by rw [this.2,h])]
theorem fU {l:List Pt} (ok:eV l) {id:Int} (h:sN l id):fZ (gB l id)/\(gB l id).1=id:=by
 obtain ⟨k,hk,he⟩:=h;rw [HW ok.2.2 hk he];exact ⟨ok.2.1 _ (bM hk),he⟩
theorem GK {l:List Pt} {id:Int} (h: ¬sN l id):gB l id=(-1,0,0):=by unfold gB;rw [dif_neg h]
theorem mH {l:List Pt} (ok:eV l) (id:Int):iW ⟨l⟩ id=some (gB l id):=by
 have h1:=ok.1;have bs:=FC l id (by omega) (fun i j=>qN ok.2.2)
 unfold iW;dsimp only;rw [aAo]
 by_cases h:sN l id
 · obtain ⟨k,hk,he⟩:=h
   rw [bs.1 k hk he];simp only [aB,Bool.not_true,cond_false,aD l k hk,HW ok.2.2 hk he]
 · obtain ⟨m,m1,m2,m3,e⟩:=bs.2 (fun k hk he=>h ⟨k,hk,he⟩)
   rw [e,GK h];rfl
theorem DY {l:List Pt} (ok:eV l) {id:Int} (h:sN l id): ∃k,k<l.length/\iE ⟨l⟩ id=some (k:Int)/\l[k]! =gB l id:=by
 have h1:=ok.1;obtain ⟨k,hk,he⟩:=h;exact ⟨k,hk,XH ok.2.2 (by omega) hk he,(HW ok.2.2 hk he).symm⟩
theorem TO {l:List Pt} (ok:eV l) {id:Int} (h: ¬sN l id):iE ⟨l⟩ id=some (-1):=by
 have h1:=ok.1;exact aGr (by omega) fun k hk he=>h ⟨k,hk,he⟩
def lM (l:List Pt) (x:Int×Int):Prop:=sN l x.1/\sN l x.2
noncomputable def bI (l:List Pt) (x t:Int×Int):(Int×Int)×Bool:=oI (gB l x.2) (gB l x.1) t
theorem wY {l:List Pt} (ok:eV l) {x t:Int×Int} (hx:iL x) (ht:bO t) (h64:nT t):
 qH ⟨l⟩ x t=some (if lM l x then ((bI l x t).1,(bI l x t).2,0) else ((0,0),false,8)):=by
 unfold qH;rw [mH ok,mH ok];simp only [aB,HG h64];have bad: ¬fZ (-1,0,0):=by unfold fZ;dsimp only;omega
 by_cases h1:sN l x.1
 · by_cases h2:sN l x.2
   · obtain ⟨p1,p2⟩:=fU ok h1
     obtain ⟨q1,q2⟩:=fU ok h2;rw [if_pos ⟨q1,p1,ht,by rw [p2,q2];exact fun h=>hx.2.2.2.2 h.symm⟩,if_pos ⟨h1,h2⟩]
     rfl
   · rw [GK h2,if_neg (fun h=>bad h.1),if_neg (fun h=>bad h.1),if_neg (fun h=>h2 h.2)]
 · rw [GK h1,if_neg (fun h=>bad h.2.1),if_neg (fun h=>bad h.2.1),if_neg (fun h=>h1 h.1)]
theorem wZ {l:List Pt} (ok:eV l) {x t:Int×Int} (h64:nT t) (hb:lM l x):qL ⟨l⟩ x t=some (bI l x t):=by
 obtain ⟨h1,h2⟩:=hb;obtain ⟨j,j1,j2,j3⟩:=DY ok h1;obtain ⟨k,k1,k2,k3⟩:=DY ok h2;unfold qL;simp only [j2,k2,aB,aD l j j1,aD l k k1,j3,k3,TD (fU ok h2).1 (fU ok h1).1 h64];rfl
theorem aAp (c:aW) {l:List Pt} (ok:eV l) (hl:c.list.length<=200):vV c ⟨l⟩=some (decide (∀i,i<c.list.length->lM l (c.list[i]!).2)):=by
 unfold vV;have key:=cZ (body:=pD) (fun i=>((i:Int),c.next_,c.list,l)) c.list.length (fun i=> ¬lM l (c.list[i]!).2) (r:=false) (e:=true) (fun i hi=>by
  have e1:decide ((i:Int)<(c.list.length:Int))=true:=aQ (by omega)
  unfold pD lM;simp only [aE,e1,cond_true,aD c.list i hi,aB,bF (show i<1000000000 by omega)]
  by_cases h1:sN l (c.list[i]!).2.1
  · obtain ⟨k,k1,k2,_⟩:=DY ok h1
    rw [k2];simp only [aB,aL (show¬(k:Int)<0 by omega),cond_false]
    by_cases h2:sN l (c.list[i]!).2.2
    · obtain ⟨j,j1,j2,_⟩:=DY ok h2
      rw [j2];simp only [aB,aL (show¬(j:Int)<0 by omega),cond_false]
      exact ⟨fun h=>absurd ⟨h1,h2⟩ h,fun _=>trivial⟩
    · rw [TO ok h2]
      exact ⟨fun _=>rfl,fun h=>absurd (Classical.not_not.1 h).2 h2⟩
  · rw [TO ok h1]
    exact ⟨fun _=>rfl,fun h=>absurd (Classical.not_not.1 h).1 h1⟩) (by
  unfold pD
  have:decide ((c.list.length:Int)<(c.list.length:Int))=false:=aL (by omega)
  simp only [aE,this,cond_false])
 by_cases hx: ∀i,i<c.list.length->lM l (c.list[i]!).2
 · rw [aQ hx];exact key.2 fun i hi=>Classical.not_not.2 (hx i hi)
 · rw [aL hx]
   obtain ⟨i,h⟩:=Classical.not_forall.1 hx;obtain ⟨hi,hx⟩:=Classical.not_imp.1 h;exact key.1 ⟨i,hi,hx⟩
def aX (l:List Pt) (t:Int×Int) (H:List Ev):List sV->List sV->Prop
 | [],ds=>ds=[]
 |x::cs,ds=>((bI l x.2 t).2=true-> ∃d ds',ds=d::ds'/\d.1=x.1/\((bI l x.2 t).1.1,(bI l x.2 t).1.2,x.1,d.2)∈H/\aX l t H cs ds')/\((bI l x.2 t).2=false->aX l t H cs ds)
structure bA (c:aI):Prop where
 nowv:bO c.now
 now64:nT c.now
 fld:eV c.field.points
 crt:dO c.certs
 agd:dZ c.agenda
 w200:c.agenda.where_.length=200
 hd:c.agenda.heap.length=c.due.length
 known: ∀i,i<c.certs.list.length->lM c.field.points (c.certs.list[i]!).2
 fol:aX c.field.points c.now c.agenda.heap c.certs.list c.due
structure uT (c:aI):Prop where
 now64:nT c.now
 ag:BI c.agenda
 du:c.due.length<=1000000
theorem aG4 {a:aG} (ok:dZ a) (w2:a.where_.length=200) (t:Int×Int) (n:Int) (h:Int×Int):
 (0<=h.1/\h.1<200/\0<=a.where_[h.1.toNat]!/\a.heap[(a.where_[h.1.toNat]!).toNat]! =(t.1,t.2,n,h))↔((t.1,t.2,n,h):Ev)∈a.heap:=by
 have wl:=ok.wl;have hu:=ok.so.ul;constructor
 · rintro ⟨h1,h2,h3,h4⟩
   cases hb:a.slots.used[h.1.toNat]! with
   |false=>
    have:=ok.un h.1.toNat (by omega) hb
    omega
   |true=>
    have:=ok.fwd h.1.toNat (by omega) hb
    rw [<- h4];exact bM (by omega)
 · intro hm
   obtain ⟨w,hw,he⟩:=aY.1 hm;obtain ⟨b1,b2,b3,b4,b5⟩:=ok.back hw;have e:Ev.ix a.heap[w]! =h.1:=by rw [he]
   have e2:Ev.n a.heap[w]! =h.1.toNat:=by rw [he]
   rw [e] at b1 b2;rw [e2] at b5;refine ⟨b1,by omega,by omega,?_⟩
   rw [b5,Int.toNat_natCast,he]
theorem aAq {a:aG} (ok:dZ a) {i:Nat} (hi:i<a.slots.uses.length) (h:0<=a.where_[i]!):a.where_[i]!<a.heap.length:=by
 cases hb:a.slots.used[i]! with
 |false=>have:=ok.un i hi hb;omega
 |true=>exact (ok.fwd i hi hb).2.1
theorem tU {α:Type} [Inhabited α] {l:List α} {i:Nat} (h:i<l.length):l.drop i=l[i]!::l.drop (i+1):=by
 rw [getElem!_pos l i h];exact List.drop_eq_getElem_cons h
theorem Q9 {c : aI} (nowv : bO c.now) (now64 : nT c.now) (fld : eV c.field.points) (crt : dO c.certs) (agd : dZ c.agenda) (w2 : c.agenda.where_.length = 200) :
    ∀ (d i : Nat) (ds : List sV), c.certs.list.length - i <= d -> i <= c.certs.list.length -> ds.length <= 1000000 ->
      aJ cF (ds, c.certs.list, (c.certs.list.length : Int), (i : Int), c.now.1, c.now.2, c.field.points, c.certs.next_, c.certs.list, c.agenda.slots.uses, c.agenda.slots.used, c.agenda.slots.free, c.agenda.heap, c.agenda.where_, c.due) =
        some (.done (if (∀ j, i <= j -> j < c.certs.list.length -> lM c.field.points (c.certs.list[j]!).2) /\ aX c.field.points c.now c.agenda.heap (c.certs.list.drop i) ds then 0 else 8)) := by
  have hl := crt.len
  have wl := agd.wl
  have fin : ∀ (ds : List sV), aJ cF (ds, c.certs.list, (c.certs.list.length : Int), (c.certs.list.length : Int), c.now.1, c.now.2, c.field.points, c.certs.next_, c.certs.list, c.agenda.slots.uses, c.agenda.slots.used, c.agenda.slots.free, c.agenda.heap, c.agenda.where_, c.due) = some (.done (if ds = [] then 0 else 8)) := by
    intro ds
    refine aM ?_
    unfold cF
    have e1 : decide ((c.certs.list.length : Int) < (c.certs.list.length : Int)) = false := aL (by omega)
    simp only [aE, e1, cond_false]
    cases ds with
    | nil => rw [aL (by simp), if_pos rfl]; rfl
    | cons d ds => rw [aQ (by simp), if_neg (by simp)]; rfl
  intro d
  induction d with
  | zero =>
    intro i ds hd hi hds
    have : i = c.certs.list.length := by omega
    subst this
    rw [fin ds, List.drop_length]
    have : ((∀ j, c.certs.list.length <= j -> j < c.certs.list.length -> lM c.field.points (c.certs.list[j]!).2) /\ aX c.field.points c.now c.agenda.heap [] ds) ↔ ds = [] := ⟨fun h => h.2, fun h => ⟨fun j h1 h2 => by omega, h⟩⟩
    by_cases h : ds = []
    · rw [if_pos h, if_pos (this.2 h)]
    · rw [if_neg h, if_neg (fun k => h (this.1 k))]
  | succ d ih =>
    intro i ds hd hi hds
    by_cases he : i = c.certs.list.length
    · subst he
      rw [fin ds, List.drop_length]
      have : ((∀ j, c.certs.list.length <= j -> j < c.certs.list.length -> lM c.field.points (c.certs.list[j]!).2) /\ aX c.field.points c.now c.agenda.heap [] ds) ↔ ds = [] := ⟨fun h => h.2, fun h => ⟨fun j h1 h2 => by omega, h⟩⟩
      by_cases h : ds = []
      · rw [if_pos h, if_pos (this.2 h)]
      · rw [if_neg h, if_neg (fun k => h (this.1 k))]
    have hi' : i < c.certs.list.length := by omega
    have e1 : decide ((i : Int) < (c.certs.list.length : Int)) = true := aQ (by omega)
    have hw := wY fld (x := (c.certs.list[i]!).2) (t := (c.now.1, c.now.2)) (crt.cv i hi') nowv now64
    have dr := tU hi'
    have all : (∀ j, i <= j -> j < c.certs.list.length -> lM c.field.points (c.certs.list[j]!).2) ↔ (lM c.field.points (c.certs.list[i]!).2 /\ ∀ j, i + 1 <= j -> j < c.certs.list.length -> lM c.field.points (c.certs.list[j]!).2) := by
      constructor
      · intro h; exact ⟨h i (Nat.le_refl _) hi', fun j h1 h2 => h j (by omega) h2⟩
      · rintro ⟨h1, h2⟩ j h3 h4
        by_cases e : j = i
        · rw [e]; exact h1
        · exact h2 j (by omega) h4
    have sc := bF (show i < 1000000000 by omega)
    by_cases hb : lM c.field.points (c.certs.list[i]!).2
    case neg =>
      rw [if_neg (fun h => hb (all.1 h.1).1)]
      refine aM ?_
      unfold cF
      simp only [e1, cond_true, aD c.certs.list i hi', aB, hw, if_neg hb]
      rfl
    rw [if_pos hb] at hw
    by_cases is : (bI c.field.points (c.certs.list[i]!).2 c.now).2 = true
    case neg =>
      have is' : (bI c.field.points (c.certs.list[i]!).2 c.now).2 = false := by simpa using is
      rw [bB (y := (ds, c.certs.list, (c.certs.list.length : Int), ((i + 1 : Nat) : Int), c.now.1, c.now.2, c.field.points, c.certs.next_, c.certs.list, c.agenda.slots.uses, c.agenda.slots.used, c.agenda.slots.free, c.agenda.heap, c.agenda.where_, c.due)) (by
        unfold cF
        simp only [e1, cond_true, aD c.certs.list i hi', aB, hw, sc, is', show ((0 : Int) != 0) = false from rfl, cond_false, Bool.not_false]), ih (i + 1) ds (by omega) (by omega) hds]
      have same : ((∀ j, i <= j -> j < c.certs.list.length -> lM c.field.points (c.certs.list[j]!).2) /\ aX c.field.points c.now c.agenda.heap (c.certs.list.drop i) ds) ↔ ((∀ j, i + 1 <= j -> j < c.certs.list.length -> lM c.field.points (c.certs.list[j]!).2) /\ aX c.field.points c.now c.agenda.heap (c.certs.list.drop (i + 1)) ds) := by
        rw [dr, all]
        constructor
        · rintro ⟨⟨_, h1⟩, h2⟩; exact ⟨h1, h2.2 is'⟩
        · rintro ⟨h1, h2⟩; exact ⟨⟨hb, h1⟩, fun h => absurd h is, fun _ => h2⟩
      simp only [same]
    have stop : (¬ ((∀ j, i <= j -> j < c.certs.list.length -> lM c.field.points (c.certs.list[j]!).2) /\ aX c.field.points c.now c.agenda.heap (c.certs.list.drop i) ds)) -> cF (ds, c.certs.list, (c.certs.list.length : Int), (i : Int), c.now.1, c.now.2, c.field.points, c.certs.next_, c.certs.list, c.agenda.slots.uses, c.agenda.slots.used, c.agenda.slots.free, c.agenda.heap, c.agenda.where_, c.due) = some (.done (.done 8)) -> aJ cF (ds, c.certs.list, (c.certs.list.length : Int), (i : Int), c.now.1, c.now.2, c.field.points, c.certs.next_, c.certs.list, c.agenda.slots.uses, c.agenda.slots.used, c.agenda.slots.free, c.agenda.heap, c.agenda.where_, c.due) =
        some (.done (if (∀ j, i <= j -> j < c.certs.list.length -> lM c.field.points (c.certs.list[j]!).2) /\ aX c.field.points c.now c.agenda.heap (c.certs.list.drop i) ds then 0 else 8)) := by
      intro h1 h2
      rw [if_neg h1]
      exact aM h2
    cases ds with
    | nil =>
      refine stop (fun h => ?_) ?_
      · rw [dr] at h
        obtain ⟨d, ds', h1, _⟩ := h.2.1 is
        cases h1
      · unfold cF
        simp only [e1, cond_true, aD c.certs.list i hi', aB, hw, is, show ((0 : Int) != 0) = false from rfl, cond_false, Bool.not_true]
        rfl
    | cons d0 ds =>
      have l0 : ((((d0 :: ds).length : Nat) : Int) == 0) = false := fO (by simp; omega)
      have g0 : aN (d0 :: ds) 0 = some d0 := rfl
      have fol : ∀ P : Prop, (P ↔ d0.1 = (c.certs.list[i]!).1 /\ (((bI c.field.points (c.certs.list[i]!).2 c.now).1.1, (bI c.field.points (c.certs.list[i]!).2 c.now).1.2, (c.certs.list[i]!).1, d0.2) : Ev) ∈ c.agenda.heap) -> ¬ P -> ¬ ((∀ j, i <= j -> j < c.certs.list.length -> lM c.field.points (c.certs.list[j]!).2) /\ aX c.field.points c.now c.agenda.heap (c.certs.list.drop i) (d0 :: ds)) := by
        intro P hP hn h
        rw [dr] at h
        obtain ⟨d, ds', h1, h2, h3, _⟩ := h.2.1 is
        injection h1 with h1 _
        subst h1
        exact hn (hP.2 ⟨h2, h3⟩)
      by_cases b1 : d0.1 = (c.certs.list[i]!).1
      case neg =>
        refine stop (fol (d0.1 = (c.certs.list[i]!).1 /\ _) Iff.rfl (fun h => b1 h.1)) ?_
        unfold cF
        simp only [aE, e1, cond_true, aD c.certs.list i hi', aB, hw, is, show ((0 : Int) != 0) = false from rfl, cond_false, Bool.not_true, l0, g0, eM b1]
      have ea := aG4 agd w2 (bI c.field.points (c.certs.list[i]!).2 c.now).1 (c.certs.list[i]!).1 d0.2
      by_cases b2 : d0.2.1 < 0
      · refine stop (fol (d0.1 = (c.certs.list[i]!).1 /\ _) Iff.rfl (fun h => by have := (ea.2 h.2).1; omega)) ?_
        unfold cF
        simp only [aE, e1, cond_true, aD c.certs.list i hi', aB, hw, is, show ((0 : Int) != 0) = false from rfl, cond_false, Bool.not_true, l0, g0, bZ b1, aQ b2]
      by_cases b3 : 200 <= d0.2.1
      · refine stop (fol (d0.1 = (c.certs.list[i]!).1 /\ _) Iff.rfl (fun h => by have := (ea.2 h.2).2.1; omega)) ?_
        unfold cF
        simp only [aE, e1, cond_true, aD c.certs.list i hi', aB, hw, is, show ((0 : Int) != 0) = false from rfl, cond_false, Bool.not_true, l0, g0, bZ b1, aL b2, aQ b3]
      have gw := dD (l := c.agenda.where_) (i := d0.2.1) (by omega) (by omega)
      by_cases b4 : c.agenda.where_[d0.2.1.toNat]! < 0
      · refine stop (fol (d0.1 = (c.certs.list[i]!).1 /\ _) Iff.rfl (fun h => by have := (ea.2 h.2).2.2.1; omega)) ?_
        unfold cF
        simp only [aE, e1, cond_true, aD c.certs.list i hi', aB, hw, is, show ((0 : Int) != 0) = false from rfl, cond_false, Bool.not_true, l0, g0, bZ b1, aL b2, aL b3, gw, aQ b4]
      have gh := dD (l := c.agenda.heap) (i := c.agenda.where_[d0.2.1.toNat]!) (by omega) (aAq agd (by omega) (by omega))
      have sl : jB (d0 :: ds) 1 ((((d0 :: ds).length : Nat) : Int)) = some ds := by
        unfold jB
        rw [if_pos ⟨by omega, by simp; omega, by omega⟩]
        simp
      have evq : ∀ (e : Ev) (p : Int × Int) (n : Int) (h : Int × Int), ((e.1 == p.1) && ((e.2.1 == p.2) && ((e.2.2.1 == n) && ((e.2.2.2.1 == h.1) && (e.2.2.2.2 == h.2))))) = decide (e = (p.1, p.2, n, h)) := by
        intro e p n h
        rw [Bool.eq_iff_iff, decide_eq_true_iff]
        simp only [Bool.and_eq_true, beq_iff_eq]
        constructor
        · rintro ⟨h1, h2, h3, h4, h5⟩
          exact Prod.ext h1 (Prod.ext h2 (Prod.ext h3 (Prod.ext h4 h5)))
        · intro h; rw [h]; exact ⟨rfl, rfl, rfl, rfl, rfl⟩
      have evq' := evq c.agenda.heap[(c.agenda.where_[d0.2.1.toNat]!).toNat]! (bI c.field.points (c.certs.list[i]!).2 c.now).1 (c.certs.list[i]!).1 d0.2
      by_cases b5 : c.agenda.heap[(c.agenda.where_[d0.2.1.toNat]!).toNat]! = ((bI c.field.points (c.certs.list[i]!).2 c.now).1.1, (bI c.field.points (c.certs.list[i]!).2 c.now).1.2, (c.certs.list[i]!).1, d0.2)
      case neg =>
        refine stop (fol (d0.1 = (c.certs.list[i]!).1 /\ _) Iff.rfl (fun h => b5 (ea.2 h.2).2.2.2)) ?_
        unfold cF
        simp only [aE, e1, cond_true, aD c.certs.list i hi', aB, hw, is, show ((0 : Int) != 0) = false from rfl, cond_false, Bool.not_true, l0, g0, bZ b1, aL b2, aL b3, gw, aL b4, gh]
        rw [evq', aL b5]
        rfl
      have hmem := ea.1 ⟨by omega, by omega, by omega, b5⟩
      rw [bB (y := (ds, c.certs.list, (c.certs.list.length : Int), ((i + 1 : Nat) : Int), c.now.1, c.now.2, c.field.points, c.certs.next_, c.certs.list, c.agenda.slots.uses, c.agenda.slots.used, c.agenda.slots.free, c.agenda.heap, c.agenda.where_, c.due)) (by
        unfold cF
        simp only [aE, e1, cond_true, aD c.certs.list i hi', aB, hw, is, show ((0 : Int) != 0) = false from rfl, cond_false, Bool.not_true, l0, g0, bZ b1, aL b2, aL b3, gw, aL b4, gh, sl, sc]
        rw [evq', aQ b5]
        rfl), ih (i + 1) ds (by omega) (by omega) (by simp at hds; omega)]
      have same : ((∀ j, i <= j -> j < c.certs.list.length -> lM c.field.points (c.certs.list[j]!).2) /\ aX c.field.points c.now c.agenda.heap (c.certs.list.drop i) (d0 :: ds)) ↔ ((∀ j, i + 1 <= j -> j < c.certs.list.length -> lM c.field.points (c.certs.list[j]!).2) /\ aX c.field.points c.now c.agenda.heap (c.certs.list.drop (i + 1)) ds) := by
        rw [dr, all]
        constructor
        · rintro ⟨⟨_, h1⟩, h2⟩
          obtain ⟨d, ds', k1, k2, k3, k4⟩ := h2.1 is
          injection k1 with k1 k5
          subst k5
          exact ⟨h1, k4⟩
        · rintro ⟨h1, h2⟩
          exact ⟨⟨hb, h1⟩, fun _ => ⟨d0, ds, rfl, b1, hmem, h2⟩, fun h => by rw [is] at h; cases h⟩
      simp only [same]
end Go.Proofs.YtmlghnibpjlchaaGreat
namespace Go.Proofs.YtmlghnibpjlchaaGreat
open Go.Vm Classical
theorem bA.iff {c:aI} (fit:uT c):bA c↔bO c.now/\eV c.field.points/\dO c.certs/\dZ c.agenda/\c.agenda.where_.length=200/\c.agenda.heap.length=c.due.length/\(∀i,i<c.certs.list.length->lM c.field.points (c.certs.list[i]!).2)/\aX c.field.points c.now c.agenda.heap c.certs.list c.due:=
 ⟨fun h=>⟨h.nowv,h.fld,h.crt,h.agd,h.w200,h.hd,h.known,h.fol⟩,fun ⟨h1,h2,h3,h4,h5,h6,h7,h8⟩=>⟨h1,fit.now64,h2,h3,h4,h5,h6,h7,h8⟩⟩
theorem bA.fit {c:aI} (ok:bA c):uT c:=⟨ok.now64,ok.agd.fit,by have:=ok.hd;have:=ok.agd.bd;omega⟩
theorem RA {c:aI} {n0 n1 n2 n3:Int}:
 aJ eI (4,0,c.now.1,c.now.2,c.field.points,c.certs.next_,c.certs.list,c.agenda.slots.uses,c.agenda.slots.used,c.agenda.slots.free,c.agenda.heap,c.agenda.where_,c.due,[n0,n1,n2,n3])=
  if n0=0/\n1=0/\n2=0/\n3=0 then aJ eI (4,4,c.now.1,c.now.2,c.field.points,c.certs.next_,c.certs.list,c.agenda.slots.uses,c.agenda.slots.used,c.agenda.slots.free,c.agenda.heap,c.agenda.where_,c.due,[n0,n1,n2,n3]) else some 8:=by
 have st: ∀(i:Nat) (n:Int),i<4->aN [n0,n1,n2,n3] (i:Int)=some n->aJ eI (4,(i:Int),c.now.1,c.now.2,c.field.points,c.certs.next_,c.certs.list,c.agenda.slots.uses,c.agenda.slots.used,c.agenda.slots.free,c.agenda.heap,c.agenda.where_,c.due,[n0,n1,n2,n3])=
  if n=0 then aJ eI (4,((i+1:Nat):Int),c.now.1,c.now.2,c.field.points,c.certs.next_,c.certs.list,c.agenda.slots.uses,c.agenda.slots.used,c.agenda.slots.free,c.agenda.heap,c.agenda.where_,c.due,[n0,n1,n2,n3]) else some 8:=by
  intro i n hi hg;have e1:decide ((i:Int)<4)=true:=aQ (by omega)
  by_cases h:n=0
  · rw [if_pos h]
    refine bB ?_;unfold eI;simp only [e1,cond_true,hg,aB,bZ h,cond_false,bF (show i<1000000000 by omega)]
  · rw [if_neg h]
    refine aM ?_;unfold eI;simp only [e1,cond_true,hg,aB,eM h]
 have s0:=st 0 n0 (by omega) rfl
 have s1:=st 1 n1 (by omega) rfl
 have s2:=st 2 n2 (by omega) rfl
 have s3:=st 3 n3 (by omega) rfl
 have c0:((0:Nat):Int)=0:=rfl;have c4:((3+1:Nat):Int)=4:=rfl;rw [c0] at s0;rw [c4] at s3;rw [s0]
 by_cases h0:n0=0
 · rw [if_pos h0,show ((0+1:Nat):Int)=((1:Nat):Int) from rfl,s1]
   by_cases h1:n1=0
   · rw [if_pos h1,show ((1+1:Nat):Int)=((2:Nat):Int) from rfl,s2]
     by_cases h2:n2=0
     · rw [if_pos h2,show ((2+1:Nat):Int)=((3:Nat):Int) from rfl,s3]
       by_cases h3:n3=0
       · rw [if_pos h3,if_pos ⟨h0,h1,h2,h3⟩]
       · rw [if_neg h3,if_neg (fun h=>h3 h.2.2.2)]
     · rw [if_neg h2,if_neg (fun h=>h2 h.2.2.1)]
   · rw [if_neg h1,if_neg (fun h=>h1 h.2.1)]
 · rw [if_neg h0,if_neg (fun h=>h0 h.1)]
theorem mI {c:aI} (fit:uT c):hG c=some (if bA c then 0 else 8):=by
 unfold hG;rw [dG fit.now64,pN,rN,iP _ fit.ag];simp only [aB];have h4:Int.ofNat [if bO c.now then (0:Int) else 8,uQ c.field.points,if dO c.certs then (0:Int) else 8,if dZ c.agenda then (0:Int) else 8].length=4:=rfl
 rw [h4,RA];have z: ∀(p:Prop) [Decidable p],(if p then (0:Int) else 8)=0↔p:=fun p _=>by by_cases h:p<;>simp [h]
 simp only [z,oJ];have f1:=bA.iff fit
 by_cases ok:bO c.now/\eV c.field.points/\dO c.certs/\dZ c.agenda
 case neg=>rw [if_neg ok,if_neg (c:=bA c) (fun h=>ok ⟨h.nowv,h.fld,h.crt,h.agd⟩)]
 obtain ⟨nowv,fld,crt,agd⟩:=ok;rw [if_pos ⟨nowv,fld,crt,agd⟩]
 by_cases w2:c.agenda.where_.length=200
 case neg=>
  rw [if_neg (c:=bA c) (fun h=>w2 h.w200)]
  refine aM ?_;unfold eI;simp only [aE,aL (show¬(4:Int)<4 by omega),cond_false,eM (show¬(c.agenda.where_.length:Int)=200 by omega),cond_true]
 by_cases hd:c.agenda.heap.length=c.due.length
 case neg=>
  rw [if_neg (c:=bA c) (fun h=>hd h.hd)]
  refine aM ?_;unfold eI;simp only [aE,aL (show¬(4:Int)<4 by omega),cond_false,bZ (show (c.agenda.where_.length:Int)=200 by omega),eM (show¬(c.agenda.heap.length:Int)=(c.due.length:Int) by omega),cond_true]
 have run:=Q9 nowv fit.now64 fld crt agd w2 c.certs.list.length 0 c.due (by omega) (by omega) fit.du
 rw [List.drop_zero] at run;have same:((∀j,0<=j->j<c.certs.list.length->lM c.field.points (c.certs.list[j]!).2)/\aX c.field.points c.now c.agenda.heap c.certs.list c.due)↔bA c:=by
  rw [f1];constructor
  · rintro ⟨h1,h2⟩;exact ⟨nowv,fld,crt,agd,w2,hd,fun i hi=>h1 i (by omega) hi,h2⟩
  · rintro ⟨_,_,_,_,_,_,h1,h2⟩;exact ⟨fun j _ hj=>h1 j hj,h2⟩
 simp only [same] at run;refine aM ?_;unfold eI;simp only [aE,aL (show¬(4:Int)<4 by omega),cond_false,bZ (show (c.agenda.where_.length:Int)=200 by omega),bZ (show (c.agenda.heap.length:Int)=(c.due.length:Int) by omega)]
 exact run
theorem aGu {a:aG} (ok:dZ a) (h:Int×Int):uL a h=some (if wG a.slots h then (a.heap[(a.where_[h.1.toNat]!).toNat]!,0) else ((0,0,0,0,0),6)):=by
 unfold uL;rw [BJ a ok.fit,if_pos ok,VW ok.so];simp only [aB,show ((0:Int) !=0)=false from rfl,cond_false]
 by_cases lv:wG a.slots h
 · obtain ⟨i,hi,hw,hh⟩:=ok.live lv
   have:=lv.1;have:=lv.2.1;have:=ok.wl
   rw [aQ lv,if_pos lv,dD (l:=a.where_) lv.1 (by omega),hw]
   simp only [Bool.not_true,cond_false,aB,aD a.heap i hi,Int.toNat_natCast]
 · rw [aL lv,if_neg lv];rfl
theorem RC {c : aI} (now64 : nT c.now) (fld : eV c.field.points) (crt : dO c.certs) (agd : dZ c.agenda) (w2 : c.agenda.where_.length = 200) (hdu : c.due.length <= 1000000)
    (kn : ∀ i, i < c.certs.list.length -> lM c.field.points (c.certs.list[i]!).2) :
    ∀ (d i k : Nat), c.certs.list.length - i <= d -> i <= c.certs.list.length -> k <= c.due.length ->
      aJ cX ((k : Int), (i : Int), c.now.1, c.now.2, c.field.points, c.certs.next_, c.certs.list, c.agenda.slots.uses, c.agenda.slots.used, c.agenda.slots.free, c.agenda.heap, c.agenda.where_, c.due) =
        some (if aX c.field.points c.now c.agenda.heap (c.certs.list.drop i) (c.due.drop k) then 0 else 8) := by
  have hl := crt.len
  have wl := agd.wl
  have fin : ∀ k : Nat, k <= c.due.length -> aJ cX ((k : Int), (c.certs.list.length : Int), c.now.1, c.now.2, c.field.points, c.certs.next_, c.certs.list, c.agenda.slots.uses, c.agenda.slots.used, c.agenda.slots.free, c.agenda.heap, c.agenda.where_, c.due) = some (if aX c.field.points c.now c.agenda.heap (c.certs.list.drop c.certs.list.length) (c.due.drop k) then 0 else 8) := by
    intro k hk
    rw [List.drop_length]
    refine aM ?_
    unfold cX
    have e1 : decide ((c.certs.list.length : Int) < (c.certs.list.length : Int)) = false := aL (by omega)
    simp only [aE, e1, cond_false]
    have : aX c.field.points c.now c.agenda.heap [] (c.due.drop k) ↔ k = c.due.length := by
      show c.due.drop k = [] ↔ _
      rw [List.drop_eq_nil_iff]
      omega
    by_cases h : k = c.due.length
    · rw [if_pos (this.2 h), bZ (by omega)]; rfl
    · rw [if_neg (fun x => h (this.1 x)), eM (by omega)]; rfl
  intro d
  induction d with
  | zero =>
    intro i k hd hi hk
    have : i = c.certs.list.length := by omega
    subst this
    exact fin k hk
  | succ d ih =>
    intro i k hd hi hk
    by_cases he : i = c.certs.list.length
    · subst he; exact fin k hk
    have hi' : i < c.certs.list.length := by omega
    have e1 : decide ((i : Int) < (c.certs.list.length : Int)) = true := aQ (by omega)
    have hw := wZ fld (x := (c.certs.list[i]!).2) (t := (c.now.1, c.now.2)) now64 (kn i hi')
    have dr := tU hi'
    have sc := bF (show i < 1000000000 by omega)
    have sk := bF (show k < 1000000000 by omega)
    by_cases is : (bI c.field.points (c.certs.list[i]!).2 c.now).2 = true
    case neg =>
      have is' : (bI c.field.points (c.certs.list[i]!).2 c.now).2 = false := by simpa using is
      rw [bB (y := ((k : Int), ((i + 1 : Nat) : Int), c.now.1, c.now.2, c.field.points, c.certs.next_, c.certs.list, c.agenda.slots.uses, c.agenda.slots.used, c.agenda.slots.free, c.agenda.heap, c.agenda.where_, c.due)) (by
        unfold cX
        simp only [aE, e1, cond_true, aD c.certs.list i hi', aB, hw, sc, is', Bool.not_false]), ih (i + 1) k (by omega) (by omega) hk]
      have same : aX c.field.points c.now c.agenda.heap (c.certs.list.drop i) (c.due.drop k) ↔ aX c.field.points c.now c.agenda.heap (c.certs.list.drop (i + 1)) (c.due.drop k) := by
        rw [dr]
        exact ⟨fun h => h.2 is', fun h => ⟨fun h' => absurd h' is, fun _ => h⟩⟩
      simp only [same]
    have stop : (¬ aX c.field.points c.now c.agenda.heap (c.certs.list.drop i) (c.due.drop k)) -> cX ((k : Int), (i : Int), c.now.1, c.now.2, c.field.points, c.certs.next_, c.certs.list, c.agenda.slots.uses, c.agenda.slots.used, c.agenda.slots.free, c.agenda.heap, c.agenda.where_, c.due) = some (.done 8) ->
        aJ cX ((k : Int), (i : Int), c.now.1, c.now.2, c.field.points, c.certs.next_, c.certs.list, c.agenda.slots.uses, c.agenda.slots.used, c.agenda.slots.free, c.agenda.heap, c.agenda.where_, c.due) = some (if aX c.field.points c.now c.agenda.heap (c.certs.list.drop i) (c.due.drop k) then 0 else 8) := by
      intro h1 h2
      rw [if_neg h1]
      exact aM h2
    by_cases hkl : k = c.due.length
    · refine stop (fun h => ?_) ?_
      · rw [dr] at h
        obtain ⟨d, ds', h1, _⟩ := h.1 is
        rw [hkl, List.drop_length] at h1
        cases h1
      · unfold cX
        simp only [aE, e1, cond_true, aD c.certs.list i hi', aB, hw, is, Bool.not_true, cond_false, aQ (show (c.due.length : Int) <= (k : Int) by omega)]
    have hk' : k < c.due.length := by omega
    have dk := tU hk'
    have e2 : decide ((c.due.length : Int) <= (k : Int)) = false := aL (by omega)
    have fol : ¬ ((c.due[k]!).1 = (c.certs.list[i]!).1 /\ (((bI c.field.points (c.certs.list[i]!).2 c.now).1.1, (bI c.field.points (c.certs.list[i]!).2 c.now).1.2, (c.certs.list[i]!).1, (c.due[k]!).2) : Ev) ∈ c.agenda.heap) -> ¬ aX c.field.points c.now c.agenda.heap (c.certs.list.drop i) (c.due.drop k) := by
      intro hn h
      rw [dr, dk] at h
      obtain ⟨d, ds', h1, h2, h3, _⟩ := h.1 is
      injection h1 with h1 _
      subst h1
      exact hn ⟨h2, h3⟩
    by_cases b1 : (c.due[k]!).1 = (c.certs.list[i]!).1
    case neg =>
      refine stop (fol (fun h => b1 h.1)) ?_
      unfold cX
      simp only [aE, e1, cond_true, aD c.certs.list i hi', aB, hw, is, Bool.not_true, cond_false, e2, aD c.due k hk', eM b1]
    have fi := aGu agd (c.due[k]!).2
    have ea := aG4 agd w2 (bI c.field.points (c.certs.list[i]!).2 c.now).1 (c.certs.list[i]!).1 (c.due[k]!).2
    have fi' : uL (aG.mk (aS.mk c.agenda.slots.uses c.agenda.slots.used c.agenda.slots.free) c.agenda.heap c.agenda.where_) (c.due[k]!).2 = _ := fi
    by_cases lv : wG c.agenda.slots (c.due[k]!).2
    case neg =>
      rw [if_neg lv] at fi'
      refine stop (fol (fun h => lv ?_)) ?_
      · obtain ⟨w, hw', hev⟩ := aY.1 h.2
        have := (agd.handle hw').1
        rwa [hev] at this
      · unfold cX
        simp only [aE, e1, cond_true, aD c.certs.list i hi', aB, hw, is, Bool.not_true, cond_false, e2, aD c.due k hk', bZ b1, fi', show ((6 : Int) != 0) = true from rfl]
    rw [if_pos lv] at fi'
    obtain ⟨w, hw1, hw2, hw3⟩ := agd.live lv
    rw [hw2, Int.toNat_natCast] at fi'
    have q1 : (0 <= (c.due[k]!).2.1 /\ (c.due[k]!).2.1 < 200 /\ 0 <= c.agenda.where_[(c.due[k]!).2.1.toNat]!) := ⟨lv.1, by have := lv.2.1; omega, by rw [hw2]; omega⟩
    by_cases b2 : (c.agenda.heap[w]!).2.2.1 = (c.certs.list[i]!).1
    case neg =>
      refine stop (fol (fun h => b2 ?_)) ?_
      · have := (ea.2 h.2).2.2.2
        rw [hw2, Int.toNat_natCast] at this
        rw [this]
      · unfold cX
        simp only [aE, e1, cond_true, aD c.certs.list i hi', aB, hw, is, Bool.not_true, cond_false, e2, aD c.due k hk', bZ b1, fi', show ((0 : Int) != 0) = false from rfl, eM b2]
    have teq : ((c.agenda.heap[w]!).1 == (bI c.field.points (c.certs.list[i]!).2 c.now).1.1 && (c.agenda.heap[w]!).2.1 == (bI c.field.points (c.certs.list[i]!).2 c.now).1.2) = decide (((c.agenda.heap[w]!).1, (c.agenda.heap[w]!).2.1) = (bI c.field.points (c.certs.list[i]!).2 c.now).1) := by
      rw [Bool.eq_iff_iff, decide_eq_true_iff]
      simp only [Bool.and_eq_true, beq_iff_eq]
      constructor
      · rintro ⟨h1, h2⟩; exact Prod.ext h1 h2
      · intro h; rw [<- h]; exact ⟨rfl, rfl⟩
    by_cases b3 : ((c.agenda.heap[w]!).1, (c.agenda.heap[w]!).2.1) = (bI c.field.points (c.certs.list[i]!).2 c.now).1
    case neg =>
      refine stop (fol (fun h => b3 ?_)) ?_
      · have := (ea.2 h.2).2.2.2
        rw [hw2, Int.toNat_natCast] at this
        rw [this]
      · unfold cX
        simp only [aE, e1, cond_true, aD c.certs.list i hi', aB, hw, is, Bool.not_true, cond_false, e2, aD c.due k hk', bZ b1, fi', show ((0 : Int) != 0) = false from rfl, bZ b2]
        rw [teq, aL b3]
        rfl
    have hmem := ea.1 ⟨q1.1, q1.2.1, q1.2.2, by
      rw [hw2, Int.toNat_natCast]
      have t1 := congrArg Prod.fst b3
      have t2 := congrArg Prod.snd b3
      exact Prod.ext t1 (Prod.ext t2 (Prod.ext b2 hw3))⟩
    rw [bB (y := (((k + 1 : Nat) : Int), ((i + 1 : Nat) : Int), c.now.1, c.now.2, c.field.points, c.certs.next_, c.certs.list, c.agenda.slots.uses, c.agenda.slots.used, c.agenda.slots.free, c.agenda.heap, c.agenda.where_, c.due)) (by
      unfold cX
      simp only [aE, e1, cond_true, aD c.certs.list i hi', aB, hw, is, Bool.not_true, cond_false, e2, aD c.due k hk', bZ b1, fi', show ((0 : Int) != 0) = false from rfl, bZ b2, sc, sk]
      rw [teq, aQ b3]
      rfl), ih (i + 1) (k + 1) (by omega) (by omega) (by omega)]
    have same : aX c.field.points c.now c.agenda.heap (c.certs.list.drop i) (c.due.drop k) ↔ aX c.field.points c.now c.agenda.heap (c.certs.list.drop (i + 1)) (c.due.drop (k + 1)) := by
      rw [dr, dk]
      constructor
      · intro h2
        obtain ⟨d, ds', k1, k2, k3, k4⟩ := h2.1 is
        injection k1 with k1 k5
        subst k5
        exact k4
      · intro h2
        exact ⟨fun _ => ⟨_, _, rfl, b1, hmem, h2⟩, fun h => by rw [is] at h; cases h⟩
    simp only [same]
theorem KV {c:aI} (fit:uT c):vX c=some (if bA c then 0 else 8):=by
 unfold vX;rw [mF fit.now64,J6,BM,BJ _ fit.ag];simp only [aB]
 by_cases nowv:bO c.now
 case neg=>rw [if_neg nowv,if_neg (c:=bA c) (fun h=>nowv h.nowv)];rfl
 rw [if_pos nowv]
 by_cases fld:eV c.field.points
 case neg=>rw [eM (fun h=>fld (oJ.1 h)),if_neg (c:=bA c) (fun h=>fld h.fld)];rfl
 rw [bZ (oJ.2 fld)]
 by_cases crt:dO c.certs
 case neg=>rw [if_neg crt,if_neg (c:=bA c) (fun h=>crt h.crt)];rfl
 rw [if_pos crt];have kn:=aAp c.certs fld crt.len;simp only [show ((0:Int) !=0)=false from rfl,cond_false,kn,aB]
 by_cases known: ∀i,i<c.certs.list.length->lM c.field.points (c.certs.list[i]!).2
 case neg=>rw [aL known,if_neg (c:=bA c) (fun h=>known h.known)];rfl
 rw [aQ known]
 by_cases agd:dZ c.agenda
 case neg=>rw [if_neg agd,if_neg (c:=bA c) (fun h=>agd h.agd)];rfl
 rw [if_pos agd];simp only [aE,show ((0:Int) !=0)=false from rfl,cond_false,Bool.not_true]
 by_cases w2:c.agenda.where_.length=200
 case neg=>rw [eM (by omega),if_neg (c:=bA c) (fun h=>w2 h.w200)];rfl
 rw [bZ (by omega)]
 by_cases hd:c.agenda.heap.length=c.due.length
 case neg=>rw [eM (by omega),if_neg (c:=bA c) (fun h=>hd h.hd)];rfl
 rw [bZ (by omega)]
 have run:=RC fit.now64 fld crt agd w2 fit.du known c.certs.list.length 0 0 (by omega) (by omega) (by omega)
 rw [List.drop_zero,List.drop_zero] at run;have same:aX c.field.points c.now c.agenda.heap c.certs.list c.due↔bA c:=by
  rw [bA.iff fit];exact ⟨fun h=>⟨nowv,fld,crt,agd,w2,hd,known,h⟩,fun h=>h.2.2.2.2.2.2.2⟩
 simp only [same] at run;simp only [cond_false];exact run
end Go.Proofs.YtmlghnibpjlchaaGreat
namespace Go.Proofs.YtmlghnibpjlchaaGreat
open Go.Vm Classical
section
variable {l : List Pt} {t : Int × Int}
theorem aX.cons_true {H:List Ev} {x:sV} {cs ds:List sV} (h:(bI l x.2 t).2=true):aX l t H (x::cs) ds↔ ∃d ds',ds=d::ds'/\d.1=x.1/\(((bI l x.2 t).1.1,(bI l x.2 t).1.2,x.1,d.2):Ev)∈H/\aX l t H cs ds':=
 ⟨fun k=>k.1 h,fun k=>⟨fun _=>k,fun k'=>(by rw [h] at k';cases k')⟩⟩
theorem aX.cons_false {H:List Ev} {x:sV} {cs ds:List sV} (h:(bI l x.2 t).2=false):aX l t H (x::cs) ds↔aX l t H cs ds:=
 ⟨fun k=>k.2 h,fun k=>⟨fun k'=>(by rw [h] at k';cases k'),fun _=>k⟩⟩
theorem aX.mono {H H':List Ev}: ∀{cs ds:List sV},(∀x∈cs,∀e:Ev,e.num=x.1->e∈H->e∈H')->aX l t H cs ds->aX l t H' cs ds
 | [],_,_,h=>h
 |x::cs,ds,hm,h=>by
  have hm': ∀y∈cs,∀e:Ev,e.num=y.1->e∈H->e∈H':=fun y hy=>hm y (by simp [hy])
  cases hx:(bI l x.2 t).2 with
  |true=>
   rw [aX.cons_true hx] at h ⊢;obtain ⟨d,ds',h1,h2,h3,h4⟩:=h;exact ⟨d,ds',h1,h2,hm x (by simp) _ rfl h3,aX.mono hm' h4⟩
  |false=>
   rw [aX.cons_false hx] at h ⊢;exact aX.mono hm' h
theorem aX.due {H:List Ev}: ∀{cs ds:List sV},aX l t H cs ds-> ∀d∈ds,∃x∈cs,d.1=x.1/\(bI l x.2 t).2=true/\(((bI l x.2 t).1.1,(bI l x.2 t).1.2,x.1,d.2):Ev)∈H
 | [],ds,h,d,hd=>by
  have:ds=[]:=h
  subst this;cases hd
 |x::cs,ds,h,d,hd=>by
  cases hx:(bI l x.2 t).2 with
  |true=>
   rw [aX.cons_true hx] at h;obtain ⟨e,ds',h1,h2,h3,h4⟩:=h;subst h1;rcases List.mem_cons.1 hd with rfl|hd
   · exact ⟨x,by simp,h2,hx,h3⟩
   · obtain ⟨y,hy,k⟩:=aX.due h4 d hd
     exact ⟨y,by simp [hy],k⟩
  |false=>
   rw [aX.cons_false hx] at h;obtain ⟨y,hy,k⟩:=aX.due h d hd;exact ⟨y,by simp [hy],k⟩
theorem aX.has {H:List Ev}: ∀{cs ds:List sV},aX l t H cs ds-> ∀x∈cs,(bI l x.2 t).2=true-> ∃d∈ds,d.1=x.1/\(((bI l x.2 t).1.1,(bI l x.2 t).1.2,x.1,d.2):Ev)∈H
 | [],_,_,x,hx,_=>by cases hx
 |y::cs,ds,h,x,hx,hf=>by
  cases hy:(bI l y.2 t).2 with
  |true=>
   rw [aX.cons_true hy] at h;obtain ⟨e,ds',h1,h2,h3,h4⟩:=h;subst h1;rcases List.mem_cons.1 hx with rfl|hx
   · exact ⟨e,by simp,h2,h3⟩
   · obtain ⟨d,hd,k⟩:=aX.has h4 x hx hf
     exact ⟨d,by simp [hd],k⟩
  |false=>
   rw [aX.cons_false hy] at h;rcases List.mem_cons.1 hx with rfl|hx
   · rw [hf] at hy;cases hy
   · exact aX.has h x hx hf
def Up (cs:List sV):Prop:=cs.Pairwise fun x y=>x.1<y.1
theorem tO {cs:List sV}:Up cs↔ ∀i j,i<j->j<cs.length->(cs[i]!).1<(cs[j]!).1:=by
 unfold Up;rw [List.pairwise_iff_getElem];constructor
 · intro h i j hij hj
   rw [getElem!_pos cs i (by omega),getElem!_pos cs j hj]
   exact h i j (by omega) hj hij
 · intro h i j hi hj hij
   have:=h i j hij hj
   rwa [getElem!_pos cs i hi,getElem!_pos cs j hj] at this
theorem aX.up {H:List Ev}: ∀{cs ds:List sV},aX l t H cs ds->Up cs->Up ds
 | [],ds,h,_=>by
  have:ds=[]:=h
  subst this;exact List.Pairwise.nil
 |x::cs,ds,h,hu=>by
  have hu':=List.pairwise_cons.1 hu;cases hx:(bI l x.2 t).2 with
  |true=>
   rw [aX.cons_true hx] at h;obtain ⟨e,ds',h1,h2,h3,h4⟩:=h;subst h1;refine List.pairwise_cons.2 ⟨fun d hd=>?_,aX.up h4 hu'.2⟩
   obtain ⟨y,hy,k,_⟩:=aX.due h4 d hd
   have:=hu'.1 y hy
   omega
  |false=>
   rw [aX.cons_false hx] at h;exact aX.up h hu'.2
theorem aX.snoc {H:List Ev}: ∀{cs ds:List sV} {x:sV},aX l t H cs ds->((bI l x.2 t).2=false->aX l t H (cs++[x]) ds)/\
 (∀d:sV,(bI l x.2 t).2=true->d.1=x.1->(((bI l x.2 t).1.1,(bI l x.2 t).1.2,x.1,d.2):Ev)∈H->aX l t H (cs++[x]) (ds++[d]))
 | [],ds,x,h=>by
  have:ds=[]:=h
  subst this;refine ⟨fun hx=>(aX.cons_false hx).2 rfl,fun d hx h1 h2=>(aX.cons_true hx).2 ⟨d,[],rfl,h1,h2,rfl⟩⟩
 |y::cs,ds,x,h=>by
  cases hy:(bI l y.2 t).2 with
  |true=>
   rw [aX.cons_true hy] at h;obtain ⟨e,ds',h1,h2,h3,h4⟩:=h;subst h1;have ih:=aX.snoc (x:=x) h4;refine ⟨fun hx=>(aX.cons_true hy).2 ⟨e,ds',rfl,h2,h3,ih.1 hx⟩,fun d hx k1 k2=>(aX.cons_true hy).2 ⟨e,ds'++[d],rfl,h2,h3,ih.2 d hx k1 k2⟩⟩
  |false=>
   rw [aX.cons_false hy] at h;have ih:=aX.snoc (x:=x) h;exact ⟨fun hx=>(aX.cons_false hy).2 (ih.1 hx),fun d hx k1 k2=>(aX.cons_false hy).2 (ih.2 d hx k1 k2)⟩
theorem aX.erase {H:List Ev}: ∀{cs ds:List sV} {i:Nat},aX l t H cs ds->i<cs.length->((bI l (cs[i]!).2 t).2=false->aX l t H (cs.eraseIdx i) ds)/\
 ((bI l (cs[i]!).2 t).2=true-> ∃k,k<ds.length/\(ds[k]!).1=(cs[i]!).1/\(((bI l (cs[i]!).2 t).1.1,(bI l (cs[i]!).2 t).1.2,(cs[i]!).1,(ds[k]!).2):Ev)∈H/\aX l t H (cs.eraseIdx i) (ds.eraseIdx k))
 | [],_,i,_,hi=>by cases hi
 |y::cs,ds,0,h,_=>by
  show ((bI l y.2 t).2=false->aX l t H cs ds)/\((bI l y.2 t).2=true-> ∃k,k<ds.length/\(ds[k]!).1=y.1/\(((bI l y.2 t).1.1,(bI l y.2 t).1.2,y.1,(ds[k]!).2):Ev)∈H/\aX l t H cs (ds.eraseIdx k));refine ⟨fun hy=>(aX.cons_false hy).1 h,fun hy=>?_⟩
  obtain ⟨e,ds',h1,h2,h3,h4⟩:=(aX.cons_true hy).1 h;subst h1;exact ⟨0,by simp,h2,h3,h4⟩
 |y::cs,ds,i+1,h,hi=>by
  have hi':i<cs.length:=by simpa using hi
  show ((bI l (cs[i]!).2 t).2=false->aX l t H (y::cs.eraseIdx i) ds)/\((bI l (cs[i]!).2 t).2=true-> ∃k,k<ds.length/\(ds[k]!).1=(cs[i]!).1/\(((bI l (cs[i]!).2 t).1.1,(bI l (cs[i]!).2 t).1.2,(cs[i]!).1,(ds[k]!).2):Ev)∈H/\aX l t H (y::cs.eraseIdx i) (ds.eraseIdx k));cases hy:(bI l y.2 t).2 with
  |true=>
   obtain ⟨e,ds',h1,h2,h3,h4⟩:=(aX.cons_true hy).1 h;subst h1;have ih:=aX.erase (i:=i) h4 hi';refine ⟨fun hx=>(aX.cons_true hy).2 ⟨e,ds',rfl,h2,h3,ih.1 hx⟩,fun hx=>?_⟩
   obtain ⟨k,k1,k2,k3,k4⟩:=ih.2 hx;exact ⟨k+1,by simp;omega,k2,k3,(aX.cons_true hy).2 ⟨e,ds'.eraseIdx k,rfl,h2,h3,k4⟩⟩
  |false=>
   have h:=(aX.cons_false hy).1 h;have ih:=aX.erase (i:=i) h hi';refine ⟨fun hx=>(aX.cons_false hy).2 (ih.1 hx),fun hx=>?_⟩
   obtain ⟨k,k1,k2,k3,k4⟩:=ih.2 hx;exact ⟨k,k1,k2,k3,(aX.cons_false hy).2 k4⟩
end
theorem G8 {H:List Ev} {ns:List Int} (hd:ns.Nodup) (hl:H.length<=ns.length) (he: ∀n∈ns,∃e∈H,Ev.num e=n): ∀e∈H,Ev.num e∈ns:=by
 have pos: ∀n,n∈ns-> ∃w,w<H.length/\Ev.num H[w]! =n:=fun n hn=>by
  obtain ⟨e,he,h2⟩:=he n hn;obtain ⟨w,hw,rfl⟩:=aY.1 he;exact ⟨w,hw,h2⟩
 let f:Int->Nat:=fun n=>if h: ∃w,w<H.length/\Ev.num H[w]! =n then h.choose else 0
 have hf: ∀n∈ns,f n<H.length/\Ev.num H[f n]! =n:=fun n hn=>by
  have h:=pos n hn;show (if h: ∃w,w<H.length/\Ev.num H[w]! =n then h.choose else 0)<_/\Ev.num H[(if h: ∃w,w<H.length/\Ev.num H[w]! =n then h.choose else 0)]! =n
  rw [dif_pos h];exact h.choose_spec
 have full:=G3 (n:=H.length) (l:=ns.map f) (CD hd fun x hx y hy h=>by
  have h1:=(hf x hx).2;have h2:=(hf y hy).2;rw [h] at h1
  omega) (fun x hx=>by
  obtain ⟨n,hn,rfl⟩:=List.mem_map.1 hx;exact (hf n hn).1) (by rw [List.length_map];exact hl)
 intro e hm;obtain ⟨w,hw,rfl⟩:=aY.1 hm;obtain ⟨n,hn,h⟩:=List.mem_map.1 (full w hw);rw [<- h,(hf n hn).2];exact hn
theorem RD {cs:List sV} (h:Up cs):(cs.map fun x=>x.1).Nodup:=by
 refine CD ?_ ?_
 · unfold Up at h
   exact h.imp fun hab he=>by rw [he] at hab;omega
 · intro x hx y hy he
   obtain ⟨i,hi,rfl⟩:=aY.1 hx;obtain ⟨j,hj,rfl⟩:=aY.1 hy;rcases Nat.lt_trichotomy i j with h1|h1|h1
   · have:=tO.1 h i j h1 hj;omega
   · rw [h1]
   · have:=tO.1 h j i h1 hi;omega
theorem bA.crt_up {c:aI} (ok:bA c):Up c.certs.list:=tO.2 ok.crt.up
theorem bA.due_up {c:aI} (ok:bA c):Up c.due:=ok.fol.up ok.crt_up
theorem bA.nums {c:aI} (ok:bA c): ∀e∈c.agenda.heap,∃d∈c.due,d.1=Ev.num e:=by
 have:=G8 (H:=c.agenda.heap) (RD ok.due_up) (by rw [List.length_map,ok.hd];exact Nat.le_refl _) (fun n hn=>by
  obtain ⟨d,hd,rfl⟩:=List.mem_map.1 hn;obtain ⟨x,hx,h1,h2,h3⟩:=ok.fol.due d hd;exact ⟨_,h3,h1.symm⟩)
 intro e he;obtain ⟨d,hd,h⟩:=List.mem_map.1 (this e he);exact ⟨d,hd,h⟩
end Go.Proofs.YtmlghnibpjlchaaGreat
