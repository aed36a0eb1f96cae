/- Plain laws (2). -/
import Derived.Test.YtlnclppkepgdmaaGreatCQM1
open Classical renaming not_not->aa,not_forall->aj,not_imp->ao
open List renaming length_set->ac,length_take->am,take_of_length_le->aq,take_append_of_le_length->ar,mem_map->ax,append_assoc->az,drop_length->be,drop_eq_nil_iff->bg,length_append->bi,set_eq_of_length_le->bk,length_drop->bn,drop_eq_nil_of_le->bu,drop_zero->bz,filter_eq_self->cb,mem_cons->ce,getElem?_take->cf,filter_append->ci,pairwise_cons->cj,getElem?_set->cm,length_cons->cq,isEmpty_iff->cu,length_nil->cy,append_nil->cz,length_map->c6,replicate->c8,take_take->db,set_comm->de
open Bool renaming not_true->ae,not_false->ay,eq_iff_iff->bv,and_eq_true->cw,and_self->df
open Int renaming toNat_natCast->af,lt_irrefl->cd
open Nat renaming le_refl->ai,ble_eq_true_of_le->ba,lt_trichotomy->bj,sub_self->bq,eq_of_beq_eq_true->bw,le_trans->dh,beq->di,min_self->dj
open Prod renaming ext->au,fst->dc,snd->dd
open Iff renaming rfl->bo
namespace Go.Proofs.YtlnclppkepgdmaaGreat
open Go.Vm Classical
theorem VO (a:aP) (fit:FU a) (so:fS a.slots) (wl:a.where_.length=a.slots.uses.length):
 aG nH (a.where_,(a.where_.length:Int),0,a.slots.uses,a.slots.used,a.slots.free,a.heap,a.where_)=some (if (∀i,i<a.slots.uses.length->QB a i)/\(∀k,k<a.heap.length->RW a.heap k) then 0 else 8):=by
 have hu:=so.ul;have hn:=so.n2;have hh:=fit.hp;have inner:=VN a.heap a.slots.uses a.slots.free a.where_ a.slots.used fit.hp fit.at64
 have key:=dS (body:=nH) (fun i=>(a.where_,(a.where_.length:Int),(i:Int),a.slots.uses,a.slots.used,a.slots.free,a.heap,a.where_)) a.where_.length (fun i=> ¬QB a i) (r:=8) (e:=if (∀k,k<a.heap.length->RW a.heap k) then 0 else 8) (fun i hi=>by
  have e1:decide ((i:Int)<(a.where_.length:Int))=true:=aH (by omega)
  unfold nH;simp only [aE,e1,cond_true,aC a.where_ i hi,aC a.slots.used i (by omega),aC a.slots.uses i (by omega),aB,aT (show i<1000000000 by omega)]
  unfold QB;generalize a.where_[i]! =w at*;cases hb:a.slots.used[i]! with
  |false=>
   simp only [ay,cond_true]
   by_cases hw:w= -1
   · rw [bP hw]
     exact ⟨fun h=>absurd ⟨fun h=>(by cases h),fun _=>hw⟩ h,fun _=>rfl⟩
   rw [dL hw]
   exact ⟨fun _=>rfl,fun h=>absurd ((aa.1 h).2 trivial) hw⟩
  |true=>
   simp only [ae,cond_false]
   by_cases b1:w<0
   · rw [aH b1]
     exact ⟨fun _=>rfl,fun h=>absurd ((aa.1 h).1 trivial).1 (by omega)⟩
   by_cases b2:(a.heap.length:Int)<=w
   · rw [dec_f b1,aH b2]
     exact ⟨fun _=>rfl,fun h=>absurd ((aa.1 h).1 trivial).2.1 (by omega)⟩
   rw [dec_f b1,dec_f b2];simp only [cond_false,eG (l:=a.heap) (i:=w) (by omega) (by omega),aB]
   by_cases b3:(a.heap[w.toNat]!).2.2.2.1=i
   · by_cases b4:(a.heap[w.toNat]!).2.2.2.2=a.slots.uses[i]!
     · rw [eH b3,eH b4]
       exact ⟨fun h=>absurd ⟨fun _=>⟨by omega,by omega,b3,b4⟩,fun h=>(by cases h)⟩ h,fun _=>rfl⟩
     rw [eH b3,eM b4]
     exact ⟨fun _=>rfl,fun h=>absurd ((aa.1 h).1 trivial).2.2.2 b4⟩
   rw [eM b3]
   exact ⟨fun _=>rfl,fun h=>absurd ((aa.1 h).1 trivial).2.2.1 b3⟩) (by
  unfold nH
  have:decide ((a.where_.length:Int)<(a.where_.length:Int))=false:=dec_f (by omega)
  simp only [aE,this,cond_false]
  by_cases hx: ∀k,k<a.heap.length->RW a.heap k
  · rw [if_pos hx];exact inner.1 hx
  rw [if_neg hx];exact inner.2 hx)
 by_cases hw: ∀i,i<a.slots.uses.length->QB a i
 · refine (key.2 fun i hi=>aa.2 (hw i (by omega))).trans ?_
   by_cases hx: ∀k,k<a.heap.length->RW a.heap k
   · rw [if_pos hx,if_pos ⟨hw,hx⟩]
   rw [if_neg hx,if_neg (fun h=>hx h.2)]
 rw [if_neg (fun h=>hw h.1)]
 obtain ⟨i,h⟩:=aj.1 hw;obtain ⟨hi,hx⟩:=ao.1 h;exact key.1 ⟨i,by omega,hx⟩
theorem kL (a:aP) (fit:FU a):kU a=some (if fN a then 0 else 8):=by
 have hh:=fit.hp;unfold kU;rw [BE _ fit.fr];simp only [aE]
 by_cases so:fS a.slots
 case neg=>rw [if_neg so,if_neg (fun h=>so h.so)];rfl
 have hu:=so.ul;have hn:=so.n2;have hf:=so.fl;rw [if_pos so];simp only [aB,show ((0:Int) !=0)=false from rfl,cond_false]
 by_cases wl:a.where_.length=a.slots.uses.length
 case neg=>
  rw [dL (by omega),if_neg (fun h=>wl h.wl)];rfl
 rw [bP (by omega)]
 have e:aA .i64 ((a.slots.used.length:Int) - (a.slots.free.length:Int))=((a.slots.uses.length-a.slots.free.length:Nat):Int):=by rw [wi];omega
 rw [e]
 by_cases hl:a.heap.length+a.slots.free.length=a.slots.uses.length
 case neg=>
  rw [dL (by omega),if_neg (fun h=>hl h.hl)];rfl
 rw [bP (by omega)]
 simp only [cond_false];rw [VO a fit so wl]
 by_cases ok:fN a
 · rw [if_pos ok,if_pos ok.to]
 rw [if_neg ok,if_neg]
 intro h;exact ok (fN.of fit so wl hl h.1 h.2)
theorem aFQ {x y:Ev} (hx:oA (x.1,x.2.1)) (hy:oA (y.1,y.2.1)):fC x y=some (decide (eC x y)):=by
 unfold fC eC;rw [uD hx hy];simp only [aB];generalize mE (x.1,x.2.1) (y.1,y.2.1)=c
 by_cases h1:c<0
 · simp [h1]
 by_cases h2:c=0
 · subst h2;simp
 simp only [h1,eM h2,h2,decide_false,cond_false,false_or,false_and]
theorem aCC {s:aU} (ok:fS s) (h:Int×Int):yU s h=some (decide (AV s h)):=by
 have hu:=ok.ul;unfold yU AV;simp only [aE]
 by_cases a1:0<=h.1
 · by_cases a2:h.1<s.uses.length
   · simp only [a1,a2,decide_true,cond_true,eG (l:=s.used) a1 (by omega),eG (l:=s.uses) a1 a2,aB,true_and]
     generalize s.uses[h.1.toNat]! =u;cases s.used[h.1.toNat]!<;>simp [aCA]
   simp [a1,a2]
 simp [a1]
theorem aDI (a:aP) (so:fS a.slots):xP a=some (decide (a.where_.length=a.slots.uses.length/\a.heap.length+a.slots.free.length=a.slots.uses.length/\ ∀i,i<a.slots.uses.length->QB a i)):=by
 have hu:=so.ul;have hn:=so.n2;have hf:=so.fl;unfold xP;simp only [aE]
 by_cases wl:a.where_.length=a.slots.uses.length
 case neg=>
  rw [dL (by omega),dec_f (fun h=>wl h.1)];rfl
 rw [bP (by omega)]
 have e:aA .i64 ((a.slots.uses.length:Int) - (a.slots.free.length:Int))=((a.slots.uses.length-a.slots.free.length:Nat):Int):=by rw [wi];omega
 rw [e]
 by_cases hl:a.heap.length+a.slots.free.length=a.slots.uses.length
 case neg=>
  rw [dL (by omega),dec_f (fun h=>hl h.2.1)];rfl
 rw [bP (by omega)]
 simp only [cond_false];have key:=dS (body:=qC) (fun i=>((a.slots.uses.length:Int),(i:Int),a.slots.uses,a.slots.used,a.slots.free,a.heap,a.where_)) a.slots.uses.length (fun i=> ¬QB a i) (r:=false) (e:=true) (fun i hi=>by
  have e1:decide ((i:Int)<(a.slots.uses.length:Int))=true:=aH (by omega)
  unfold qC;simp only [aE,e1,cond_true,aC a.where_ i (by omega),aC a.slots.used i (by omega),aB,aT (show i<1000000000 by omega)]
  unfold QB;generalize a.where_[i]! =w at*;cases hb:a.slots.used[i]! with
  |false=>
   simp only [ay,cond_true]
   by_cases hw:w= -1
   · rw [bP hw]
     exact ⟨fun h=>absurd ⟨fun h=>(by cases h),fun _=>hw⟩ h,fun _=>rfl⟩
   rw [dL hw]
   exact ⟨fun _=>rfl,fun h=>absurd ((aa.1 h).2 trivial) hw⟩
  |true=>
   simp only [ae,cond_false]
   by_cases b1:w<0
   · rw [aH b1]
     exact ⟨fun _=>rfl,fun h=>absurd ((aa.1 h).1 trivial).1 (by omega)⟩
   by_cases b2:(a.heap.length:Int)<=w
   · rw [dec_f b1,aH b2]
     exact ⟨fun _=>rfl,fun h=>absurd ((aa.1 h).1 trivial).2.1 (by omega)⟩
   rw [dec_f b1,dec_f b2];simp only [cond_false,eG (l:=a.heap) (i:=w) (by omega) (by omega),aB]
   by_cases b3:(a.heap[w.toNat]!).2.2.2.1=i
   · rw [bP b3]
     simp only [cond_false];rw [aCC (s:=⟨a.slots.uses,a.slots.used,a.slots.free⟩) so];have lv:AV ⟨a.slots.uses,a.slots.used,a.slots.free⟩ (a.heap[w.toNat]!).2.2.2↔(a.heap[w.toNat]!).2.2.2.2=a.slots.uses[i]!:=by
      unfold AV;dsimp only;rw [b3];constructor
      · intro h;exact h.2.2.2.symm
      intro h;exact ⟨by omega,by omega,by rw [af];exact hb,by rw [af];exact h.symm⟩
     simp only [aB,lv]
     by_cases b4:(a.heap[w.toNat]!).2.2.2.2=a.slots.uses[i]!
     · rw [aH b4]
       exact ⟨fun h=>absurd ⟨fun _=>⟨by omega,by omega,b3,b4⟩,fun h=>(by cases h)⟩ h,fun _=>rfl⟩
     rw [dec_f b4]
     exact ⟨fun _=>rfl,fun h=>absurd ((aa.1 h).1 trivial).2.2.2 b4⟩
   rw [dL b3]
   exact ⟨fun _=>rfl,fun h=>absurd ((aa.1 h).1 trivial).2.2.1 b3⟩) (by
  unfold qC
  have:decide ((a.slots.uses.length:Int)<(a.slots.uses.length:Int))=false:=dec_f (by omega)
  simp only [this,cond_false])
 by_cases hw: ∀i,i<a.slots.uses.length->QB a i
 · rw [aH ⟨wl,hl,hw⟩]
   exact key.2 fun i hi=>aa.2 (hw i hi)
 rw [dec_f (fun h=>hw h.2.2)]
 obtain ⟨i,h⟩:=aj.1 hw;obtain ⟨hi,hx⟩:=ao.1 h;exact key.1 ⟨i,hi,hx⟩
theorem Y8 (H:List Ev) (u fr W:List Int) (us:List Bool) (k:Nat) (hk:k<H.length) (hl:H.length<=1000000) (x:Ev):
 ((∃j,j<k/\(H[j]!).2.2.1=x.2.2.1)->aG lY ((k:Int),0,u,us,fr,H,W,x)=some (.done 8))/\
 ((∀j,j<k-> ¬(H[j]!).2.2.1=x.2.2.1)->aG lY ((k:Int),0,u,us,fr,H,W,x)=some (.next (((k+1:Nat):Int),u,us,fr,H,W))):=by
 refine dS (body:=lY) (fun j=>((k:Int),(j:Int),u,us,fr,H,W,x)) k (fun j=>(H[j]!).2.2.1=x.2.2.1) (r:= .done 8) (e:= .next (((k+1:Nat):Int),u,us,fr,H,W)) (fun j hj=>?_) ?_
 · have e1:decide ((j:Int)<(k:Int))=true:=aH (by omega)
   unfold lY;simp only [e1,cond_true,aC H j (by omega),aB,aT (show j<1000000000 by omega)]
   constructor
   · intro h;rw [eH h];rfl
   intro h;rw [eM h];rfl
 unfold lY
 have:decide ((k:Int)<(k:Int))=false:=dec_f (by omega)
 simp only [this,cond_false,aT (show k<1000000000 by omega)]
theorem Y9 (H:List Ev) (u fr W:List Int) (us:List Bool) (hl:H.length<=1000000) (r64: ∀w,w<H.length->oA ((H[w]!).1,(H[w]!).2.1)):
 aG lZ (1,u,us,fr,H,W)=some (.done (if∀k,0<k->k<H.length-> ¬eC H[k]! H[(k-1) / 2]! then 0 else 8)):=by
 by_cases h0:H.length=0
 · rw [if_pos (fun k _ hk=>by omega)]
   refine aK ?_;unfold lZ
   have:decide ((1:Int)<(H.length:Int))=false:=dec_f (by omega)
   simp only [aE,this,cond_false]
 have key:=dS (body:=lZ) (fun i=>(((i+1:Nat):Int),u,us,fr,H,W)) (H.length-1) (fun i=>eC H[i+1]! H[i / 2]!) (r:= .done 8) (e:= .done 0) (fun i hi=>by
  have e1:decide (((i+1:Nat):Int)<(H.length:Int))=true:=aH (by omega)
  unfold lZ;simp only [aE,e1,cond_true,wX (show i<1000000000 by omega),aC H (i+1) (by omega),aC H (i / 2) (by omega),aB,aFQ (r64 (i+1) (by omega)) (r64 (i / 2) (by omega)),aT (show i+1<1000000000 by omega)]
  constructor
  · intro h;rw [aH h];rfl
  · intro h;rw [dec_f h];rfl) (by
  unfold lZ
  have:decide (((H.length-1+1:Nat):Int)<(H.length:Int))=false:=dec_f (by omega)
  simp only [aE,this,cond_false])
 by_cases ho: ∀k,0<k->k<H.length-> ¬eC H[k]! H[(k-1) / 2]!
 · rw [if_pos ho]
   refine key.2 fun i hi hc=>ho (i+1) (by omega) (by omega) ?_
   rwa [show (i+1-1) / 2=i / 2 by omega]
 rw [if_neg ho]
 obtain ⟨k,h⟩:=aj.1 ho;obtain ⟨k0,h⟩:=ao.1 h;obtain ⟨hk,hx⟩:=ao.1 h;refine key.1 ⟨k-1,by omega,?_⟩
 rw [show k-1+1=k by omega]
 exact aa.1 hx
def VP (H:List Ev) (k:Nat):Prop:=bQ ((H[k]!).1,(H[k]!).2.1)/\0<=(H[k]!).2.2.1/\(H[k]!).2.2.1<=1000000/\(∀j,j<k-> ¬(H[j]!).2.2.1=(H[k]!).2.2.1)
theorem FV (a:aP) (fit:FU a):vY a=some (if fN a then 0 else 8):=by
 have hh:=fit.hp;unfold vY;rw [QA _ fit.fr]
 by_cases so:fS a.slots
 case neg=>rw [if_neg so,if_neg (fun h=>so h.so)];rfl
 rw [if_pos so];simp only [aB,show ((0:Int) !=0)=false from rfl,cond_false,aDI a so]
 by_cases pl:a.where_.length=a.slots.uses.length/\a.heap.length+a.slots.free.length=a.slots.uses.length/\ ∀i,i<a.slots.uses.length->QB a i
 case neg=>
  rw [dec_f pl,if_neg (fun h=>pl ⟨h.wl,h.hl,h.to.1⟩)];rfl
 rw [aH pl];obtain ⟨wl,hl,hw⟩:=pl;simp only [ae,cond_false];have key:=dS (body:=sC) (fun k=>((k:Int),a.slots.uses,a.slots.used,a.slots.free,a.heap,a.where_)) a.heap.length (fun k=> ¬VP a.heap k) (r:=8) (e:=if∀k,0<k->k<a.heap.length-> ¬eC a.heap[k]! a.heap[(k-1) / 2]! then 0 else 8) (fun k hk=>by
  have e1:decide ((k:Int)<(a.heap.length:Int))=true:=aH (by omega)
  have l1:=Y8 a.heap a.slots.uses a.slots.free a.where_ a.slots.used k hk hh a.heap[k]!;unfold sC;simp only [aE,e1,cond_true,aC a.heap k hk,aB,mC (fit.at64 k hk)];unfold VP
  by_cases b1:bQ ((a.heap[k]!).1,(a.heap[k]!).2.1)
  case neg=>
   rw [if_neg b1];exact ⟨fun _=>rfl,fun h=>absurd (aa.1 h).1 b1⟩
  rw [if_pos b1]
  by_cases b2:(a.heap[k]!).2.2.1<0
  · rw [aH b2]
    exact ⟨fun _=>rfl,fun h=>absurd (aa.1 h).2.1 (by omega)⟩
  by_cases b3:1000000<(a.heap[k]!).2.2.1
  · rw [dec_f b2,aH b3]
    exact ⟨fun _=>rfl,fun h=>absurd (aa.1 h).2.2.1 (by omega)⟩
  rw [dec_f b2,dec_f b3];simp only [show ((0:Int) !=0)=false from rfl,cond_false]
  by_cases b4: ∃j,j<k/\(a.heap[j]!).2.2.1=(a.heap[k]!).2.2.1
  · refine ⟨fun _=>l1.1 b4,fun h=>?_⟩
    obtain ⟨j,j1,j2⟩:=b4;exact absurd j2 ((aa.1 h).2.2.2 j j1)
  · have b4': ∀j,j<k-> ¬(a.heap[j]!).2.2.1=(a.heap[k]!).2.2.1:=fun j h1 h2=>b4 ⟨j,h1,h2⟩
    exact ⟨fun h=>absurd ⟨b1,by omega,by omega,b4'⟩ h,fun _=>l1.2 b4'⟩) (by
  unfold sC
  have:decide ((a.heap.length:Int)<(a.heap.length:Int))=false:=dec_f (by omega)
  simp only [aE,this,cond_false];exact Y9 a.heap _ _ _ _ hh fit.at64)
 have same:fN a↔(∀k,k<a.heap.length->VP a.heap k)/\ ∀k,0<k->k<a.heap.length-> ¬eC a.heap[k]! a.heap[(k-1) / 2]!:=by
  constructor
  · intro ok
    refine ⟨fun k hk=>?_,ok.ord⟩
    have:=ok.to.2 k hk
    exact ⟨this.1,this.2.1,this.2.2.1,this.2.2.2.1⟩
  rintro ⟨h1,h2⟩
  refine fN.of fit so wl hl hw fun k hk=>?_
  obtain ⟨c1,c2,c3,c4⟩:=h1 k hk;refine ⟨c1,c2,c3,c4,fun k0=>?_⟩
  unfold aBe;rw [if_pos ⟨c1,(h1 ((k-1) / 2) (by omega)).1⟩,KE]
  exact h2 k k0 hk
 by_cases he: ∀k,k<a.heap.length->VP a.heap k
 · refine (key.2 fun i hi=>aa.2 (he i hi)).trans ?_
   by_cases ho: ∀k,0<k->k<a.heap.length-> ¬eC a.heap[k]! a.heap[(k-1) / 2]!
   · rw [if_pos ho,if_pos (same.2 ⟨he,ho⟩)]
   rw [if_neg ho,if_neg (fun h=>ho (same.1 h).2)]
 rw [if_neg (fun h=>he (same.1 h).1)]
 obtain ⟨i,h⟩:=aj.1 he;obtain ⟨hi,hx⟩:=ao.1 h;exact key.1 ⟨i,hi,hx⟩
theorem HJ {l:List Ev} {n:Nat} {e:Ev} (hn:n<=l.length):e∈l.take n↔ ∃w,w<n/\l[w]! =e:=by
 rw [cJ];constructor
 · rintro ⟨i,h1,_,h3⟩;exact ⟨i,h1,h3⟩
 rintro ⟨i,h1,h3⟩;exact ⟨i,h1,by omega,h3⟩
theorem aNV {s:aU} (so:fS s) {n:Nat} {H:List Ev} {W:List Int} (E:Ev->Prop) (hn:n<=H.length) (wl:W.length=s.uses.length) (hl:n+s.free.length=s.uses.length)
 (ix: ∀w,w<n->0<=(H[w]!).ix/\(H[w]!).ix<W.length/\W[(H[w]!).n]! =(w:Int)) (mem: ∀e,(∃w,w<n/\H[w]! =e)↔E e) (ord: ∀k,0<k->k<n-> ¬eC H[k]! H[(k-1) / 2]!)
 (ue: ∀i,i<s.uses.length->s.used[i]! =true-> ∃e:Ev,E e/\e.ix=i/\e.2.2.2.2=s.uses[i]!) (un: ∀i,i<s.uses.length->s.used[i]! =false->W[i]! = -1)
 (ev: ∀e,E e->uE e) (nums: ∀e f:Ev,E e->E f->e.num=f.num->e.ix=f.ix):fN ⟨s,H.take n,W⟩:=by
 have len:(H.take n).length=n:=by rw [am];omega
 have cell: ∀w,w<n->(H.take n)[w]! =H[w]!:=fun w hw=>nS hw
 refine ⟨so,wl,by show (H.take n).length+_=_;rw [len];exact hl,?_,un,?_,?_,?_⟩
 · intro i hi hu
   dsimp only at hi hu ⊢;rw [len];obtain ⟨e,he,e1,e2⟩:=ue i hi hu;obtain ⟨w,hw,rfl⟩:=(mem e).2 he;obtain ⟨a1,a2,a3⟩:=ix w hw;have hn':(H[w]!).n=i:=by show ((H[w]!).ix).toNat=i;omega
   rw [hn'] at a3;rw [a3,af,cell w hw];exact ⟨by omega,by omega,e1,e2⟩
 · intro w hw
   dsimp only at hw ⊢;rw [len] at hw;rw [cell w hw];exact ev _ ((mem _).1 ⟨w,hw,rfl⟩)
 · intro v w hv hw
   dsimp only at hw ⊢;rw [len] at hw;rw [cell v (by omega),cell w hw]
   intro hc
   have:=nums _ _ ((mem _).1 ⟨v,by omega,rfl⟩) ((mem _).1 ⟨w,hw,rfl⟩) hc
   obtain ⟨a1,a2,a3⟩:=ix v (by omega)
   obtain ⟨b1,b2,b3⟩:=ix w hw;have hn':(H[v]!).n=(H[w]!).n:=by show ((H[v]!).ix).toNat=((H[w]!).ix).toNat;rw [this]
   rw [hn'] at a3;omega
 intro k k0 hk
 dsimp only at hk ⊢;rw [len] at hk;rw [cell k hk,cell _ (by omega)]
 exact ord k k0 hk
theorem BI {s:aU} (so:fS s) {n:Nat} {x:Ev} {M:Ev->Prop} {K:Nat->Prop} {H H1:List Ev} {W W1:List Int} (st:GS n x M K H W H1 W1) (hn:n<=H.length) (wl:W.length=s.uses.length) (hl:n+s.free.length=s.uses.length)
 (ue: ∀i,i<s.uses.length->s.used[i]! =true-> ∃e:Ev,(e=x\/M e)/\e.ix=i/\e.2.2.2.2=s.uses[i]!) (un: ∀i,i<s.uses.length->s.used[i]! =false->K i/\W[i]! = -1)
 (ev: ∀e,(e=x\/M e)->uE e) (nums: ∀e f:Ev,(e=x\/M e)->(f=x\/M f)->e.num=f.num->e.ix=f.ix):fN ⟨s,H1.take n,W1⟩:=by
 refine aNV so (fun e=>e=x\/M e) (by rw [st.hl];exact hn) (by rw [st.wl];exact wl) hl (by rw [st.wl];exact st.ix) st.mem st.ord ue ?_ ev nums
 intro i hi hu;rw [st.out i (un i hi hu).1];exact (un i hi hu).2
theorem fN.bd {a:aP} (ok:fN a):a.heap.length<=200/\a.where_.length<=200:=by
 have:=ok.hl;have:=ok.wl;have:=ok.so.n2
 omega
theorem fN.cells {a:aP} (ok:fN a):oS a.heap.length a.heap a.where_:=by
 have:=ok.bd
 refine ⟨ai _,by omega,fun w hw=>?_⟩
 obtain ⟨b1,b2,b3,b4,b5⟩:=ok.back hw;exact ⟨ok.ev w hw,b1,by rw [ok.wl];exact b2⟩
theorem fN.inj {a:aP} (ok:fN a) {v w:Nat} (hv:v<a.heap.length) (hw:w<a.heap.length) (h:Ev.ix a.heap[v]! =Ev.ix a.heap[w]!):v=w:=by
 have h1:=(ok.back hv).2.2.2.2;have h2:=(ok.back hw).2.2.2.2
 have:Ev.n a.heap[v]! =Ev.n a.heap[w]!:=by show (Ev.ix a.heap[v]!).toNat=(Ev.ix a.heap[w]!).toNat;rw [h]
 rw [this] at h1;omega
theorem fN.grand {a:aP} (ok:fN a) {i k:Nat} (i0:0<i) (k0:0<k) (hk:k<a.heap.length) (hp:(k-1) / 2=i): ¬eC a.heap[k]! a.heap[(i-1) / 2]!:=by
 have h1:=ok.ord k k0 hk;rw [hp] at h1;exact CC (ok.ev _ (by omega)).den (ok.ev _ (by omega)).den (ok.ev _ hk).den (ok.ord i i0 (by omega)) h1
theorem fN.live {a:aP} (ok:fN a) {h:Int×Int} (lv:AV a.slots h): ∃i,i<a.heap.length/\a.where_[h.1.toNat]! =(i:Int)/\(a.heap[i]!).2.2.2=h:=by
 obtain ⟨l1,l2,l3,l4⟩:=lv;obtain ⟨f1,f2,f3,f4⟩:=ok.fwd h.1.toNat (by omega) l3
 refine ⟨(a.where_[h.1.toNat]!).toNat,by omega,by omega,?_⟩
 have e1:(a.heap[(a.where_[h.1.toNat]!).toNat]!).2.2.2.1=h.1:=by
  have:Ev.ix a.heap[(a.where_[h.1.toNat]!).toNat]! =(h.1.toNat:Int):=f3
  have h2:Ev.ix a.heap[(a.where_[h.1.toNat]!).toNat]! =(a.heap[(a.where_[h.1.toNat]!).toNat]!).2.2.2.1:=rfl;omega
 exact au e1 (by rw [f4,l4])
theorem fN.handle {a:aP} (ok:fN a) {i:Nat} (hi:i<a.heap.length):AV a.slots (a.heap[i]!).2.2.2/\a.where_[((a.heap[i]!).2.2.2.1).toNat]! =(i:Int):=by
 obtain ⟨b1,b2,b3,b4,b5⟩:=ok.back hi;exact ⟨⟨b1,b2,b3,b4⟩,b5⟩
theorem fN.used_ev {a:aP} (ok:fN a) {i:Nat} (hi:i<a.slots.uses.length) (hu:a.slots.used[i]! =true): ∃w,w<a.heap.length/\Ev.ix a.heap[w]! =i/\(a.heap[w]!).2.2.2.2=a.slots.uses[i]!:=by
 obtain ⟨f1,f2,f3,f4⟩:=ok.fwd i hi hu;exact ⟨(a.where_[i]!).toNat,by omega,f3,f4⟩
theorem fN.no_ev {a:aP} (ok:fN a) {i:Nat} (hu:a.slots.used[i]! =false) {w:Nat} (hw:w<a.heap.length):Ev.n a.heap[w]!≠i:=by
 intro h
 have:=(ok.back hw).2.2.1
 rw [h,hu] at this;cases this
theorem fN.nums {a:aP} (ok:fN a) {v w:Nat} (hv:v<a.heap.length) (hw:w<a.heap.length) (h:Ev.num a.heap[v]! =Ev.num a.heap[w]!):v=w:=by
 rcases bj v w with h1|h1|h1
 · exact absurd h (ok.nd v w h1 hw)
 · exact h1
 exact absurd h.symm (ok.nd w v h1 hv)
theorem set_same {α:Type} [Inhabited α] {l:List α} {k:Nat} {v:α} (h:l[k]! =v):l.set k v=l:=by
 by_cases hk:k<l.length
 · apply wH (by rw [ac])
   intro i hi;rw [bF];split
   · rename_i e;rw [e.1];exact h.symm
   rfl
 exact bk (by omega)
def uF (x:Ev) (t:Int×Int):Ev:=(t.1,t.2,x.2.2)
noncomputable def lO (a:aP) (i:Nat) (t:Int×Int):aP:=⟨a.slots,(cR a.heap.length (uF a.heap[i]! t) i a.heap a.where_).1,(cR a.heap.length (uF a.heap[i]! t) i a.heap a.where_).2⟩
theorem QC {a:aP} (ok:fN a) {i:Nat} (hi:i<a.heap.length) {t:Int×Int} (ht:bQ t) (h64:oA t):uE (uF a.heap[i]! t):=by
 have:=ok.ev i hi
 exact ⟨ht,h64,this.2.2.1,this.2.2.2⟩
theorem QD {a:aP} (ok:fN a) {i:Nat} (hi:i<a.heap.length) (t:Int×Int):IV a.heap.length (uF a.heap[i]! t) (fun e=> ∃w,w<a.heap.length/\w≠i/\a.heap[w]! =e) a.heap a.where_ i:=by
 obtain ⟨b1,b2,b3,b4,b5⟩:=ok.back hi;refine ⟨hi,ai _,fun w hw hwi=>?_,b1,by rw [ok.wl];exact b2,fun e=>bo⟩
 obtain ⟨c1,c2,c3,c4,c5⟩:=ok.back hw;exact ⟨c1,by rw [ok.wl];exact c2,c5,fun h=>hwi (ok.inj hw hi h)⟩
theorem TG {a:aP} (ok:fN a) (i:Nat):I6 a.heap.length a.heap i:=
 ⟨fun w hw=>(ok.ev w hw).den,fun k k0 hk _ _=>ok.ord k k0 hk,fun i0 _k k0 hk hp=>ok.grand i0 k0 hk hp⟩
theorem pV {a:aP} (ok:fN a) {i:Nat} (hi:i<a.heap.length) {t:Int×Int} (ht:bQ t):
 GS a.heap.length (uF a.heap[i]! t) (fun e=> ∃w,w<a.heap.length/\w≠i/\a.heap[w]! =e) (fun k=>k≠Ev.n (uF a.heap[i]! t)/\ ∀w,w<a.heap.length->w≠i->Ev.n a.heap[w]!≠k) a.heap a.where_ (lO a i t).heap (lO a i t).where_:=
 F0s (x:=uF a.heap[i]! t) ht.1 (QD ok hi t) (TG ok i)
theorem L2 {a:aP} (ok:fN a) {i:Nat} (hi:i<a.heap.length) {t:Int×Int} (ht:bQ t):(lO a i t).heap.length=a.heap.length/\(lO a i t).where_.length=a.where_.length:=
 ⟨(pV ok hi ht).hl,(pV ok hi ht).wl⟩
theorem aDJ {a:aP} (ok:fN a) {i:Nat} (hi:i<a.heap.length) {t:Int×Int} (ht:bQ t) (e:Ev):e∈(lO a i t).heap↔(e=uF a.heap[i]! t\/(e∈a.heap/\e≠a.heap[i]!)):=by
 have st:=pV ok hi ht;have h1:e∈(lO a i t).heap↔ ∃w,w<a.heap.length/\((lO a i t).heap)[w]! =e:=by
  rw [aW,(L2 ok hi ht).1]
 rw [h1];refine (st.mem e).trans ?_;constructor
 · rintro (h|⟨w,hw,hwi,rfl⟩)
   · exact .inl h
   exact .inr ⟨bL hw,fun h=>hwi (ok.inj hw hi (by rw [h]))⟩
 rintro (h|⟨h,hne⟩)
 · exact .inl h
 obtain ⟨w,hw,rfl⟩:=aW.1 h
 exact .inr ⟨w,hw,fun h=>hne (by rw [h]),rfl⟩
theorem aFR {a:aP} (ok:fN a) {i:Nat} (hi:i<a.heap.length) {t:Int×Int} (ht:bQ t) (h64:oA t):fN (lO a i t):=by
 have st:=pV ok hi ht;have len:=(L2 ok hi ht).1;have hx:Ev.ix (uF a.heap[i]! t)=Ev.ix a.heap[i]!:=rfl;have key:=BI ok.so st (ai _) ok.wl ok.hl (fun j hj hu=>by
  obtain ⟨w,hw,e1,e2⟩:=ok.used_ev hj hu
  by_cases e:w=i
  · subst e;exact ⟨uF a.heap[w]! t,.inl rfl,e1,e2⟩
  · exact ⟨a.heap[w]!,.inr ⟨w,hw,e,rfl⟩,e1,e2⟩) (fun j hj hu=>⟨⟨(ok.no_ev hu hi).symm,fun w hw _=>ok.no_ev hu hw⟩,ok.un j hj hu⟩) (by
  rintro e (rfl|⟨w,hw,_,rfl⟩)
  · exact QC ok hi ht h64
  · exact ok.ev w hw) (by
  rintro e f (rfl|⟨v,hv,hvi,rfl⟩) (rfl|⟨w,hw,hwi,rfl⟩) he
  · rfl
  · exact absurd (ok.nums hi hw he).symm hwi
  · exact absurd (ok.nums hv hi he) hvi
  rw [ok.nums hv hw he])
 have:(lO a i t).heap.take a.heap.length=(lO a i t).heap:=aq (by rw [len];exact ai _)
 show fN ⟨a.slots,(lO a i t).heap,(lO a i t).where_⟩;rw [<- this];exact key
theorem ZA {a:aP} (ok:fN a) (fit:FU a) {h:Int×Int} {i:Nat} (hi:i<a.heap.length) (hh:(a.heap[i]!).2.2.2=h):rX a h=some ((i:Int),0):=by
 obtain ⟨lv,wv⟩:=ok.handle hi;rw [hh] at lv;unfold rX;rw [kL a fit,if_pos ok];simp only [aB,show ((0:Int) !=0)=false from rfl,cond_false,M0 ok.so,aH lv,ae]
 have:=lv.2.1;have:=lv.1;have:=ok.wl
 have e:(a.heap[i]!).2.2.2.1=h.1:=by rw [hh]
 rw [eG (l:=a.where_) lv.1 (by omega),<- e,wv]
 rfl
theorem NF {a:aP} (ok:fN a) (fit:FU a) {h t:Int×Int} {i:Nat} (hi:i<a.heap.length) (hh:(a.heap[i]!).2.2.2=h) (ht:bQ t) (h64:oA t):xO a h t=some (lO a i t,0):=by
 have bd:=ok.bd;obtain ⟨b1,b2,b3,b4,b5⟩:=ok.back hi;unfold xO;rw [kL a fit,if_pos ok,dP h64,if_pos ht];have pl:=ZA ok fit hi hh;have se:=P6 (u:=a.slots.uses) (us:=a.slots.used) (fr:=a.slots.free) (QC ok hi ht h64) (show 0<=Ev.ix (uF a.heap[i]! t) from b1) ok.cells rfl hi (show Ev.ix (uF a.heap[i]! t)<a.where_.length by rw [ok.wl];exact b2)
 have se':fQ (a.slots.uses,a.slots.used,a.slots.free,(i:Int),t.1,t.2,(a.heap[i]!).2.2.1,(a.heap[i]!).2.2.2.1,(a.heap[i]!).2.2.2.2,a.heap,a.where_)=some (cR a.heap.length (uF a.heap[i]! t) i a.heap a.where_):=se
 simp only [aB,gt_iff_lt,cd,if_false,show ((0:Int) !=0)=false from rfl,cond_false,pl,aY (show a.heap.length<=1048576 by omega),aY (show a.where_.length<=1048576 by omega),aC a.heap i hi,se']
 rfl
theorem vB {a:aP} (ok:fN a):qK a=some a:=by
 have bd:=ok.bd;unfold qK;simp only [BF ok.so,aB,aY (show a.heap.length<=1048576 by omega),aY (show a.where_.length<=1048576 by omega)]
theorem L3 {a:aP} (ok:fN a) {h t:Int×Int} {i:Nat} (hi:i<a.heap.length) (hh:(a.heap[i]!).2.2.2=h) (ht:bQ t) (h64:oA t):BC a h t=some (lO a i t):=by
 have bd:=ok.bd;obtain ⟨b1,b2,b3,b4,b5⟩:=ok.back hi;obtain ⟨lv,wv⟩:=ok.handle hi;have hx:=QC ok hi ht h64;have x1:Ev.ix (uF a.heap[i]! t)<a.where_.length:=by rw [ok.wl];exact b2
 have st:=pV ok hi ht;obtain ⟨j,H1,W1,e1,e3,e4,e5,e6,e7,e8,e9,e10⟩:=NS (x:=uF a.heap[i]! t) ht.1 i a.heap a.where_ (QD ok hi t) (TG ok i);have w1:a.where_.set (Ev.n (uF a.heap[i]! t)) (i:Int)=a.where_:=set_same b5;unfold BC;rw [vB ok];have g1:aL a.where_ h.1=some (i:Int):=by
  have e:(a.heap[i]!).2.2.2.1=h.1:=by rw [hh]
  rw [eG (l:=a.where_) (i:=h.1) (by rw [<- e];exact b1) (by rw [<- e,ok.wl];exact b2),<- e,wv]
 have u1:yZ ((i:Int),a.slots.uses,a.slots.used,a.slots.free,a.heap.set i (uF a.heap[i]! t),a.where_)=some ((j:Int),a.slots.uses,a.slots.used,a.slots.free,H1.set j (uF a.heap[i]! t),W1.set (Ev.n (uF a.heap[i]! t)) (j:Int)):=by
  unfold yZ
  have:=aFN (c0:=((i:Int),a.slots.uses,a.slots.used,a.slots.free,a.heap.set i (uF a.heap[i]! t),a.where_)) (u:=a.slots.uses) (us:=a.slots.used) (fr:=a.slots.free) hx b1 rfl rfl rfl i a.heap a.where_ ok.cells hi rfl x1 ac rfl
  rw [w1,e1] at this;exact this
 have cells1:oS a.heap.length H1 W1:=by
  refine ⟨by rw [e5];exact ai _,by omega,fun w hw=>?_⟩
  exact ⟨(FT ok.cells hi e1 w hw).1,(FT ok.cells hi e1 w hw).2.1,by rw [e6];exact (FT ok.cells hi e1 w hw).2.2⟩
 have d1:tZ ((j:Int),a.slots.uses,a.slots.used,a.slots.free,H1.set j (uF a.heap[i]! t),W1.set (Ev.n (uF a.heap[i]! t)) (j:Int))=some (a.slots.uses,a.slots.used,a.slots.free,(cR a.heap.length (uF a.heap[i]! t) i a.heap a.where_).1,(cR a.heap.length (uF a.heap[i]! t) i a.heap a.where_).2):=by
  unfold tZ
  have:=Y6 (c0:=((j:Int),a.slots.uses,a.slots.used,a.slots.free,H1.set j (uF a.heap[i]! t),W1.set (Ev.n (uF a.heap[i]! t)) (j:Int))) (n:=a.heap.length) (u:=a.slots.uses) (us:=a.slots.used) (fr:=a.slots.free) hx b1 rfl rfl rfl a.heap.length j H1 W1 (by omega) cells1 e3.lt e5 (by rw [e6];exact x1) ac ac
  rw [this];unfold cR;rw [e1]
 have s1:cL a.heap (i:Int) (t.1,t.2,(a.heap[i]!).2.2)=a.heap.set i (uF a.heap[i]! t):=rfl;simp only [aB,g1,aC a.heap i hi,s1,u1,d1];rfl
theorem TH (H:List Ev) (n:Int) (hl:H.length<=1000000):dD H n=some (decide (∃w,w<H.length/\(H[w]!).2.2.1=n)):=by
 unfold dD fK;have key:=mR (body:=dC) (fun i=>(H,n,(H.length:Int),(i:Int))) H.length (fun i=>(H[i]!).2.2.1=n) (fun i=>(i:Int)) (e:= -1) (fun i hi=>by
  have e1:decide ((i:Int)<(H.length:Int))=true:=aH (by omega)
  unfold dC BA;simp only [e1,cond_true,aC H i hi,aB,aT (show i<1000000000 by omega)]
  constructor
  · intro h;rw [eH h];rfl
  · intro h;rw [eM h];rfl) (by
  unfold dC
  have:decide ((H.length:Int)<(H.length:Int))=false:=dec_f (by omega)
  simp only [this,cond_false])
 rw [aE]
 by_cases hx: ∃w,w<H.length/\(H[w]!).2.2.1=n
 · obtain ⟨k,h1,h2,h3⟩:=KA hx
   have:=key.1 k h1 h2 h3
   rw [show ((0:Nat):Int)=0 from rfl] at this;rw [this,aH hx];simp only [aB,aH (show (0:Int)<=(k:Int) by omega)]
 have:=key.2 fun i hi he=>hx ⟨i,hi,he⟩
 rw [show ((0:Nat):Int)=0 from rfl] at this;rw [this,dec_f hx];rfl
noncomputable def dV (a:aP) (t:Int×Int) (n:Int):Ev:=(t.1,t.2,n,nA a.slots)
noncomputable def nB (a:aP) (t:Int×Int) (n:Int):aP:=
 ⟨iL a.slots,(cR (a.heap.length+1) (dV a t n) a.heap.length (a.heap++[dV a t n]) a.where_).1,(cR (a.heap.length+1) (dV a t n) a.heap.length (a.heap++[dV a t n]) a.where_).2⟩
section
variable {a : aP} (ok : fN a) (op : EF a.slots) {t : Int × Int} (ht : bQ t) (h64 : oA t) {n : Int} (n0 : 0 <= n) (n1 : n <= 1000000)
include ok op
theorem KG:Ev.ix (dV a t n)=(dM a.slots:Int)/\dM a.slots<a.slots.uses.length/\a.slots.used[dM a.slots]! =false/\a.slots.free.length=(iL a.slots).free.length+1:=by
 obtain ⟨h1,h2,h3⟩:=GR ok.so op.1;refine ⟨rfl,h1,?_,?_⟩
 · have:=ok.so.uf (dM a.slots) h1
   cases h:a.slots.used[dM a.slots]! with
   |false=>rfl
   |true=>exact absurd h3 (this.1 h)
 show _=(a.slots.free.take (a.slots.free.length-1)).length+1
 have:=op.1
 rw [am];omega
theorem TI:IV (a.heap.length+1) (dV a t n) (fun e=>e∈a.heap) (a.heap++[dV a t n]) a.where_ a.heap.length:=by
 obtain ⟨h1,h2,h3,h4⟩:=KG (t:=t) (n:=n) ok op;have cell: ∀w,w<a.heap.length->(a.heap++[dV a t n])[w]! =a.heap[w]!:=fun w hw=>iE hw
 refine ⟨by omega,by simp,fun w hw hwi=>?_,by rw [h1];omega,by rw [h1,ok.wl];omega,fun e=>?_⟩
 · have hw':w<a.heap.length:=by omega
   rw [cell w hw'];obtain ⟨c1,c2,c3,c4,c5⟩:=ok.back hw';refine ⟨c1,by rw [ok.wl];exact c2,c5,fun h=>?_⟩
   rw [h1] at h
   have:Ev.n a.heap[w]! =dM a.slots:=by show (Ev.ix a.heap[w]!).toNat=_;omega
   exact ok.no_ev h3 hw' this
 constructor
 · rintro ⟨w,hw,hwi,rfl⟩
   rw [cell w (by omega)]
   exact bL (by omega)
 intro h
 obtain ⟨w,hw,rfl⟩:=aW.1 h;exact ⟨w,by omega,by omega,cell w hw⟩
theorem ZB (ht:bQ t):I6 (a.heap.length+1) (a.heap++[dV a t n]) a.heap.length:=by
 have _:=op;have cell: ∀w,w<a.heap.length->(a.heap++[dV a t n])[w]! =a.heap[w]!:=fun w hw=>iE hw
 refine ⟨fun w hw=>?_,fun k k0 hk k1 k2=>?_,fun i0 k k0 hk hp=>by omega⟩
 · by_cases h:w<a.heap.length
   · rw [cell w h];exact (ok.ev w h).den
   have:w=a.heap.length:=by omega
   subst this;rw [kE (ai _),bq];exact ht.1
 rw [cell k (by omega),cell _ (by omega)]
 exact ok.ord k k0 (by omega)
theorem DP (ht:bQ t):GS (a.heap.length+1) (dV a t n) (fun e=>e∈a.heap) (fun k=>k≠Ev.n (dV a t n)/\ ∀w,w<a.heap.length+1->w≠a.heap.length->Ev.n (a.heap++[dV a t n])[w]!≠k) (a.heap++[dV a t n]) a.where_ (nB a t n).heap (nB a t n).where_:=
 F0s (x:=dV a t n) ht.1 (TI ok op) (ZB ok op ht)
theorem KH (ht:bQ t):(nB a t n).heap.length=a.heap.length+1:=by
 have:=(DP (n:=n) ok op ht).hl
 rw [this];simp
theorem ZC (ht:bQ t) (e:Ev):e∈(nB a t n).heap↔(e=dV a t n\/e∈a.heap):=by
 have st:=DP (n:=n) ok op ht;rw [aW,KH ok op ht];exact st.mem e
theorem VQ (ht:bQ t) (h64:oA t) (n0:0<=n) (n1:n<=1000000):uE (dV a t n):=by
 have _:=ok;have _:=op;exact ⟨ht,h64,n0,n1⟩
theorem aCD (ht:bQ t) (h64:oA t) (n0:0<=n) (n1:n<=1000000) (nn: ∀e∈a.heap,Ev.num e≠n):fN (nB a t n):=by
 have st:=DP (n:=n) ok op ht;have len:=KH (n:=n) ok op ht;obtain ⟨h1,h2,h3,h4⟩:=KG (t:=t) (n:=n) ok op;have hu:=ok.so.ul;have ul:(iL a.slots).uses.length=a.slots.uses.length:=ac;have key:=BI (aFL ok.so op) st (by simp) (by rw [ul];exact ok.wl) (by rw [ul];have:=ok.hl;omega) (fun j hj hu'=>by
  rw [ul] at hj;change (a.slots.used.set (dM a.slots) true)[j]! =true at hu';rw [bF] at hu'
  show∃e:Ev,_/\_/\_=(a.slots.uses.set (dM a.slots) (a.slots.uses[dM a.slots]!+1))[j]!
  rw [bF]
  by_cases e:j=dM a.slots
  · rw [if_pos ⟨e,h2⟩]
    exact ⟨dV a t n,.inl rfl,by rw [h1,e],rfl⟩
  · rw [if_neg (fun k=>e k.1)]
    rw [if_neg (fun k=>e k.1)] at hu'
    obtain ⟨w,hw,e1,e2⟩:=ok.used_ev hj hu';exact ⟨a.heap[w]!,.inr (bL hw),e1,e2⟩) (fun j hj hu'=>by
  rw [ul] at hj;change (a.slots.used.set (dM a.slots) true)[j]! =false at hu';rw [bF] at hu'
  by_cases e:j=dM a.slots
  · rw [if_pos ⟨e,by omega⟩] at hu';cases hu'
  · rw [if_neg (fun k=>e k.1)] at hu'
    refine ⟨⟨?_,fun w hw hwi=>?_⟩,ok.un j hj hu'⟩
    · show j≠(Ev.ix (dV a t n)).toNat
      omega
    rw [iE (by omega)]
    exact ok.no_ev hu' (by omega)) (by
  rintro e (rfl|h)
  · exact VQ ok op ht h64 n0 n1
  · obtain ⟨w,hw,rfl⟩:=aW.1 h
    exact ok.ev w hw) (by
  rintro e f (rfl|he) (rfl|hf) hn
  · rfl
  · exact absurd hn.symm (nn f hf)
  · exact absurd hn (nn e he)
  obtain ⟨v,hv,rfl⟩:=aW.1 he
  obtain ⟨w,hw,rfl⟩:=aW.1 hf;rw [ok.nums hv hw hn])
 have:(nB a t n).heap.take (a.heap.length+1)=(nB a t n).heap:=aq (by rw [len];exact ai _)
 show fN ⟨iL a.slots,(nB a t n).heap,(nB a t n).where_⟩;rw [<- this];exact key
theorem QE (ht:bQ t) (h64:oA t) (n0:0<=n) (n1:n<=1000000):oS (a.heap.length+1) (a.heap++[dV a t n]) a.where_:=by
 have bd:=ok.bd;obtain ⟨h1,h2,h3,h4⟩:=KG (t:=t) (n:=n) ok op;refine ⟨by simp,by simp;omega,fun w hw=>?_⟩
 by_cases h:w<a.heap.length
 · rw [iE h];exact ok.cells.ev w h
 have:w=a.heap.length:=by omega
 subst this;rw [kE (ai _),bq];exact ⟨VQ ok op ht h64 n0 n1,by show 0<=Ev.ix (dV a t n);omega,by show Ev.ix (dV a t n)<_;rw [ok.wl];omega⟩
theorem CD (fit:FU a) (ht:bQ t) (h64:oA t) (n0:0<=n) (n1:n<=1000000) (nn: ∀e∈a.heap,Ev.num e≠n):mO a t n=some (nB a t n,nA a.slots,0):=by
 have bd:=ok.bd;obtain ⟨h1,h2,h3,h4⟩:=KG (t:=t) (n:=n) ok op;have hn: ¬ ∃w,w<a.heap.length/\(a.heap[w]!).2.2.1=n:=by
  rintro ⟨w,hw,e⟩;exact nn _ (bL hw) e
 unfold mO;rw [kL a fit,if_pos ok,dP h64,if_pos ht,TH _ _ (by omega),dec_f hn,KD ok.so,if_pos op]
 have se:=P6 (u:=(iL a.slots).uses) (us:=(iL a.slots).used) (fr:=(iL a.slots).free) (VQ ok op ht h64 n0 n1) (show 0<=Ev.ix (dV a t n) by omega) (QE ok op ht h64 n0 n1) (by simp) (show a.heap.length<a.heap.length+1 by omega) (show Ev.ix (dV a t n)<a.where_.length by rw [ok.wl];omega)
 have e1:aA .i64 (((a.heap++[dV a t n]).length:Int) -1)=(a.heap.length:Int):=by rw [wi,bi];simp;omega
 have ap:bZ a.heap [(t.1,t.2,n,nA a.slots)]=some (a.heap++[dV a t n]):=fE (by simp;omega)
 have se':fQ ((iL a.slots).uses,(iL a.slots).used,(iL a.slots).free,(a.heap.length:Int),t.1,t.2,n,(nA a.slots).1,(nA a.slots).2,a.heap++[dV a t n],a.where_)=some (cR (a.heap.length+1) (dV a t n) a.heap.length (a.heap++[dV a t n]) a.where_):=se
 simp only [aB,gt_iff_lt,cd,if_false,show ((0:Int) !=0)=false from rfl,cond_false,dec_f (show¬n<0 by omega),dec_f (show¬1000000<n by omega),aY (show a.heap.length<=1048576 by omega),aY (show a.where_.length<=1048576 by omega),ap,aE,e1,se']
 rfl
theorem EG (ht:bQ t) (h64:oA t) (n0:0<=n) (n1:n<=1000000):gB a t n=some (nB a t n,nA a.slots):=by
 have bd:=ok.bd;obtain ⟨h1,h2,h3,h4⟩:=KG (t:=t) (n:=n) ok op;unfold gB;rw [vB ok];have e1:aA .i64 (((a.heap++[dV a t n]).length:Int) -1)=(a.heap.length:Int):=by rw [wi,bi];simp;omega
 have ap:bZ a.heap [(t.1,t.2,n,nA a.slots)]=some (a.heap++[dV a t n]):=fE (by simp;omega)
 have hx:=VQ (n:=n) ok op ht h64 n0 n1;have last:cR (a.heap.length+1) (dV a t n) a.heap.length (a.heap++[dV a t n]) a.where_=_:=Y4 (x:=dV a t n) ht.1 (TI ok op) (ZB ok op ht) (fun k k0 hk hp=>by omega)
 have hs:(a.heap++[dV a t n]).set a.heap.length (dV a t n)=a.heap++[dV a t n]:=set_same (by rw [kE (ai _),bq];rfl)
 have ws:cL a.where_ (nA a.slots).1 (a.heap.length:Int)=a.where_.set (Ev.n (dV a t n)) (a.heap.length:Int):=rfl
 have u1:zA ((iL a.slots).uses,(iL a.slots).used,(iL a.slots).free,(a.heap.length:Int),a.heap++[dV a t n],a.where_.set (Ev.n (dV a t n)) (a.heap.length:Int))=some (((kF (dV a t n) a.heap.length (a.heap++[dV a t n]) a.where_).1:Int),(kF (dV a t n) a.heap.length (a.heap++[dV a t n]) a.where_).2.1.set (kF (dV a t n) a.heap.length (a.heap++[dV a t n]) a.where_).1 (dV a t n),(kF (dV a t n) a.heap.length (a.heap++[dV a t n]) a.where_).2.2.set (Ev.n (dV a t n)) ((kF (dV a t n) a.heap.length (a.heap++[dV a t n]) a.where_).1:Int)):=by
  unfold zA
  have:=aFP (c0:=((iL a.slots).uses,(iL a.slots).used,(iL a.slots).free,(a.heap.length:Int),a.heap++[dV a t n],a.where_.set (Ev.n (dV a t n)) (a.heap.length:Int))) (u:=(iL a.slots).uses) (us:=(iL a.slots).used) (fr:=(iL a.slots).free) hx (show 0<=Ev.ix (dV a t n) by omega) a.heap.length (a.heap++[dV a t n]) a.where_ (QE ok op ht h64 n0 n1) (by omega) (by simp) (by rw [ok.wl];omega) rfl ac
  rw [hs] at this;exact this
 have g1:aL a.where_ (nA a.slots).1=some a.where_[dM a.slots]!:=aC a.where_ (dM a.slots) (by rw [ok.wl];exact h2)
 simp only [aB,P2 ok.so op,ap,g1,aE,e1,ws,u1];unfold nB;rw [last]
end
theorem CE {a:aP} (ok:fN a) (op: ¬EF a.slots) (fit:FU a) {t:Int×Int} (ht:bQ t) (h64:oA t) {n:Int} (n0:0<=n) (n1:n<=1000000) (nn: ∀e∈a.heap,Ev.num e≠n):mO a t n=some (⟨⟨[],[],[]⟩,[],[]⟩,(0,0),18):=by
 have bd:=ok.bd;have hn: ¬ ∃w,w<a.heap.length/\(a.heap[w]!).2.2.1=n:=by
  rintro ⟨w,hw,e⟩;exact nn _ (bL hw) e
 unfold mO;rw [kL a fit,if_pos ok,dP h64,if_pos ht,TH _ _ (by omega),dec_f hn,KD ok.so,if_neg op]
 simp only [aB,gt_iff_lt,cd,if_false,show ((0:Int) !=0)=false from rfl,cond_false,dec_f (show¬n<0 by omega),dec_f (show¬1000000<n by omega),show ((18:Int) !=0)=true from rfl,cond_true]
theorem AW {l:List Ev} {n i:Nat} {v:Ev}:(l.set i v).take n=(l.take n).set i v:=by
 apply List.ext_getElem?;intro j;rw [cf,cm,cm,cf,am]
 by_cases h1:j<n
 · rw [if_pos h1]
   by_cases h2:i=j
   · subst h2
     by_cases h3:i<l.length
     · rw [if_pos rfl,if_pos h3,if_pos rfl,if_pos (by omega)]
     rw [if_pos rfl,if_neg h3,if_pos rfl,if_neg (by omega)]
   rw [if_neg h2,if_neg h2,if_pos h1]
 rw [if_neg h1]
 by_cases h2:i=j
 · rw [if_pos h2,if_neg (by omega)]
 rw [if_neg h2,if_neg h1]
theorem ZD {n:Nat} {x:Ev}: ∀(i:Nat) (H:List Ev) (W:List Int),i<n->kF x i (H.take n) W=((kF x i H W).1,(kF x i H W).2.1.take n,(kF x i H W).2.2)
 |0,H,W,hi=>by rw [kF,kF]
 |i+1,H,W,hi=>by
  have e:(H.take n)[i / 2]! =H[i / 2]!:=nS (by omega)
  rw [kF,kF,e]
  by_cases h:eC x H[i / 2]!
  · rw [if_pos h,if_pos h,<- AW]
    exact ZD (i / 2) _ _ (by omega)
  rw [if_neg h,if_neg h]
termination_by i=>i
decreasing_by omega
theorem aFS {x:Ev}: ∀(i:Nat) (H:List Ev) (W:List Int),(kF x i H W).1<=i
 |0,H,W=>by rw [kF];exact ai _
 |i+1,H,W=>by
  rw [kF];split
  · exact dh (aFS (i / 2) _ _) (by omega)
  exact ai _
termination_by i=>i
decreasing_by omega
theorem QF {n:Nat} {H:List Ev} {i:Nat} (hk:2*i+1<n):jB n (H.take n) i=jB n H i:=by
 unfold jB
 by_cases h:2*i+2<n
 · rw [nS h,nS (show 2*i+1<n by omega)]
 rw [if_neg (fun k=>h k.1),if_neg (fun k=>h k.1)]
theorem ZE {n:Nat} {x:Ev} {i:Nat} {H:List Ev} {W:List Int} (h:2*i+1<n) (hl:eC H[jB n H i]! x):eI n x i H W=eI n x (jB n H i) (H.set i H[jB n H i]!) (W.set (H[jB n H i]!).n (i:Int)):=by
 rw [eI,dif_pos h,if_pos hl]
theorem DQ {n:Nat} {x:Ev} {i:Nat} {H:List Ev} {W:List Int} (h: ¬(2*i+1<n/\eC H[jB n H i]! x)):eI n x i H W=(i,H,W):=by
 rw [eI];split
 · rename_i h1;rw [if_neg (fun k=>h ⟨h1,k⟩)]
 rfl
theorem QG {n : Nat} {x : Ev} : ∀ (d i : Nat) (H : List Ev) (W : List Int), n - i <= d -> eI n x i (H.take n) W = ((eI n x i H W).1, (eI n x i H W).2.1.take n, (eI n x i H W).2.2)
  | 0, i, H, W, hd => by
    rw [DQ (fun h => by omega), DQ (fun h => by omega)]
  | d + 1, i, H, W, hd => by
    have kc := rC n H i
    by_cases h : 2 * i + 1 < n /\ eC H[jB n H i]! x
    · have e : (H.take n)[jB n (H.take n) i]! = H[jB n H i]! := by rw [QF h.1, nS (by omega)]
      rw [ZE h.1 h.2, ZE (H := H.take n) h.1 (by rw [e]; exact h.2), e, QF h.1, <- AW]
      exact QG d _ _ _ (by omega)
    have h' : ¬ (2 * i + 1 < n /\ eC (H.take n)[jB n (H.take n) i]! x) := by
      rintro ⟨k1, k2⟩
      rw [QF k1, nS (by omega)] at k2
      exact h ⟨k1, k2⟩
    rw [DQ h, DQ h']
theorem aCE {x:Ev}: ∀(i:Nat) (H:List Ev) (W:List Int),(kF x i H W).2.1.length=H.length/\(kF x i H W).2.2.length=W.length
 |0,H,W=>by rw [kF];exact ⟨rfl,rfl⟩
 |i+1,H,W=>by
  rw [kF];split
  · have:=aCE (x:=x) (i / 2) (H.set (i+1) H[i / 2]!) (W.set (H[i / 2]!).n ((i+1:Nat):Int))
    rwa [ac,ac] at this
  exact ⟨rfl,rfl⟩
termination_by i=>i
decreasing_by omega
theorem KI {n:Nat} {x:Ev} {i:Nat} {H:List Ev} {W:List Int} (hi:i<n):cR n x i (H.take n) W=((cR n x i H W).1.take n,(cR n x i H W).2):=by
 unfold cR;rw [ZD i H W hi];dsimp only;rw [QG n _ _ _ (by omega)]
 dsimp only;rw [AW]
noncomputable def fF (a:aP) (i:Nat):aP:=
 if i<a.heap.length-1 then ⟨gJ a.slots (a.heap[i]!).2.2.2,(cR (a.heap.length-1) a.heap[a.heap.length-1]! i a.heap (a.where_.set (Ev.n a.heap[i]!) (-1))).1.take (a.heap.length-1),(cR (a.heap.length-1) a.heap[a.heap.length-1]! i a.heap (a.where_.set (Ev.n a.heap[i]!) (-1))).2⟩
 else ⟨gJ a.slots (a.heap[i]!).2.2.2,a.heap.take (a.heap.length-1),a.where_.set (Ev.n a.heap[i]!) (-1)⟩
section
variable {a : aP} (ok : fN a) {i : Nat} (hi : i < a.heap.length)
include ok hi
theorem CF {w:Nat} (hw:w<a.heap.length) (hne:w≠i):Ev.n a.heap[w]!≠Ev.n a.heap[i]!:=by
 have h1:=(ok.back hw).1;have h2:=(ok.back hi).1;exact aV4 h1 h2 fun h=>hne (ok.inj hw hi h)
theorem TJ:oS (a.heap.length-1) a.heap (a.where_.set (Ev.n a.heap[i]!) (-1)):=by
 have c:=ok.cells;refine ⟨by omega,c.hb,fun w hw=>?_⟩
 rw [ac];exact c.ev w (by omega)
theorem aFT (hlt:i<a.heap.length-1):IV (a.heap.length-1) a.heap[a.heap.length-1]! (fun e=> ∃w,w<a.heap.length-1/\w≠i/\a.heap[w]! =e) a.heap (a.where_.set (Ev.n a.heap[i]!) (-1)) i:=by
 obtain ⟨b1,b2,b3,b4,b5⟩:=ok.back (show a.heap.length-1<a.heap.length by omega)
 refine ⟨hlt,by omega,fun w hw hwi=>?_,b1,by rw [ac,ok.wl];exact b2,fun e=>bo⟩
 obtain ⟨c1,c2,c3,c4,c5⟩:=ok.back (show w<a.heap.length by omega)
 refine ⟨c1,by rw [ac,ok.wl];exact c2,?_,fun h=>?_⟩
 · rw [bF,if_neg (fun h=>CF ok hi (show w<a.heap.length by omega) hwi h.1)]
   exact c5
 have:=ok.inj (show w<a.heap.length by omega) (show a.heap.length-1<a.heap.length by omega) h
 omega
theorem aM8:I6 (a.heap.length-1) a.heap i:=
 ⟨fun w hw=>(ok.ev w (by omega)).den,fun k k0 hk _ _=>ok.ord k k0 (by omega),fun i0 k k0 hk hp=>ok.grand i0 k0 (by omega) hp⟩
theorem M1 (hlt:i<a.heap.length-1):
 GS (a.heap.length-1) a.heap[a.heap.length-1]! (fun e=> ∃w,w<a.heap.length-1/\w≠i/\a.heap[w]! =e) (fun k=>k≠Ev.n a.heap[a.heap.length-1]!/\ ∀w,w<a.heap.length-1->w≠i->Ev.n a.heap[w]!≠k) a.heap (a.where_.set (Ev.n a.heap[i]!) (-1))
  (cR (a.heap.length-1) a.heap[a.heap.length-1]! i a.heap (a.where_.set (Ev.n a.heap[i]!) (-1))).1 (cR (a.heap.length-1) a.heap[a.heap.length-1]! i a.heap (a.where_.set (Ev.n a.heap[i]!) (-1))).2:=
 F0s (ok.ev (a.heap.length-1) (by omega)).den (aFT ok hi hlt) (aM8 ok hi)
theorem TK:fS (gJ a.slots (a.heap[i]!).2.2.2):=aFK ok.so (ok.handle hi).1
theorem FW {j:Nat} (hj:j<a.slots.uses.length):(gJ a.slots (a.heap[i]!).2.2.2).used[j]! =if j=Ev.n a.heap[i]! then false else a.slots.used[j]!:=by
 have _:=hi;show (a.slots.used.set (Ev.n a.heap[i]!) false)[j]! =_;rw [bF]
 have:=ok.so.ul
 by_cases e:j=Ev.n a.heap[i]!
 · rw [if_pos ⟨e,by omega⟩,if_pos e]
 rw [if_neg (fun k=>e k.1),if_neg e]
theorem L4:fN (fF a i):=by
 have hb:=ok.back hi;have hl:a.heap.length-1+(gJ a.slots (a.heap[i]!).2.2.2).free.length=a.slots.uses.length:=by
  show a.heap.length-1+(a.slots.free++[_]).length=_;rw [bi]
  have:=ok.hl
  simp only [cq,cy];omega
 have un: ∀j,j<a.slots.uses.length->(gJ a.slots (a.heap[i]!).2.2.2).used[j]! =false->(a.where_.set (Ev.n a.heap[i]!) (-1))[j]! = -1:=by
  intro j hj hu;rw [FW ok hi hj] at hu;rw [bF]
  by_cases e:j=Ev.n a.heap[i]!
  · rw [if_pos ⟨e.symm▸rfl,by rw [ok.wl];omega⟩]
  rw [if_neg e] at hu
  rw [if_neg (fun k=>e k.1)]
  exact ok.un j hj hu
 unfold fF
 by_cases hlt:i<a.heap.length-1
 · rw [if_pos hlt]
   have st:=M1 ok hi hlt;refine BI (TK ok hi) st (by omega) (by rw [ac];exact ok.wl) hl (fun j hj hu=>?_) (fun j hj hu=>⟨⟨?_,fun w hw hwi=>?_⟩,un j hj hu⟩) ?_ ?_
   · change j<a.slots.uses.length at hj
     rw [FW ok hi hj] at hu
     by_cases e:j=Ev.n a.heap[i]!
     · rw [if_pos e] at hu;cases hu
     rw [if_neg e] at hu
     obtain ⟨w,hw,e1,e2⟩:=ok.used_ev hj hu;refine ⟨a.heap[w]!,?_,e1,e2⟩
     by_cases hl':w=a.heap.length-1
     · left;rw [hl']
     refine .inr ⟨w,by omega,fun h=>e ?_,rfl⟩
     rw [<- h];show j=(Ev.ix a.heap[w]!).toNat;omega
   · change j<a.slots.uses.length at hj
     rw [FW ok hi hj] at hu
     by_cases e:j=Ev.n a.heap[i]!
     · rw [e];exact (CF ok hi (by omega) (by omega)).symm
     rw [if_neg e] at hu
     exact (ok.no_ev hu (by omega)).symm
   · change j<a.slots.uses.length at hj
     rw [FW ok hi hj] at hu
     by_cases e:j=Ev.n a.heap[i]!
     · rw [e];exact CF ok hi (by omega) hwi
     rw [if_neg e] at hu
     exact ok.no_ev hu (by omega)
   · rintro e (rfl|⟨w,hw,_,rfl⟩)
     · exact ok.ev _ (by omega)
     exact ok.ev w (by omega)
   rintro e f (rfl|⟨v,hv,hvi,rfl⟩) (rfl|⟨w,hw,hwi,rfl⟩) he
   · rfl
   · rw [ok.nums (by omega) (by omega) he]
   · rw [ok.nums (by omega) (by omega) he]
   rw [ok.nums (by omega) (by omega) he]
 rw [if_neg hlt]
 have hie:i=a.heap.length-1:=by omega
 refine aNV (TK ok hi) (fun e=> ∃w,w<a.heap.length-1/\a.heap[w]! =e) (by omega) (by rw [ac];exact ok.wl) hl (fun w hw=>?_) (fun e=>bo) (fun k k0 hk=>ok.ord k k0 (by omega)) (fun j hj hu=>?_) un ?_ ?_
 · obtain ⟨c1,c2,c3,c4,c5⟩:=ok.back (show w<a.heap.length by omega)
   refine ⟨c1,by rw [ac,ok.wl];exact c2,?_⟩
   rw [bF,if_neg (fun h=>CF ok hi (show w<a.heap.length by omega) (by omega) h.1)]
   exact c5
 · change j<a.slots.uses.length at hj
   rw [FW ok hi hj] at hu
   by_cases e:j=Ev.n a.heap[i]!
   · rw [if_pos e] at hu;cases hu
   rw [if_neg e] at hu
   obtain ⟨w,hw,e1,e2⟩:=ok.used_ev hj hu;refine ⟨a.heap[w]!,⟨w,?_,rfl⟩,e1,e2⟩
   have:w≠i:=fun h=>e (by rw [<- h];show j=(Ev.ix a.heap[w]!).toNat;omega)
   omega
 · rintro e ⟨w,hw,rfl⟩
   exact ok.ev w (by omega)
 rintro e f ⟨v,hv,rfl⟩ ⟨w,hw,rfl⟩ he
 rw [ok.nums (by omega) (by omega) he]
theorem QH (e:Ev):e∈(fF a i).heap↔(e∈a.heap/\e≠a.heap[i]!):=by
 have other: ∀w,w<a.heap.length->(a.heap[w]!≠a.heap[i]!↔w≠i):=fun w hw=>⟨fun h k=>h (by rw [k]),fun h k=>h (ok.inj hw hi (by rw [k]))⟩
 unfold fF
 by_cases hlt:i<a.heap.length-1
 · rw [if_pos hlt]
   have st:=M1 ok hi hlt;show e∈(_:List Ev).take _↔_;rw [HJ (by rw [st.hl];omega)]
   refine (st.mem e).trans ?_;constructor
   · rintro (h|⟨w,hw,hwi,rfl⟩)
     · rw [h];exact ⟨bL (by omega),(other _ (by omega)).2 (by omega)⟩
     exact ⟨bL (by omega),(other _ (by omega)).2 hwi⟩
   rintro ⟨h,hne⟩
   obtain ⟨w,hw,rfl⟩:=aW.1 h
   by_cases c:w=a.heap.length-1
   · left;rw [c]
   exact .inr ⟨w,by omega,(other w hw).1 hne,rfl⟩
 rw [if_neg hlt]
 show e∈a.heap.take _↔_;rw [HJ (by omega)]
 constructor
 · rintro ⟨w,hw,rfl⟩
   exact ⟨bL (by omega),(other _ (by omega)).2 (by omega)⟩
 rintro ⟨h,hne⟩
 obtain ⟨w,hw,rfl⟩:=aW.1 h
 have:=(other w hw).1 hne
 exact ⟨w,by omega,rfl⟩
theorem L5:uS a (i:Int)=some (fF a i,a.heap[i]!,0):=by
 have bd:=ok.bd;obtain ⟨b1,b2,b3,b4,b5⟩:=ok.back hi;obtain ⟨c1,c2,c3,c4,c5⟩:=ok.back (show a.heap.length-1<a.heap.length by omega)
 unfold uS;have e1:aA .i64 ((a.heap.length:Int) -1)=((a.heap.length-1:Nat):Int):=qD (by omega) (by omega)
 have g1:aL a.where_ (a.heap[i]!).2.2.2.1=some a.where_[(a.heap[i]!).2.2.2.1.toNat]!:=eG b1 (by rw [ok.wl];exact b2)
 have ws:cL a.where_ (a.heap[i]!).2.2.2.1 (-1)=a.where_.set (Ev.n a.heap[i]!) (-1):=rfl
 simp only [aC a.heap i hi,aB,VK ok.so (ok.handle hi).1,show ((0:Int) !=0)=false from rfl,cond_false,aY (show a.heap.length<=1048576 by omega),aY (show a.where_.length<=1048576 by omega),aE,e1,aC a.heap (a.heap.length-1) (by omega),kK a.heap (a.heap.length-1) (by omega),g1,ws,af]
 unfold fF
 by_cases hlt:i<a.heap.length-1
 · rw [aH (by omega),if_pos hlt]
   have se:=aBd (cap:=a.heap.length) (u:=(gJ a.slots (a.heap[i]!).2.2.2).uses) (us:=(gJ a.slots (a.heap[i]!).2.2.2).used) (fr:=(gJ a.slots (a.heap[i]!).2.2.2).free) (ok.ev (a.heap.length-1) (by omega)) (show 0<=Ev.ix a.heap[a.heap.length-1]! from c1) (TJ ok hi) hlt (show Ev.ix a.heap[a.heap.length-1]!<_ by rw [ac,ok.wl];exact c2)
   rw [se];rfl
 rw [dec_f (by omega),if_neg hlt]
 rfl
theorem CG (fit:FU a) {h:Int×Int} (hh:(a.heap[i]!).2.2.2=h):nO a h=some (fF a i,a.heap[i]!,0):=by
 unfold nO;rw [ZA ok fit hi hh];simp only [aB,show ((0:Int) !=0)=false from rfl,cond_false,L5 ok hi]
theorem CH {h:Int×Int} (hh:(a.heap[i]!).2.2.2=h):nR a h=some (fF a i):=by
 have bd:=ok.bd;subst hh;obtain ⟨b1,b2,b3,b4,b5⟩:=ok.back hi;obtain ⟨c1,c2,c3,c4,c5⟩:=ok.back (show a.heap.length-1<a.heap.length by omega)
 unfold nR;rw [vB ok];have e1:aA .i64 ((a.heap.length:Int) -1)=((a.heap.length-1:Nat):Int):=qD (by omega) (by omega)
 have g1:aL a.where_ (a.heap[i]!).2.2.2.1=some (i:Int):=by
  rw [eG (l:=a.where_) b1 (by rw [ok.wl];exact b2)]
  exact congrArg some b5
 have gv:=P1 ok.so (ok.handle hi).1;simp only [aB,g1,aE,e1,af];unfold fF
 by_cases hlt:i<a.heap.length-1
 · rw [dL (show (i:Int)≠((a.heap.length-1:Nat):Int) by omega),if_pos hlt]
   have hne:a.heap.length-1≠i:=by omega
   have nn:Ev.n a.heap[a.heap.length-1]!≠Ev.n a.heap[i]!:=CF ok hi (by omega) hne
   have sw:=KF (n:=a.heap.length) (x:=a.heap[i]!) (u:=a.slots.uses) (us:=a.slots.used) (fr:=a.slots.free) (H:=a.heap) (W:=a.where_) hi (show a.heap.length-1<a.heap.length by omega) hne rfl b1 (by rw [ok.wl];exact b2) c1 (by rw [ok.wl];exact c2)
   rw [set_same (l:=a.heap) rfl,set_same (l:=a.where_) b5] at sw;have hs:(a.heap.set i a.heap[a.heap.length-1]!).set (a.heap.length-1) a.heap[i]! =(a.heap.set (a.heap.length-1) a.heap[i]!).set i a.heap[a.heap.length-1]!:=de _ _ (by omega)
   have ws:cL ((a.where_.set (Ev.n a.heap[a.heap.length-1]!) (i:Int)).set (Ev.n a.heap[i]!) ((a.heap.length-1:Nat):Int)) (a.heap[i]!).2.2.2.1 (-1)=(a.where_.set (Ev.n a.heap[i]!) (-1)).set (Ev.n a.heap[a.heap.length-1]!) (i:Int):=by
    show ((a.where_.set (Ev.n a.heap[a.heap.length-1]!) (i:Int)).set (Ev.n a.heap[i]!) ((a.heap.length-1:Nat):Int)).set (Ev.n a.heap[i]!) (-1)=_;rw [List.set_set,de _ _ nn]
   have g2:aL ((a.where_.set (Ev.n a.heap[a.heap.length-1]!) (i:Int)).set (Ev.n a.heap[i]!) ((a.heap.length-1:Nat):Int)) (a.heap[i]!).2.2.2.1=some _:=eG b1 (by rw [ac,ac,ok.wl];exact b2)
   have cells:oS (a.heap.length-1) (a.heap.set (a.heap.length-1) a.heap[i]!) (a.where_.set (Ev.n a.heap[i]!) (-1)):=by
    refine ⟨by rw [ac];omega,by rw [ac];omega,fun w hw=>?_⟩
    rw [bF,if_neg (by omega)]
    exact (TJ ok hi).ev w hw
   have x1:Ev.ix a.heap[a.heap.length-1]!<(a.where_.set (Ev.n a.heap[i]!) (-1)).length:=by rw [ac,ok.wl];exact c2
   have hx:=ok.ev (a.heap.length-1) (by omega)
   have gv':wF (aU.mk a.slots.uses a.slots.used a.slots.free) (a.heap[i]!).2.2.2=some (gJ a.slots (a.heap[i]!).2.2.2):=gv;have tk:(a.heap.set (a.heap.length-1) a.heap[i]!).take (a.heap.length-1)=a.heap.take (a.heap.length-1):=by rw [AW];exact bk (by rw [am];omega)
   have U:sO ((gJ a.slots (a.heap[i]!).2.2.2).uses,(gJ a.slots (a.heap[i]!).2.2.2).used,(gJ a.slots (a.heap[i]!).2.2.2).free,a.heap.length-1,((a.heap.set (a.heap.length-1) a.heap[i]!).set i a.heap[a.heap.length-1]!).length,(i:Int),(a.heap.set (a.heap.length-1) a.heap[i]!).set i a.heap[a.heap.length-1]!,(a.where_.set (Ev.n a.heap[i]!) (-1)).set (Ev.n a.heap[a.heap.length-1]!) (i:Int))=
    some (((kF a.heap[a.heap.length-1]! i (a.heap.set (a.heap.length-1) a.heap[i]!) (a.where_.set (Ev.n a.heap[i]!) (-1))).1:Int),(kF a.heap[a.heap.length-1]! i (a.heap.set (a.heap.length-1) a.heap[i]!) (a.where_.set (Ev.n a.heap[i]!) (-1))).2.1.set (kF a.heap[a.heap.length-1]! i (a.heap.set (a.heap.length-1) a.heap[i]!) (a.where_.set (Ev.n a.heap[i]!) (-1))).1 a.heap[a.heap.length-1]!,(kF a.heap[a.heap.length-1]! i (a.heap.set (a.heap.length-1) a.heap[i]!) (a.where_.set (Ev.n a.heap[i]!) (-1))).2.2.set (Ev.n a.heap[a.heap.length-1]!) ((kF a.heap[a.heap.length-1]! i (a.heap.set (a.heap.length-1) a.heap[i]!) (a.where_.set (Ev.n a.heap[i]!) (-1))).1:Int)):=by
    unfold sO
    exact aFM (n:=a.heap.length-1) (c0:=((gJ a.slots (a.heap[i]!).2.2.2).uses,(gJ a.slots (a.heap[i]!).2.2.2).used,(gJ a.slots (a.heap[i]!).2.2.2).free,a.heap.length-1,((a.heap.set (a.heap.length-1) a.heap[i]!).set i a.heap[a.heap.length-1]!).length,(i:Int),(a.heap.set (a.heap.length-1) a.heap[i]!).set i a.heap[a.heap.length-1]!,(a.where_.set (Ev.n a.heap[i]!) (-1)).set (Ev.n a.heap[a.heap.length-1]!) (i:Int))) hx c1 i _ _ cells hlt x1 ac ac
   have ul:=aFS (x:=a.heap[a.heap.length-1]!) i (a.heap.set (a.heap.length-1) a.heap[i]!) (a.where_.set (Ev.n a.heap[i]!) (-1));have un:=aCE (x:=a.heap[a.heap.length-1]!) i (a.heap.set (a.heap.length-1) a.heap[i]!) (a.where_.set (Ev.n a.heap[i]!) (-1));have uc:=fun w hw=>FT (x:=a.heap[a.heap.length-1]!) cells hlt (i:=i) rfl w hw
   have cells1:oS (a.heap.length-1) (kF a.heap[a.heap.length-1]! i (a.heap.set (a.heap.length-1) a.heap[i]!) (a.where_.set (Ev.n a.heap[i]!) (-1))).2.1 (kF a.heap[a.heap.length-1]! i (a.heap.set (a.heap.length-1) a.heap[i]!) (a.where_.set (Ev.n a.heap[i]!) (-1))).2.2:=by
    refine ⟨by rw [un.1,ac];omega,by rw [un.1,ac];omega,fun w hw=>?_⟩
    rw [un.2];exact uc w hw
   have D:pE ((gJ a.slots (a.heap[i]!).2.2.2).uses,(gJ a.slots (a.heap[i]!).2.2.2).used,(gJ a.slots (a.heap[i]!).2.2.2).free,a.heap.length-1,((a.heap.set (a.heap.length-1) a.heap[i]!).set i a.heap[a.heap.length-1]!).length,((kF a.heap[a.heap.length-1]! i (a.heap.set (a.heap.length-1) a.heap[i]!) (a.where_.set (Ev.n a.heap[i]!) (-1))).1:Int),(kF a.heap[a.heap.length-1]! i (a.heap.set (a.heap.length-1) a.heap[i]!) (a.where_.set (Ev.n a.heap[i]!) (-1))).2.1.set (kF a.heap[a.heap.length-1]! i (a.heap.set (a.heap.length-1) a.heap[i]!) (a.where_.set (Ev.n a.heap[i]!) (-1))).1 a.heap[a.heap.length-1]!,(kF a.heap[a.heap.length-1]! i (a.heap.set (a.heap.length-1) a.heap[i]!) (a.where_.set (Ev.n a.heap[i]!) (-1))).2.2.set (Ev.n a.heap[a.heap.length-1]!) ((kF a.heap[a.heap.length-1]! i (a.heap.set (a.heap.length-1) a.heap[i]!) (a.where_.set (Ev.n a.heap[i]!) (-1))).1:Int))=
    some (cR (a.heap.length-1) a.heap[a.heap.length-1]! i (a.heap.set (a.heap.length-1) a.heap[i]!) (a.where_.set (Ev.n a.heap[i]!) (-1))):=by
    unfold pE
    exact Y5 (n:=a.heap.length-1) (c0:=((gJ a.slots (a.heap[i]!).2.2.2).uses,(gJ a.slots (a.heap[i]!).2.2.2).used,(gJ a.slots (a.heap[i]!).2.2.2).free,a.heap.length-1,((a.heap.set (a.heap.length-1) a.heap[i]!).set i a.heap[a.heap.length-1]!).length,((kF a.heap[a.heap.length-1]! i (a.heap.set (a.heap.length-1) a.heap[i]!) (a.where_.set (Ev.n a.heap[i]!) (-1))).1:Int),(kF a.heap[a.heap.length-1]! i (a.heap.set (a.heap.length-1) a.heap[i]!) (a.where_.set (Ev.n a.heap[i]!) (-1))).2.1.set (kF a.heap[a.heap.length-1]! i (a.heap.set (a.heap.length-1) a.heap[i]!) (a.where_.set (Ev.n a.heap[i]!) (-1))).1 a.heap[a.heap.length-1]!,(kF a.heap[a.heap.length-1]! i (a.heap.set (a.heap.length-1) a.heap[i]!) (a.where_.set (Ev.n a.heap[i]!) (-1))).2.2.set (Ev.n a.heap[a.heap.length-1]!) ((kF a.heap[a.heap.length-1]! i (a.heap.set (a.heap.length-1) a.heap[i]!) (a.where_.set (Ev.n a.heap[i]!) (-1))).1:Int))) hx c1 a.heap.length (kF a.heap[a.heap.length-1]! i (a.heap.set (a.heap.length-1) a.heap[i]!) (a.where_.set (Ev.n a.heap[i]!) (-1))).1 (kF a.heap[a.heap.length-1]! i (a.heap.set (a.heap.length-1) a.heap[i]!) (a.where_.set (Ev.n a.heap[i]!) (-1))).2.1 (kF a.heap[a.heap.length-1]! i (a.heap.set (a.heap.length-1) a.heap[i]!) (a.where_.set (Ev.n a.heap[i]!) (-1))).2.2 (by omega) cells1 (by omega) (by rw [un.2];exact x1) ac ac
   have st:=KI (n:=(a.heap.length-1)) (x:=a.heap[a.heap.length-1]!) (i:=i) (H:=(a.heap.set (a.heap.length-1) a.heap[i]!)) (W:=(a.where_.set (Ev.n a.heap[i]!) (-1))) hlt;have st2:=KI (n:=(a.heap.length-1)) (x:=a.heap[a.heap.length-1]!) (i:=i) (H:=a.heap) (W:=(a.where_.set (Ev.n a.heap[i]!) (-1))) hlt;rw [tk,st2] at st;injection st with st1 st3
   simp only [cond_true,sw,aB,kK _ (a.heap.length-1) (show a.heap.length-1<=((a.heap.set (a.heap.length-1) a.heap[i]!).set i a.heap[a.heap.length-1]!).length by rw [ac,ac];omega),g2,gv',ws,hs,U,D,<- st1,<- st3]
 rw [bP (show (i:Int)=((a.heap.length-1:Nat):Int) by omega),if_neg hlt]
 have ws:cL a.where_ (a.heap[i]!).2.2.2.1 (-1)=a.where_.set (Ev.n a.heap[i]!) (-1):=rfl;simp only [cond_false,kK a.heap (a.heap.length-1) (by omega),aB,gv,ws]
end
abbrev wI:=Int×Int×Int
theorem fN.fit {a:aP} (ok:fN a):FU a:=by
 have bd:=ok.bd
 have:=ok.so.fl
 have:=ok.so.n2
 exact ⟨by omega,by omega,by omega,fun w hw=>(ok.ev w hw).2.1⟩
theorem GV (l:List wI) (id:Int) (hl:l.length<=1000000) (hs: ∀i j,i<j->j<l.length->(l[i]!).1<(l[j]!).1):
 (∀k,k<l.length->(l[k]!).1=id->aR l id ()=some ((k:Int),true))/\
 ((∀k,k<l.length->(l[k]!).1≠id)-> ∃m,m<=l.length/\(∀i,i<m->(l[i]!).1<id)/\(∀i,m<=i->i<l.length->id<(l[i]!).1)/\aR l id ()=some ((m:Int),false)):=by
 obtain ⟨m,m1,m2,m3⟩:=Y3 (fun i=>(l[i]!).1) id l.length hs
 have run:aR l id ()=aG aS (l,id,(l.length:Int),(m:Int),(m:Int)):=by
  unfold aR;refine LY (body:=aS) (fun lo hi=>(l,id,(l.length:Int),(lo:Int),(hi:Int))) l.length m (fun i=>(l[i]!).1<id) (fun lo hi h1 h2=>?_) m2 (fun i h1 h2 h3=>by have:=m3 i h1 h2;omega) l.length 0 l.length (by omega) (by omega) m1 (ai _)
  have e1:decide ((lo:Int)<(hi:Int))=true:=aH (by omega)
  have hh:=aM3 (a:=lo) (b:=hi) (by omega) (by omega)
  unfold aS vQ;simp only [e1,cond_true,hh,aC l ((lo+hi) / 2) (by omega),mD,aB,aT (show (lo+hi) / 2<1000000000 by omega)]
  constructor
  · intro h
    have:decide (lJ (l[(lo+hi) / 2]!).1 id<0)=true:=by
     rcases eN (l[(lo+hi) / 2]!).1 id with ⟨a,e⟩|⟨a,e⟩|⟨a,e⟩<;>rw [e]<;>first|rfl|omega
    rw [this];rfl
  intro h
  have:decide (lJ (l[(lo+hi) / 2]!).1 id<0)=false:=by
   rcases eN (l[(lo+hi) / 2]!).1 id with ⟨a,e⟩|⟨a,e⟩|⟨a,e⟩<;>rw [e]<;>first|rfl|omega
  rw [this];rfl
 have fin:aG aS (l,id,(l.length:Int),(m:Int),(m:Int))=if m<l.length/\(l[m]!).1=id then some ((m:Int),true) else some ((m:Int),false):=by
  have e1:decide ((m:Int)<(m:Int))=false:=dec_f (by omega)
  by_cases hm:m<l.length
  · have e2:decide ((m:Int)<(l.length:Int))=true:=aH (by omega)
    have body:aS (l,id,(l.length:Int),(m:Int),(m:Int))=some (.done ((m:Int),lJ (l[m]!).1 id==0)):=by
     unfold aS vQ;simp only [e1,e2,cond_true,cond_false,aC l m hm,mD,aB]
    rw [aK body];rcases eN (l[m]!).1 id with ⟨a,e⟩|⟨a,e⟩|⟨a,e⟩
    · rw [e,if_neg (fun h=>by omega)];rfl
    · rw [e,if_pos ⟨hm,a⟩];rfl
    rw [e,if_neg (fun h=>by omega)];rfl
  have e2:decide ((m:Int)<(l.length:Int))=false:=dec_f (by omega)
  have body:aS (l,id,(l.length:Int),(m:Int),(m:Int))=some (.done ((m:Int),false)):=by
   unfold aS;simp only [e1,e2,cond_false]
  rw [aK body,if_neg (fun h=>hm h.1)]
 rw [run,fin];constructor
 · intro k hk he
   have hkm:k=m:=by
    rcases bj k m with h|h|h
    · have:=m2 k h;omega
    · exact h
    have h1:=m3 m (ai _) (by omega)
    have h2:=hs m k h hk;omega
   subst hkm;rw [if_pos ⟨hk,he⟩]
 intro h
 refine ⟨m,m1,m2,fun i h1 h2=>?_,?_⟩
 · have:=m3 i h1 h2
   have:=h i h2
   omega
 rw [if_neg (fun k=>h m k.1 k.2)]
theorem aTw:dR=aR:=rfl
theorem aFU:dK=aR:=rfl
theorem aM9:dN=aR:=rfl
theorem zE {α:Type} (l:List α) (k:Nat):l.eraseIdx k=l.take k++l.drop (k+1):=List.eraseIdx_eq_take_drop_succ l k
theorem M2 (l:List wI) (k:Nat) (hk:k<l.length): ∃L:List wI,eT ((k:Int),((k+1:Nat):Int),l)=some (l.length-1,l.length,L)/\L.take (l.length-1)=l.eraseIdx k:=by
 unfold eT;have e1:decide ((0:Int)<=(k:Int))=true:=aH (by omega)
 have e2:decide ((k:Int)<=((k+1:Nat):Int))=true:=aH (by omega)
 have e3:decide (((k+1:Nat):Int)<=(l.length:Int))=true:=aH (by omega)
 have e4:decide ((l.length:Int)<=(l.length:Int))=true:=aH (by omega)
 have e5:((k:Int)==((k+1:Nat):Int))=false:=eM (by omega)
 have e6:decide ((0:Int)<=((k+1:Nat):Int))=true:=aH (by omega)
 have e7:decide ((k:Int)<=(l.length:Int))=true:=aH (by omega)
 have dr:(l.drop (k+1)).take (l.length- (k+1))=l.drop (k+1):=aq (by rw [bn];exact ai _)
 have dl:(l.drop (k+1)).length=l.length- (k+1):=bn;simp only [aE,e1,e2,e3,e4,e5,e6,e7,df,cond_true,cond_false,kK l k (by omega),aB,af,Nat.zero_add,dr,dl,ay,Bool.and_true]
 by_cases h:k+1=l.length
 · have em:(l.drop (k+1)).isEmpty=true:=by rw [cu,bg];omega
   have n1:di (l.length-k) 0=false:=by
    cases hb:di (l.length-k) 0 with
    |false=>rfl
    |true=>have:=bw hb;omega
   have n2:Nat.ble (k+(l.length-k)) l.length=true:=ba (by omega)
   have ll:(jP l k (c8 (l.length-k) ((0:Int),(0:Int),(0:Int)))).length=l.length:=by
    unfold jP;simp;omega
   simp only [em,cond_true,n1,cond_false,n2,ll,beq_self_eq_true];refine ⟨_,by rw [show k=l.length-1 by omega],?_⟩
   rw [zE,show l.length-1=k by omega]
   unfold jP;rw [az,ar (by rw [am];omega),db,dj]
   rw [bu (by omega),cz]
 have em:(l.drop (k+1)).isEmpty=false:=by
  cases hb:(l.drop (k+1)).isEmpty with
  |false=>rfl
  |true=>rw [cu,bg] at hb;omega
 have n1:Nat.ble (k+(l.length- (k+1))) l.length=true:=ba (by omega)
 have n2:decide ((0:Int)<=((k+(l.length- (k+1)):Nat):Int))=true:=aH (by omega)
 have n3:decide (((k+(l.length- (k+1)):Nat):Int)<=(l.length:Int))=true:=aH (by omega)
 have n4:di (l.length- (k+(l.length- (k+1)))) 0=false:=by
  cases hb:di (l.length- (k+(l.length- (k+1)))) 0 with
  |false=>rfl
  |true=>have:=bw hb;omega
 have l1:(jP l k (l.drop (k+1))).length=l.length:=by
  unfold jP;simp;omega
 have n5:Nat.ble (k+(l.length- (k+1))+(l.length- (k+(l.length- (k+1))))) l.length=true:=ba (by omega)
 have l2:(jP (jP l k (l.drop (k+1))) (k+(l.length- (k+1))) (c8 (l.length- (k+(l.length- (k+1)))) ((0:Int),(0:Int),(0:Int)))).length=l.length:=by
  unfold jP;simp;omega
 simp only [em,cond_false,n1,cond_true,n2,n3,df,n4,l1,n5,l2,beq_self_eq_true];refine ⟨_,by rw [show k+(l.length- (k+1))=l.length-1 by omega],?_⟩
 rw [zE]
 have:k+(l.length- (k+1))=l.length-1:=by omega
 unfold jP;rw [az,ar (by simp;omega),db,dj,az]
 rw [show (l.take k++(l.drop (k+1)++l.drop (k+(l.drop (k+1)).length)))=(l.take k++l.drop (k+1))++l.drop (k+(l.drop (k+1)).length) by rw [az]]
 rw [ar (by simp;omega),aq (by simp;omega)]
theorem aBf:mW=eT:=rfl
theorem QI {α:Type} [Inhabited α] {l:List α} {k i:Nat}:(l.eraseIdx k)[i]! =if i<k then l[i]! else l[i+1]!:=by
 rw [zE]
 by_cases hk:k<l.length
 · by_cases h:i<k
   · rw [if_pos h,iE (by rw [am];omega),nS h]
   rw [if_neg h,kE (by rw [am];omega),uB,am]
   congr 1;omega
 have e1:l.take k=l:=aq (by omega)
 have e2:l.drop (k+1)=[]:=bu (by omega)
 rw [e1,e2,cz];split
 · rfl
 rw [getElem!_neg l i (by omega),getElem!_neg l (i+1) (by omega)]
def fO (x:Int×Int):Prop:=0<=x.1/\x.1<=65535/\0<=x.2/\x.2<=65535/\x.1≠x.2
theorem HK (x:Int×Int):yO x=some (decide (fO x)):=by
 obtain ⟨a,b⟩:=x;unfold yO;dsimp only
 by_cases h1:0<=a
 · by_cases h3:0<=b
   · have e1:decide (0<=if b<a then b else a)=true:=aH (by split<;>omega)
     rw [e1]
     by_cases h2:a<=65535
     · by_cases h4:b<=65535
       · have e2:decide ((if b>a then b else a)<=65535)=true:=aH (by split<;>omega)
         rw [e2]
         by_cases h5:a=b
         · rw [bP h5,dec_f (p:=fO (a,b)) (fun h=>h.2.2.2.2 h5)];rfl
         rw [dL h5,aH (p:=fO (a,b)) ⟨h1,h2,h3,h4,h5⟩];rfl
       have e2:decide ((if b>a then b else a)<=65535)=false:=dec_f (by split<;>omega)
       rw [e2,dec_f (p:=fO (a,b)) (fun h=>h4 h.2.2.2.1)];rfl
     have e2:decide ((if b>a then b else a)<=65535)=false:=dec_f (by split<;>omega)
     rw [e2,dec_f (p:=fO (a,b)) (fun h=>h2 h.2.1)];rfl
   have e1:decide (0<=if b<a then b else a)=false:=dec_f (by split<;>omega)
   rw [e1,dec_f (p:=fO (a,b)) (fun h=>h3 h.2.2.1)];rfl
 have e1:decide (0<=if b<a then b else a)=false:=dec_f (by split<;>omega)
 rw [e1,dec_f (p:=fO (a,b)) (fun h=>h1 h.1)];rfl
theorem BJ (x:Int×Int):tO x=some (decide (fO x)):=by
 obtain ⟨a,b⟩:=x;unfold tO;dsimp only
 by_cases h1:0<=a
 · by_cases h2:a<=65535
   · by_cases h3:0<=b
     · by_cases h4:b<=65535
       · by_cases h5:a=b
         · rw [bP h5,aH h1,aH h2,aH h3,aH h4,dec_f (p:=fO (a,b)) (fun h=>h.2.2.2.2 h5)];rfl
         rw [dL h5,aH h1,aH h2,aH h3,aH h4,aH (p:=fO (a,b)) ⟨h1,h2,h3,h4,h5⟩];rfl
       rw [aH h1,aH h2,aH h3,dec_f h4,dec_f (p:=fO (a,b)) (fun h=>h4 h.2.2.2.1)];rfl
     rw [aH h1,aH h2,dec_f h3,dec_f (p:=fO (a,b)) (fun h=>h3 h.2.2.1)];rfl
   rw [aH h1,dec_f h2,dec_f (p:=fO (a,b)) (fun h=>h2 h.2.1)];rfl
 rw [dec_f h1,dec_f (p:=fO (a,b)) (fun h=>h1 h.1)];rfl
structure fL (c:bK):Prop where
 len:c.list.length<=200
 n0:0<=c.next_
 n1:c.next_<=1000000
 cv: ∀i,i<c.list.length->fO (c.list[i]!).2
 nr: ∀i,i<c.list.length->0<=(c.list[i]!).1/\(c.list[i]!).1<c.next_
 up: ∀i j,i<j->j<c.list.length->(c.list[i]!).1<(c.list[j]!).1
 nd: ∀i j,i<j->j<c.list.length->(c.list[i]!).2≠(c.list[j]!).2
def FX (l:List wI) (i:Nat):Int:=if i=0 then -1 else (l[i-1]!).1
def aBg (c:bK) (i:Nat):Prop:=fO (c.list[i]!).2/\(∀j,j<i->(c.list[j]!).2≠(c.list[i]!).2)/\FX c.list i<(c.list[i]!).1/\(c.list[i]!).1<c.next_
theorem fL.iff {c:bK} (h1:c.list.length<=200) (h2:0<=c.next_) (h3:c.next_<=1000000):fL c↔ ∀i,i<c.list.length->aBg c i:=by
 constructor
 · intro ok i hi
   refine ⟨ok.cv i hi,fun j hj=>ok.nd j i hj hi,?_,(ok.nr i hi).2⟩
   unfold FX;split
   · have:=(ok.nr i hi).1;omega
   exact ok.up (i-1) i (by omega) hi
 intro h
 have low: ∀i,i<c.list.length->0<=(c.list[i]!).1:=by
  intro i
  induction i with
  |zero=>
   intro hi
   have:=(h 0 hi).2.2.1
   unfold FX at this;rw [if_pos rfl] at this;omega
  |succ i ih=>
   intro hi;have h1:=(h (i+1) hi).2.2.1;unfold FX at h1;rw [if_neg (by omega),show i+1-1=i by omega] at h1
   have:=ih (by omega)
   omega
 have up: ∀i j,i<j->j<c.list.length->(c.list[i]!).1<(c.list[j]!).1:=by
  intro i j
  induction j with
  |zero=>intro h;omega
  |succ j ih=>
   intro hij hj;have h1:=(h (j+1) hj).2.2.1;unfold FX at h1;rw [if_neg (by omega),show j+1-1=j by omega] at h1
   by_cases e:i=j
   · subst e;exact h1
   have:=ih (by omega) (by omega)
   omega
 exact ⟨h1,h2,h3,fun i hi=>(h i hi).1,fun i hi=>⟨low i hi,(h i hi).2.2.2⟩,up,fun i j hij hj=>(h j hj).2.1 i hij⟩
theorem QJ (l:List wI) (k:Nat) (a b:Int):rR [a,b] ((l.take k).map fun x=>[x.2.1,x.2.2])=true:=by
 unfold rR;rw [List.all_eq_true];intro x hx;obtain ⟨y,hy,rfl⟩:=ax.1 hx;rfl
theorem QK (l:List wI) (k:Nat) (x:Int×Int):M8 ((l.take k).map fun y=>[y.2.1,y.2.2]) [x.1,x.2]=decide (∃j,j<k/\j<l.length/\(l[j]!).2=x):=by
 unfold M8;rw [bv,List.any_eq_true,decide_eq_true_iff];constructor
 · rintro ⟨y,hy,he⟩
   obtain ⟨z,hz,rfl⟩:=ax.1 hy;obtain ⟨j,h1,h2,rfl⟩:=cJ.1 hz
   have:[x.1,x.2]=[(l[j]!).2.1,(l[j]!).2.2]:=by simpa using he
   injection this with e1 e2;injection e2 with e2 _;exact ⟨j,h1,h2,au e1.symm e2.symm⟩
 rintro ⟨j,h1,h2,h3⟩
 refine ⟨[(l[j]!).2.1,(l[j]!).2.2],ax.2 ⟨l[j]!,cJ.2 ⟨j,h1,h2,rfl⟩,rfl⟩,?_⟩;rw [h3];simp
theorem BK (c:bK):tJ c=some (if fL c then 0 else 8):=by
 unfold tJ;simp only [aE]
 by_cases h1:200<c.list.length
 · rw [aH (show (200:Int)<(c.list.length:Int) by omega),if_neg (fun h=>by have:=h.len;omega)];rfl
 rw [dec_f (show¬(200:Int)<(c.list.length:Int) by omega)]
 by_cases h2:c.next_<0
 · rw [aH h2,if_neg (fun h=>by have:=h.n0;omega)];rfl
 rw [dec_f h2]
 by_cases h3:1000000<c.next_
 · rw [aH h3,if_neg (fun h=>by have:=h.n1;omega)];rfl
 rw [dec_f h3];simp only [cond_false];have key:=dS (body:=uP) (fun i=>(FX c.list i,c.list,(c.list.length:Int),(i:Int),c.next_,c.list,(c.list.take i).map fun x=>[x.2.1,x.2.2])) c.list.length (fun i=> ¬aBg c i) (r:=8) (e:=0) (fun i hi=>by
  have e1:decide ((i:Int)<(c.list.length:Int))=true:=aH (by omega)
  have has:W5 ((c.list.take i).map fun x=>[x.2.1,x.2.2]) [(c.list[i]!).2.1,(c.list[i]!).2.2]=some (decide (∃j,j<i/\j<c.list.length/\(c.list[j]!).2=(c.list[i]!).2)):=by
   unfold W5;rw [QJ,QK];rfl
  have nx:(c.list.take (i+1)).map (fun x=>[x.2.1,x.2.2])=((c.list.take i).map fun x=>[x.2.1,x.2.2])++[[(c.list[i]!).2.1,(c.list[i]!).2.2]]:=by
   rw [iK hi,List.map_append];rfl
  have ln:FX c.list (i+1)=(c.list[i]!).1:=by unfold FX;rw [if_neg (by omega),show i+1-1=i by omega]
  unfold uP;simp only [e1,cond_true,aC c.list i hi,aB,HK,has,nx,ln,aT (show i<1000000000 by omega)]
  unfold aBg
  by_cases b1:fO (c.list[i]!).2
  case neg=>
   rw [dec_f b1];exact ⟨fun _=>rfl,fun h=>absurd (aa.1 h).1 b1⟩
  rw [aH b1]
  by_cases b2: ∃j,j<i/\j<c.list.length/\(c.list[j]!).2=(c.list[i]!).2
  · rw [aH b2]
    refine ⟨fun _=>rfl,fun h=>?_⟩
    obtain ⟨j,j1,j2,j3⟩:=b2;exact absurd j3 ((aa.1 h).2.1 j j1)
  rw [dec_f b2];have b2': ∀j,j<i->(c.list[j]!).2≠(c.list[i]!).2:=fun j hj he=>b2 ⟨j,hj,by omega,he⟩
  by_cases b3:(c.list[i]!).1<=FX c.list i
  · rw [aH b3]
    exact ⟨fun _=>rfl,fun h=>absurd (aa.1 h).2.2.1 (by omega)⟩
  rw [dec_f b3]
  by_cases b4:c.next_<=(c.list[i]!).1
  · rw [aH b4]
    exact ⟨fun _=>rfl,fun h=>absurd (aa.1 h).2.2.2 (by omega)⟩
  rw [dec_f b4];have ins:W6 ((c.list.take i).map fun x=>[x.2.1,x.2.2]) [(c.list[i]!).2.1,(c.list[i]!).2.2]=some (((c.list.take i).map fun x=>[x.2.1,x.2.2])++[[(c.list[i]!).2.1,(c.list[i]!).2.2]]):=by
   unfold W6 aAr;rw [QJ,QK,dec_f b2];rfl
  rw [ins];exact ⟨fun h=>absurd ⟨b1,b2',by omega,by omega⟩ h,fun _=>rfl⟩) (by
  unfold uP
  have:decide ((c.list.length:Int)<(c.list.length:Int))=false:=dec_f (by omega)
  simp only [this,cond_false])
 have h0:FX c.list 0= -1:=rfl;rw [h0] at key
 by_cases ok:fL c
 · rw [if_pos ok]
   exact key.2 fun i hi=>aa.2 ((fL.iff (by omega) (by omega) (by omega)).1 ok i hi)
 rw [if_neg ok]
 rw [fL.iff (by omega) (by omega) (by omega)] at ok
 obtain ⟨i,h⟩:=aj.1 ok;obtain ⟨hi,hx⟩:=ao.1 h;exact key.1 ⟨i,hi,hx⟩
theorem ZF (c:bK) (i:Nat) (hi:i<c.list.length) (hl:c.list.length<=200):
 ((∃j,j<i/\(c.list[j]!).2=(c.list[i]!).2)->aG gS ((i:Int),0,c.next_,c.list,c.list[i]!)=some (.done 8))/\
 ((∀j,j<i-> ¬(c.list[j]!).2=(c.list[i]!).2)->aG gS ((i:Int),0,c.next_,c.list,c.list[i]!)=some (.next (((i+1:Nat):Int),c.next_,c.list))):=by
 refine dS (body:=gS) (fun j=>((i:Int),(j:Int),c.next_,c.list,c.list[i]!)) i (fun j=>(c.list[j]!).2=(c.list[i]!).2) (r:= .done 8) (e:= .next (((i+1:Nat):Int),c.next_,c.list)) (fun j hj=>?_) ?_
 · have e1:decide ((j:Int)<(i:Int))=true:=aH (by omega)
   unfold gS;simp only [e1,cond_true,aC c.list j (by omega),aB,aT (show j<1000000000 by omega)]
   generalize c.list[j]! =x;generalize c.list[i]! =y;constructor
   · intro h;rw [eH (congrArg dc h),eH (congrArg dd h)];rfl
   intro h
   by_cases h1:x.2.1=y.2.1
   · rw [eH h1,eM (fun h2=>h (au h1 h2))];rfl
   rw [eM h1];rfl
 unfold gS
 have:decide ((i:Int)<(i:Int))=false:=dec_f (by omega)
 simp only [this,cond_false,aT (show i<1000000000 by omega)]
theorem FY (c:bK):vW c=some (if fL c then 0 else 8):=by
 unfold vW;simp only [aE]
 by_cases h1:200<c.list.length
 · rw [aH (show (200:Int)<(c.list.length:Int) by omega),if_neg (fun h=>by have:=h.len;omega)];rfl
 rw [dec_f (show¬(200:Int)<(c.list.length:Int) by omega)]
 by_cases h2:c.next_<0
 · rw [aH h2,if_neg (fun h=>by have:=h.n0;omega)];rfl
 rw [dec_f h2]
 by_cases h3:1000000<c.next_
 · rw [aH h3,if_neg (fun h=>by have:=h.n1;omega)];rfl
 rw [dec_f h3];simp only [cond_false];have key:=dS (body:=rZ) (fun i=>((i:Int),c.next_,c.list)) c.list.length (fun i=> ¬(fO (c.list[i]!).2/\0<=(c.list[i]!).1/\(c.list[i]!).1<c.next_/\(0<i->(c.list[i-1]!).1<(c.list[i]!).1)/\ ∀j,j<i-> ¬(c.list[j]!).2=(c.list[i]!).2)) (r:=8) (e:=0) (fun i hi=>by
  have e1:decide ((i:Int)<(c.list.length:Int))=true:=aH (by omega)
  have l1:=ZF c i hi (by omega)
  unfold rZ;simp only [aE,e1,cond_true,aC c.list i hi,aB,BJ]
  by_cases b1:fO (c.list[i]!).2
  case neg=>
   rw [dec_f b1];exact ⟨fun _=>rfl,fun h=>absurd (aa.1 h).1 b1⟩
  rw [aH b1]
  by_cases b2:(c.list[i]!).1<0
  · rw [aH b2]
    exact ⟨fun _=>rfl,fun h=>absurd (aa.1 h).2.1 (by omega)⟩
  rw [dec_f b2]
  by_cases b3:c.next_<=(c.list[i]!).1
  · rw [aH b3]
    exact ⟨fun _=>rfl,fun h=>absurd (aa.1 h).2.2.1 (by omega)⟩
  rw [dec_f b3];simp only [ae,cond_false];have go:(0<i->(c.list[i-1]!).1<(c.list[i]!).1)->(¬(fO (c.list[i]!).2/\0<=(c.list[i]!).1/\(c.list[i]!).1<c.next_/\(0<i->(c.list[i-1]!).1<(c.list[i]!).1)/\ ∀j,j<i-> ¬(c.list[j]!).2=(c.list[i]!).2)->aG gS ((i:Int),0,c.next_,c.list,c.list[i]!)=some (.done 8))/\
   (¬¬(fO (c.list[i]!).2/\0<=(c.list[i]!).1/\(c.list[i]!).1<c.next_/\(0<i->(c.list[i-1]!).1<(c.list[i]!).1)/\ ∀j,j<i-> ¬(c.list[j]!).2=(c.list[i]!).2)->aG gS ((i:Int),0,c.next_,c.list,c.list[i]!)=some (.next (((i+1:Nat):Int),c.next_,c.list))):=by
   intro hp;constructor
   · intro h
     refine l1.1 (Classical.byContradiction fun hx=>h ⟨b1,by omega,by omega,hp,fun j hj he=>hx ⟨j,hj,he⟩⟩)
   intro h
   exact l1.2 (aa.1 h).2.2.2.2
  by_cases b4:0<i
  · have f1:decide ((0:Int)<(i:Int))=true:=aH (by omega)
    simp only [f1,cond_true,qD (show i<1000000000 by omega) b4,aC c.list (i-1) (by omega),aB]
    by_cases b5:(c.list[i]!).1<=(c.list[i-1]!).1
    · rw [aH b5]
      exact ⟨fun _=>rfl,fun h=>absurd ((aa.1 h).2.2.2.1 b4) (by omega)⟩
    rw [dec_f b5]
    exact go fun _=>by omega
  · have f1:decide ((0:Int)<(i:Int))=false:=dec_f (by omega)
    rw [f1];exact go fun h=>absurd h b4) (by
  unfold rZ
  have:decide ((c.list.length:Int)<(c.list.length:Int))=false:=dec_f (by omega)
  simp only [aE,this,cond_false])
 have same:fL c↔ ∀i,i<c.list.length->(fO (c.list[i]!).2/\0<=(c.list[i]!).1/\(c.list[i]!).1<c.next_/\(0<i->(c.list[i-1]!).1<(c.list[i]!).1)/\ ∀j,j<i-> ¬(c.list[j]!).2=(c.list[i]!).2):=by
  constructor
  · intro ok i hi
    exact ⟨ok.cv i hi,(ok.nr i hi).1,(ok.nr i hi).2,fun h=>ok.up (i-1) i (by omega) hi,fun j hj=>ok.nd j i hj hi⟩
  intro h
  rw [fL.iff (by omega) (by omega) (by omega)]
  intro i hi;obtain ⟨a1,a2,a3,a4,a5⟩:=h i hi;refine ⟨a1,a5,?_,a3⟩;unfold FX;split
  · omega
  exact a4 (by omega)
 by_cases ok:fL c
 · rw [if_pos ok]
   exact key.2 fun i hi=>aa.2 (same.1 ok i hi)
 rw [if_neg ok]
 rw [same] at ok;obtain ⟨i,h⟩:=aj.1 ok;obtain ⟨hi,hx⟩:=ao.1 h;exact key.1 ⟨i,hi,hx⟩
def wY (l:List wI) (x:Int×Int):Prop:= ∃i,i<l.length/\(l[i]!).2=x
theorem ZG (l:List wI) (x:Int×Int) (hl:l.length<=1000000):cP l x=some (decide (wY l x)):=by
 unfold cP gH;have key:=mR (body:=dW) (fun i=>(l,x.1,x.2,(l.length:Int),(i:Int))) l.length (fun i=>(l[i]!).2=x) (fun i=>(i:Int)) (e:= -1) (fun i hi=>by
  have e1:decide ((i:Int)<(l.length:Int))=true:=aH (by omega)
  unfold dW IK;simp only [e1,cond_true,aC l i hi,aB,aT (show i<1000000000 by omega)]
  generalize l[i]! =y;constructor
  · intro h;rw [eH (congrArg dc h),eH (congrArg dd h)];rfl
  · intro h
    by_cases h1:y.2.1=x.1
    · rw [eH h1,eM (fun h2=>h (au h1 h2))];rfl
    rw [eM h1];rfl) (by
  unfold dW
  have:decide ((l.length:Int)<(l.length:Int))=false:=dec_f (by omega)
  simp only [this,cond_false])
 rw [aE]
 by_cases hx:wY l x
 · obtain ⟨k,h1,h2,h3⟩:=KA hx
   have:=key.1 k h1 h2 h3
   rw [show ((0:Nat):Int)=0 from rfl] at this;rw [this,aH hx];simp only [aB,aH (show (0:Int)<=(k:Int) by omega)]
 have:=key.2 fun i hi he=>hx ⟨i,hi,he⟩
 rw [show ((0:Nat):Int)=0 from rfl] at this;rw [this,dec_f hx];rfl
theorem L6:eS=cP:=rfl
theorem DR (c:bK) (x:Int×Int) (hl:c.list.length<=1000000):xY c x=some (decide (wY c.list x)):=by
 unfold xY;have key:=dS (body:=xR) (fun i=>((i:Int),c.next_,c.list,x)) c.list.length (fun i=>(c.list[i]!).2=x) (r:=true) (e:=false) (fun i hi=>by
  have e1:decide ((i:Int)<(c.list.length:Int))=true:=aH (by omega)
  unfold xR;simp only [aE,e1,cond_true,aC c.list i hi,aB,aT (show i<1000000000 by omega)]
  generalize c.list[i]! =y;constructor
  · intro h;rw [eH (congrArg dc h),eH (congrArg dd h)];rfl
  · intro h
    by_cases h1:y.2.1=x.1
    · rw [eH h1,eM (fun h2=>h (au h1 h2))];rfl
    rw [eM h1];rfl) (by
  unfold xR
  have:decide ((c.list.length:Int)<(c.list.length:Int))=false:=dec_f (by omega)
  simp only [aE,this,cond_false])
 by_cases hx:wY c.list x
 · rw [aH hx];exact key.1 hx
 rw [dec_f hx];exact key.2 fun i hi he=>hx ⟨i,hi,he⟩
def sQ (c:bK) (x:Int×Int):bK:=⟨c.next_+1,c.list++[(c.next_,x)]⟩
def KJ (c:bK):Prop:=c.list.length=200\/c.next_=1000000
theorem ZH {c:bK} (ok:fL c) {x:Int×Int} (hx:fO x):J7 c x=some (if wY c.list x then (⟨0,[]⟩,0,14) else if KJ c then (⟨0,[]⟩,0,18) else (sQ c x,c.next_,0)):=by
 have:=ok.len;have:=ok.n0;have:=ok.n1
 unfold J7;rw [BK,if_pos ok,HK,aH hx,ZG _ _ (by omega)]
 simp only [aB,show ((0:Int) !=0)=false from rfl,cond_false,ae,aE]
 by_cases h1:wY c.list x
 · rw [aH h1,if_pos h1];rfl
 rw [dec_f h1,if_neg h1];unfold KJ
 by_cases h2:c.list.length=200
 · rw [eH (show (c.list.length:Int)=200 by omega),if_pos (.inl h2)];rfl
 rw [eM (show¬(c.list.length:Int)=200 by omega)]
 by_cases h3:c.next_=1000000
 · rw [eH h3,if_pos (.inr h3)];rfl
 rw [eM h3,if_neg (by omega)]
 have e:aA .i64 (c.next_+1)=c.next_+1:=by rw [wi];omega
 simp only [cond_false,aY (show c.list.length<=1048576 by omega),aB,fE (show c.list.length+[(c.next_,x)].length<=1048576 by simp;omega),e]
 rfl
theorem VS {c:bK} (ok:fL c) {x:Int×Int} (hx:fO x):LW c x=some (if wY c.list x then (⟨0,[]⟩,0,14) else if KJ c then (⟨0,[]⟩,0,18) else (sQ c x,c.next_,0)):=by
 have:=ok.len;have:=ok.n0;have:=ok.n1
 unfold LW yY;rw [FY,if_pos ok,BJ,aH hx,DR _ _ (by omega)]
 simp only [aB,show ((0:Int) !=0)=false from rfl,cond_false,ae,aE]
 by_cases h1:wY c.list x
 · rw [aH h1,if_pos h1];rfl
 rw [dec_f h1,if_neg h1];unfold KJ
 by_cases h2:c.list.length=200
 · rw [eH (show (c.list.length:Int)=200 by omega),if_pos (.inl h2)];rfl
 rw [eM (show¬(c.list.length:Int)=200 by omega)]
 by_cases h3:c.next_=1000000
 · rw [eH h3,if_pos (.inr h3)];rfl
 rw [eM h3,if_neg (by omega)]
 have e:aA .i64 (c.next_+1)=c.next_+1:=by rw [wi];omega
 simp only [cond_false,aY (show c.list.length<=1048576 by omega),aB,fE (show c.list.length+[(c.next_,x)].length<=1048576 by simp;omega),e]
 rfl
theorem zF {c:bK} {x:Int×Int} {i:Nat}:(sQ c x).list[i]! =if i<c.list.length then c.list[i]! else if i=c.list.length then (c.next_,x) else default:=by
 show (c.list++[(c.next_,x)])[i]! =_
 by_cases h:i<c.list.length
 · rw [if_pos h,iE h]
 rw [if_neg h,kE (by omega)]
 by_cases e:i=c.list.length
 · rw [if_pos e,e,bq];rfl
 rw [if_neg e,getElem!_neg _ _ (by simp;omega)]
theorem GW {c:bK} {x:Int×Int}:(sQ c x).list.length=c.list.length+1:=by
 show (c.list++[(c.next_,x)]).length=_;simp
theorem aBh {c:bK} (ok:fL c) {x:Int×Int} (hx:fO x) (hn: ¬wY c.list x) (hf: ¬KJ c):fL (sQ c x):=by
 have h1:=ok.len;have h2:=ok.n0;have h3:=ok.n1;unfold KJ at hf;refine ⟨by rw [GW];omega,by show 0<=c.next_+1;omega,by show c.next_+1<=1000000;omega,?_,?_,?_,?_⟩
 · intro i hi
   rw [GW] at hi;rw [zF]
   by_cases h:i<c.list.length
   · rw [if_pos h];exact ok.cv i h
   rw [if_neg h,if_pos (by omega)];exact hx
 · intro i hi
   rw [GW] at hi;rw [zF];show 0<=_/\_<c.next_+1
   by_cases h:i<c.list.length
   · rw [if_pos h];have:=ok.nr i h;omega
   rw [if_neg h,if_pos (by omega)];dsimp only;omega
 · intro i j hij hj
   rw [GW] at hj;rw [zF,zF,if_pos (by omega)]
   by_cases h:j<c.list.length
   · rw [if_pos h];exact ok.up i j hij h
   rw [if_neg h,if_pos (by omega)]
   exact (ok.nr i (by omega)).2
 intro i j hij hj
 rw [GW] at hj;rw [zF,zF,if_pos (by omega)]
 by_cases h:j<c.list.length
 · rw [if_pos h];exact ok.nd i j hij h
 rw [if_neg h,if_pos (by omega)]
 exact fun he=>hn ⟨i,by omega,he⟩
def pH (c:bK) (k:Nat):bK:=⟨c.next_,c.list.eraseIdx k⟩
theorem aCF {α:Type} {l:List α} {k:Nat} (hk:k<l.length):(l.eraseIdx k).length=l.length-1:=by
 rw [List.length_eraseIdx,if_pos hk]
theorem QL {c:bK} (ok:fL c) {k:Nat} (hk:k<c.list.length):fL (pH c k):=by
 have h1:=ok.len;have len:(pH c k).list.length=c.list.length-1:=aCF hk;have cell: ∀i,∃j,i<=j/\j<=i+1/\(i<c.list.length-1->j<c.list.length)/\(pH c k).list[i]! =c.list[j]!/\(i<k->j=i)/\(k<=i->j=i+1):=by
  intro i
  by_cases h:i<k
  · exact ⟨i,by omega,by omega,by omega,by show (c.list.eraseIdx k)[i]! =_;rw [QI,if_pos h],fun _=>rfl,by omega⟩
  exact ⟨i+1,by omega,by omega,by omega,by show (c.list.eraseIdx k)[i]! =_;rw [QI,if_neg h],by omega,fun _=>rfl⟩
 refine ⟨by omega,ok.n0,ok.n1,?_,?_,?_,?_⟩
 · intro i hi
   obtain ⟨j,j1,j2,j3,j4,j5,j6⟩:=cell i;rw [j4];exact ok.cv j (j3 (by omega))
 · intro i hi
   obtain ⟨j,j1,j2,j3,j4,j5,j6⟩:=cell i;rw [j4];exact ok.nr j (j3 (by omega))
 · intro i i' hij hi
   obtain ⟨j,j1,j2,j3,j4,j5,j6⟩:=cell i;obtain ⟨m,m1,m2,m3,m4,m5,m6⟩:=cell i';rw [j4,m4];exact ok.up j m (by omega) (m3 (by omega))
 intro i i' hij hi
 obtain ⟨j,j1,j2,j3,j4,j5,j6⟩:=cell i;obtain ⟨m,m1,m2,m3,m4,m5,m6⟩:=cell i';rw [j4,m4];exact ok.nd j m (by omega) (m3 (by omega))
theorem QM {c:bK} (ok:fL c) {k:Nat} (hk:k<c.list.length) {n:Int} (hn:(c.list[k]!).1=n):AF c n=some (pH c k,(c.list[k]!).2,0):=by
 have h1:=ok.len;unfold AF LU;obtain ⟨L,d1,d2⟩:=M2 c.list k hk;rw [BK,if_pos ok,(GV c.list n (by omega) ok.up).1 k hk hn]
 simp only [aB,show ((0:Int) !=0)=false from rfl,cond_false,ae,aY (show c.list.length<=1048576 by omega),aT (show k<1000000000 by omega),d1,aC c.list k hk,d2]
 rfl
theorem VT {l:List wI} {k:Nat} (hk:k<l.length) (hs: ∀i j,i<j->j<l.length->(l[i]!).1<(l[j]!).1) {n:Int} (hn:(l[k]!).1=n):l.filter (fun x=>x.1 !=n)=l.eraseIdx k:=by
 rw [zE];have e:l.filter (fun x=>x.1 !=n)=(l.take k++l[k]!::l.drop (k+1)).filter (fun x=>x.1 !=n):=congrArg _ (aFE hk)
 rw [e,ci,List.filter_cons_of_neg (by rw [hn];simp)]
 congr 1
 · rw [cb]
   intro x hx;obtain ⟨i,h1,h2,rfl⟩:=cJ.1 hx
   have:=hs i k h1 hk
   exact dL (by omega)
 rw [cb]
 intro x hx;obtain ⟨i,h1,rfl⟩:=aW.1 hx;rw [bn] at h1;rw [uB]
 have:=hs k (k+1+i) (by omega) (by omega)
 exact dL (by omega)
theorem L7 {c:bK} (ok:fL c) {k:Nat} (hk:k<c.list.length) {n:Int} (hn:(c.list[k]!).1=n):BB c n=some (pH c k):=by
 have h1:=ok.len;unfold BB;have key:=dO (body:=mA) (fun i=>(n,(i:Int),c.next_,c.list,0,c.next_,(c.list.take i).filter (fun x=>x.1 !=n))) c.list.length (fun i hi=>by
  have e1:decide ((i:Int)<(c.list.length:Int))=true:=aH (by omega)
  have nx:(c.list.take (i+1)).filter (fun x=>x.1 !=n)=(c.list.take i).filter (fun x=>x.1 !=n)++(if (c.list[i]!).1 !=n then [c.list[i]!] else []):=by
   rw [iK hi,ci,List.filter_cons,List.filter_nil]
  have fl:((c.list.take i).filter (fun x=>x.1 !=n)).length<=200:=dh (List.length_filter_le _ _) (by rw [am];omega)
  unfold mA;simp only [aE,e1,cond_true,aC c.list i hi,aB,aT (show i<1000000000 by omega),nx]
  by_cases h:(c.list[i]!).1=n
  · rw [bP h];simp
  rw [dL h]
  simp only [cond_true,if_true,fE (show ((c.list.take i).filter (fun x=>x.1 !=n)).length+[c.list[i]!].length<=1048576 by simp only [cq,cy];omega),aB])
 have fin:mA (n,(c.list.length:Int),c.next_,c.list,0,c.next_,(c.list.take c.list.length).filter (fun x=>x.1 !=n))=some (.done (pH c k)):=by
  unfold mA
  have:decide ((c.list.length:Int)<(c.list.length:Int))=false:=dec_f (by omega)
  simp only [aE,this,cond_false,List.take_length];rw [VT hk ok.up hn];rfl
 refine Eq.trans ?_ (aK fin);exact key
def nC (l:List Pt) (id:Int):Prop:= ∃k,k<l.length/\(l[k]!).1=id
noncomputable def fT (l:List Pt) (id:Int):Pt:=if h:nC l id then l[h.choose]! else (-1,0,0)
theorem DS {l:List Pt} (hs:gI l) {k:Nat} (hk:k<l.length) {id:Int} (h:(l[k]!).1=id):fT l id=l[k]!:=by
 have hp:nC l id:=⟨k,hk,h⟩;unfold fT;rw [dif_pos hp]
 have:=hp.choose_spec
 rw [zD hs this.1 hk (by rw [this.2,h])]
theorem dB {l:List Pt} (ok:cC l) {id:Int} (h:nC l id):hG (fT l id)/\(fT l id).1=id:=by
 obtain ⟨k,hk,he⟩:=h;rw [DS ok.2.2 hk he];exact ⟨ok.2.1 _ (bL hk),he⟩
theorem L8 {l:List Pt} {id:Int} (h: ¬nC l id):fT l id=(-1,0,0):=by unfold fT;rw [dif_neg h]
theorem oT {l:List Pt} (ok:cC l) (id:Int):kV ⟨l⟩ id=some (fT l id):=by
 have h1:=ok.1;have bs:=GV l id (by omega) (fun i j=>pF ok.2.2)
 unfold kV;dsimp only;rw [aFU]
 by_cases h:nC l id
 · obtain ⟨k,hk,he⟩:=h
   rw [bs.1 k hk he];simp only [aB,ae,cond_false,aC l k hk,DS ok.2.2 hk he]
 obtain ⟨m,m1,m2,m3,e⟩:=bs.2 (fun k hk he=>h ⟨k,hk,he⟩)
 rw [e,L8 h];rfl
theorem uG {l:List Pt} (ok:cC l) {id:Int} (h:nC l id): ∃k,k<l.length/\fZ ⟨l⟩ id=some (k:Int)/\l[k]! =fT l id:=by
 have h1:=ok.1;obtain ⟨k,hk,he⟩:=h;exact ⟨k,hk,aDG ok.2.2 (by omega) hk he,(DS ok.2.2 hk he).symm⟩
theorem QN {l:List Pt} (ok:cC l) {id:Int} (h: ¬nC l id):fZ ⟨l⟩ id=some (-1):=by
 have h1:=ok.1;exact aM7 (by omega) fun k hk he=>h ⟨k,hk,he⟩
def iF (l:List Pt) (x:Int×Int):Prop:=nC l x.1/\nC l x.2
noncomputable def bM (l:List Pt) (x t:Int×Int):(Int×Int)×Bool:=nJ (fT l x.2) (fT l x.1) t
theorem BL {l:List Pt} (ok:cC l) {x t:Int×Int} (hx:fO x) (ht:bQ t) (h64:oA t):
 tM ⟨l⟩ x t=some (if iF l x then ((bM l x t).1,(bM l x t).2,0) else ((0,0),false,8)):=by
 unfold tM;rw [oT ok,oT ok];simp only [aB,NE h64];have bad: ¬hG (-1,0,0):=by unfold hG;dsimp only;omega
 by_cases h1:nC l x.1
 · by_cases h2:nC l x.2
   · obtain ⟨p1,p2⟩:=dB ok h1
     obtain ⟨q1,q2⟩:=dB ok h2;rw [if_pos ⟨q1,p1,ht,by rw [p2,q2];exact fun h=>hx.2.2.2.2 h.symm⟩,if_pos ⟨h1,h2⟩]
     rfl
   rw [L8 h2,if_neg (fun h=>bad h.1),if_neg (fun h=>bad h.1),if_neg (fun h=>h2 h.2)]
 rw [L8 h1,if_neg (fun h=>bad h.2.1),if_neg (fun h=>bad h.2.1),if_neg (fun h=>h1 h.1)]
theorem BM {l:List Pt} (ok:cC l) {x t:Int×Int} (h64:oA t) (hb:iF l x):tU ⟨l⟩ x t=some (bM l x t):=by
 obtain ⟨h1,h2⟩:=hb;obtain ⟨j,j1,j2,j3⟩:=uG ok h1;obtain ⟨k,k1,k2,k3⟩:=uG ok h2;unfold tU;simp only [j2,k2,aB,aC l j j1,aC l k k1,j3,k3,aA7 (dB ok h2).1 (dB ok h1).1 h64];rfl
theorem aFV (c:bK) {l:List Pt} (ok:cC l) (hl:c.list.length<=200):AI c ⟨l⟩=some (decide (∀i,i<c.list.length->iF l (c.list[i]!).2)):=by
 unfold AI;have key:=dS (body:=sA) (fun i=>((i:Int),c.next_,c.list,l)) c.list.length (fun i=> ¬iF l (c.list[i]!).2) (r:=false) (e:=true) (fun i hi=>by
  have e1:decide ((i:Int)<(c.list.length:Int))=true:=aH (by omega)
  unfold sA iF;simp only [aE,e1,cond_true,aC c.list i hi,aB,aT (show i<1000000000 by omega)]
  by_cases h1:nC l (c.list[i]!).2.1
  · obtain ⟨k,k1,k2,_⟩:=uG ok h1
    rw [k2];simp only [aB,dec_f (show¬(k:Int)<0 by omega),cond_false]
    by_cases h2:nC l (c.list[i]!).2.2
    · obtain ⟨j,j1,j2,_⟩:=uG ok h2
      rw [j2];simp only [aB,dec_f (show¬(j:Int)<0 by omega),cond_false]
      exact ⟨fun h=>absurd ⟨h1,h2⟩ h,fun _=>trivial⟩
    rw [QN ok h2]
    exact ⟨fun _=>rfl,fun h=>absurd (aa.1 h).2 h2⟩
  · rw [QN ok h1]
    exact ⟨fun _=>rfl,fun h=>absurd (aa.1 h).1 h1⟩) (by
  unfold sA
  have:decide ((c.list.length:Int)<(c.list.length:Int))=false:=dec_f (by omega)
  simp only [aE,this,cond_false])
 by_cases hx: ∀i,i<c.list.length->iF l (c.list[i]!).2
 · rw [aH hx];exact key.2 fun i hi=>aa.2 (hx i hi)
 rw [dec_f hx]
 obtain ⟨i,h⟩:=aj.1 hx;obtain ⟨hi,hx⟩:=ao.1 h;exact key.1 ⟨i,hi,hx⟩
def aV (l:List Pt) (t:Int×Int) (H:List Ev):List wI->List wI->Prop
 | [],ds=>ds=[]
 |x::cs,ds=>((bM l x.2 t).2=true-> ∃d ds',ds=d::ds'/\d.1=x.1/\((bM l x.2 t).1.1,(bM l x.2 t).1.2,x.1,d.2)∈H/\aV l t H cs ds')/\((bM l x.2 t).2=false->aV l t H cs ds)
structure aZ (c:aO):Prop where
 nowv:bQ c.now
 now64:oA c.now
 fld:cC c.field.points
 crt:fL c.certs
 agd:fN c.agenda
 w200:c.agenda.where_.length=200
 hd:c.agenda.heap.length=c.due.length
 known: ∀i,i<c.certs.list.length->iF c.field.points (c.certs.list[i]!).2
 fol:aV c.field.points c.now c.agenda.heap c.certs.list c.due
structure wJ (c:aO):Prop where
 now64:oA c.now
 ag:FU c.agenda
 du:c.due.length<=1000000
theorem aNW {a:aP} (ok:fN a) (w2:a.where_.length=200) (t:Int×Int) (n:Int) (h:Int×Int):
 (0<=h.1/\h.1<200/\0<=a.where_[h.1.toNat]!/\a.heap[(a.where_[h.1.toNat]!).toNat]! =(t.1,t.2,n,h))↔((t.1,t.2,n,h):Ev)∈a.heap:=by
 have wl:=ok.wl;have hu:=ok.so.ul;constructor
 · rintro ⟨h1,h2,h3,h4⟩
   cases hb:a.slots.used[h.1.toNat]! with
   |false=>
    have:=ok.un h.1.toNat (by omega) hb
    omega
   |true=>
    have:=ok.fwd h.1.toNat (by omega) hb
    rw [<- h4];exact bL (by omega)
 intro hm
 obtain ⟨w,hw,he⟩:=aW.1 hm;obtain ⟨b1,b2,b3,b4,b5⟩:=ok.back hw;have e:Ev.ix a.heap[w]! =h.1:=by rw [he]
 have e2:Ev.n a.heap[w]! =h.1.toNat:=by rw [he]
 rw [e] at b1 b2;rw [e2] at b5;refine ⟨b1,by omega,by omega,?_⟩
 rw [b5,af,he]
theorem aFW {a:aP} (ok:fN a) {i:Nat} (hi:i<a.slots.uses.length) (h:0<=a.where_[i]!):a.where_[i]!<a.heap.length:=by
 cases hb:a.slots.used[i]! with
 |false=>have:=ok.un i hi hb;omega
 |true=>exact (ok.fwd i hi hb).2.1
theorem xZ {α:Type} [Inhabited α] {l:List α} {i:Nat} (h:i<l.length):l.drop i=l[i]!::l.drop (i+1):=by
 rw [getElem!_pos l i h];exact List.drop_eq_getElem_cons h
theorem ZI {c:aO} (nowv:bQ c.now) (now64:oA c.now) (fld:cC c.field.points) (crt:fL c.certs) (agd:fN c.agenda) (w2:c.agenda.where_.length=200):
 ∀(d i:Nat) (ds:List wI),c.certs.list.length-i<=d->i<=c.certs.list.length->ds.length<=1000000->
  aG dA (ds,c.certs.list,(c.certs.list.length:Int),(i:Int),c.now.1,c.now.2,c.field.points,c.certs.next_,c.certs.list,c.agenda.slots.uses,c.agenda.slots.used,c.agenda.slots.free,c.agenda.heap,c.agenda.where_,c.due)=
   some (.done (if (∀j,i<=j->j<c.certs.list.length->iF c.field.points (c.certs.list[j]!).2)/\aV c.field.points c.now c.agenda.heap (c.certs.list.drop i) ds then 0 else 8)):=by
 have hl:=crt.len;have wl:=agd.wl;have fin: ∀(ds:List wI),aG dA (ds,c.certs.list,(c.certs.list.length:Int),(c.certs.list.length:Int),c.now.1,c.now.2,c.field.points,c.certs.next_,c.certs.list,c.agenda.slots.uses,c.agenda.slots.used,c.agenda.slots.free,c.agenda.heap,c.agenda.where_,c.due)=some (.done (if ds=[] then 0 else 8)):=by
  intro ds;refine aK ?_;unfold dA;have e1:decide ((c.certs.list.length:Int)<(c.certs.list.length:Int))=false:=dec_f (by omega)
  simp only [aE,e1,cond_false];cases ds with
  |nil=>rw [dec_f (by simp),if_pos rfl];rfl
  |cons d ds=>rw [aH (by simp),if_neg (by simp)];rfl
 intro d
 induction d with
 |zero=>
  intro i ds hd hi hds
  have:i=c.certs.list.length:=by omega
  subst this;rw [fin ds,be]
  have:((∀j,c.certs.list.length<=j->j<c.certs.list.length->iF c.field.points (c.certs.list[j]!).2)/\aV c.field.points c.now c.agenda.heap [] ds)↔ds=[]:=⟨fun h=>h.2,fun h=>⟨fun j h1 h2=>by omega,h⟩⟩
  by_cases h:ds=[]
  · rw [if_pos h,if_pos (this.2 h)]
  rw [if_neg h,if_neg (fun k=>h (this.1 k))]
 |succ d ih=>
  intro i ds hd hi hds
  by_cases he:i=c.certs.list.length
  · subst he
    rw [fin ds,be]
    have:((∀j,c.certs.list.length<=j->j<c.certs.list.length->iF c.field.points (c.certs.list[j]!).2)/\aV c.field.points c.now c.agenda.heap [] ds)↔ds=[]:=⟨fun h=>h.2,fun h=>⟨fun j h1 h2=>by omega,h⟩⟩
    by_cases h:ds=[]
    · rw [if_pos h,if_pos (this.2 h)]
    rw [if_neg h,if_neg (fun k=>h (this.1 k))]
  have hi':i<c.certs.list.length:=by omega
  have e1:decide ((i:Int)<(c.certs.list.length:Int))=true:=aH (by omega)
  have hw:=BL fld (x:=(c.certs.list[i]!).2) (t:=(c.now.1,c.now.2)) (crt.cv i hi') nowv now64;have dr:=xZ hi';have all:(∀j,i<=j->j<c.certs.list.length->iF c.field.points (c.certs.list[j]!).2)↔(iF c.field.points (c.certs.list[i]!).2/\ ∀j,i+1<=j->j<c.certs.list.length->iF c.field.points (c.certs.list[j]!).2):=by
   constructor
   · intro h;exact ⟨h i (ai _) hi',fun j h1 h2=>h j (by omega) h2⟩
   rintro ⟨h1,h2⟩ j h3 h4
   by_cases e:j=i
   · rw [e];exact h1
   exact h2 j (by omega) h4
  have sc:=aT (show i<1000000000 by omega)
  by_cases hb:iF c.field.points (c.certs.list[i]!).2
  case neg=>
   rw [if_neg (fun h=>hb (all.1 h.1).1)]
   refine aK ?_;unfold dA;simp only [e1,cond_true,aC c.certs.list i hi',aB,hw,if_neg hb];rfl
  rw [if_pos hb] at hw
  by_cases is:(bM c.field.points (c.certs.list[i]!).2 c.now).2=true
  case neg=>
   have is':(bM c.field.points (c.certs.list[i]!).2 c.now).2=false:=by simpa using is
   rw [bC (y:=(ds,c.certs.list,(c.certs.list.length:Int),((i+1:Nat):Int),c.now.1,c.now.2,c.field.points,c.certs.next_,c.certs.list,c.agenda.slots.uses,c.agenda.slots.used,c.agenda.slots.free,c.agenda.heap,c.agenda.where_,c.due)) (by
    unfold dA;simp only [e1,cond_true,aC c.certs.list i hi',aB,hw,sc,is',show ((0:Int) !=0)=false from rfl,cond_false,ay]),ih (i+1) ds (by omega) (by omega) hds]
   have same:((∀j,i<=j->j<c.certs.list.length->iF c.field.points (c.certs.list[j]!).2)/\aV c.field.points c.now c.agenda.heap (c.certs.list.drop i) ds)↔((∀j,i+1<=j->j<c.certs.list.length->iF c.field.points (c.certs.list[j]!).2)/\aV c.field.points c.now c.agenda.heap (c.certs.list.drop (i+1)) ds):=by
    rw [dr,all];constructor
    · rintro ⟨⟨_,h1⟩,h2⟩;exact ⟨h1,h2.2 is'⟩
    rintro ⟨h1,h2⟩;exact ⟨⟨hb,h1⟩,fun h=>absurd h is,fun _=>h2⟩
   simp only [same]
  have stop:(¬((∀j,i<=j->j<c.certs.list.length->iF c.field.points (c.certs.list[j]!).2)/\aV c.field.points c.now c.agenda.heap (c.certs.list.drop i) ds))->dA (ds,c.certs.list,(c.certs.list.length:Int),(i:Int),c.now.1,c.now.2,c.field.points,c.certs.next_,c.certs.list,c.agenda.slots.uses,c.agenda.slots.used,c.agenda.slots.free,c.agenda.heap,c.agenda.where_,c.due)=some (.done (.done 8))->aG dA (ds,c.certs.list,(c.certs.list.length:Int),(i:Int),c.now.1,c.now.2,c.field.points,c.certs.next_,c.certs.list,c.agenda.slots.uses,c.agenda.slots.used,c.agenda.slots.free,c.agenda.heap,c.agenda.where_,c.due)=
   some (.done (if (∀j,i<=j->j<c.certs.list.length->iF c.field.points (c.certs.list[j]!).2)/\aV c.field.points c.now c.agenda.heap (c.certs.list.drop i) ds then 0 else 8)):=by
   intro h1 h2;rw [if_neg h1];exact aK h2
  cases ds with
  |nil=>
   refine stop (fun h=>?_) ?_
   · rw [dr] at h
     obtain ⟨d,ds',h1,_⟩:=h.2.1 is;cases h1
   unfold dA
   simp only [e1,cond_true,aC c.certs.list i hi',aB,hw,is,show ((0:Int) !=0)=false from rfl,cond_false,ae];rfl
  |cons d0 ds=>
   have l0:((((d0::ds).length:Nat):Int)==0)=false:=eM (by simp;omega)
   have g0:aL (d0::ds) 0=some d0:=rfl
   have fol: ∀P:Prop,(P↔d0.1=(c.certs.list[i]!).1/\(((bM c.field.points (c.certs.list[i]!).2 c.now).1.1,(bM c.field.points (c.certs.list[i]!).2 c.now).1.2,(c.certs.list[i]!).1,d0.2):Ev)∈c.agenda.heap)-> ¬P-> ¬((∀j,i<=j->j<c.certs.list.length->iF c.field.points (c.certs.list[j]!).2)/\aV c.field.points c.now c.agenda.heap (c.certs.list.drop i) (d0::ds)):=by
    intro P hP hn h;rw [dr] at h;obtain ⟨d,ds',h1,h2,h3,_⟩:=h.2.1 is;injection h1 with h1 _;subst h1;exact hn (hP.2 ⟨h2,h3⟩)
   by_cases b1:d0.1=(c.certs.list[i]!).1
   case neg=>
    refine stop (fol (d0.1=(c.certs.list[i]!).1/\_) bo (fun h=>b1 h.1)) ?_
    unfold dA;simp only [aE,e1,cond_true,aC c.certs.list i hi',aB,hw,is,show ((0:Int) !=0)=false from rfl,cond_false,ae,l0,g0,dL b1]
   have ea:=aNW agd w2 (bM c.field.points (c.certs.list[i]!).2 c.now).1 (c.certs.list[i]!).1 d0.2
   by_cases b2:d0.2.1<0
   · refine stop (fol (d0.1=(c.certs.list[i]!).1/\_) bo (fun h=>by have:=(ea.2 h.2).1;omega)) ?_
     unfold dA;simp only [aE,e1,cond_true,aC c.certs.list i hi',aB,hw,is,show ((0:Int) !=0)=false from rfl,cond_false,ae,l0,g0,bP b1,aH b2]
   by_cases b3:200<=d0.2.1
   · refine stop (fol (d0.1=(c.certs.list[i]!).1/\_) bo (fun h=>by have:=(ea.2 h.2).2.1;omega)) ?_
     unfold dA;simp only [aE,e1,cond_true,aC c.certs.list i hi',aB,hw,is,show ((0:Int) !=0)=false from rfl,cond_false,ae,l0,g0,bP b1,dec_f b2,aH b3]
   have gw:=eG (l:=c.agenda.where_) (i:=d0.2.1) (by omega) (by omega)
   by_cases b4:c.agenda.where_[d0.2.1.toNat]!<0
   · refine stop (fol (d0.1=(c.certs.list[i]!).1/\_) bo (fun h=>by have:=(ea.2 h.2).2.2.1;omega)) ?_
     unfold dA;simp only [aE,e1,cond_true,aC c.certs.list i hi',aB,hw,is,show ((0:Int) !=0)=false from rfl,cond_false,ae,l0,g0,bP b1,dec_f b2,dec_f b3,gw,aH b4]
   have gh:=eG (l:=c.agenda.heap) (i:=c.agenda.where_[d0.2.1.toNat]!) (by omega) (aFW agd (by omega) (by omega))
   have sl:iX (d0::ds) 1 ((((d0::ds).length:Nat):Int))=some ds:=by
    unfold iX;rw [if_pos ⟨by omega,by simp;omega,by omega⟩]
    simp
   have evq: ∀(e:Ev) (p:Int×Int) (n:Int) (h:Int×Int),((e.1==p.1)&&((e.2.1==p.2)&&((e.2.2.1==n)&&((e.2.2.2.1==h.1)&&(e.2.2.2.2==h.2)))))=decide (e=(p.1,p.2,n,h)):=by
    intro e p n h;rw [bv,decide_eq_true_iff];simp only [cw,beq_iff_eq];constructor
    · rintro ⟨h1,h2,h3,h4,h5⟩
      exact au h1 (au h2 (au h3 (au h4 h5)))
    intro h;rw [h];exact ⟨rfl,rfl,rfl,rfl,rfl⟩
   have evq':=evq c.agenda.heap[(c.agenda.where_[d0.2.1.toNat]!).toNat]! (bM c.field.points (c.certs.list[i]!).2 c.now).1 (c.certs.list[i]!).1 d0.2
   by_cases b5:c.agenda.heap[(c.agenda.where_[d0.2.1.toNat]!).toNat]! =((bM c.field.points (c.certs.list[i]!).2 c.now).1.1,(bM c.field.points (c.certs.list[i]!).2 c.now).1.2,(c.certs.list[i]!).1,d0.2)
   case neg=>
    refine stop (fol (d0.1=(c.certs.list[i]!).1/\_) bo (fun h=>b5 (ea.2 h.2).2.2.2)) ?_
    unfold dA;simp only [aE,e1,cond_true,aC c.certs.list i hi',aB,hw,is,show ((0:Int) !=0)=false from rfl,cond_false,ae,l0,g0,bP b1,dec_f b2,dec_f b3,gw,dec_f b4,gh];rw [evq',dec_f b5];rfl
   have hmem:=ea.1 ⟨by omega,by omega,by omega,b5⟩
   rw [bC (y:=(ds,c.certs.list,(c.certs.list.length:Int),((i+1:Nat):Int),c.now.1,c.now.2,c.field.points,c.certs.next_,c.certs.list,c.agenda.slots.uses,c.agenda.slots.used,c.agenda.slots.free,c.agenda.heap,c.agenda.where_,c.due)) (by
    unfold dA;simp only [aE,e1,cond_true,aC c.certs.list i hi',aB,hw,is,show ((0:Int) !=0)=false from rfl,cond_false,ae,l0,g0,bP b1,dec_f b2,dec_f b3,gw,dec_f b4,gh,sl,sc];rw [evq',aH b5]
    rfl),ih (i+1) ds (by omega) (by omega) (by simp at hds;omega)]
   have same:((∀j,i<=j->j<c.certs.list.length->iF c.field.points (c.certs.list[j]!).2)/\aV c.field.points c.now c.agenda.heap (c.certs.list.drop i) (d0::ds))↔((∀j,i+1<=j->j<c.certs.list.length->iF c.field.points (c.certs.list[j]!).2)/\aV c.field.points c.now c.agenda.heap (c.certs.list.drop (i+1)) ds):=by
    rw [dr,all];constructor
    · rintro ⟨⟨_,h1⟩,h2⟩
      obtain ⟨d,ds',k1,k2,k3,k4⟩:=h2.1 is;injection k1 with k1 k5;subst k5;exact ⟨h1,k4⟩
    rintro ⟨h1,h2⟩
    exact ⟨⟨hb,h1⟩,fun _=>⟨d0,ds,rfl,b1,hmem,h2⟩,fun h=>by rw [is] at h;cases h⟩
   simp only [same]
theorem aZ.iff {c:aO} (fit:wJ c):aZ c↔bQ c.now/\cC c.field.points/\fL c.certs/\fN c.agenda/\c.agenda.where_.length=200/\c.agenda.heap.length=c.due.length/\(∀i,i<c.certs.list.length->iF c.field.points (c.certs.list[i]!).2)/\aV c.field.points c.now c.agenda.heap c.certs.list c.due:=
 ⟨fun h=>⟨h.nowv,h.fld,h.crt,h.agd,h.w200,h.hd,h.known,h.fol⟩,fun ⟨h1,h2,h3,h4,h5,h6,h7,h8⟩=>⟨h1,fit.now64,h2,h3,h4,h5,h6,h7,h8⟩⟩
theorem aZ.fit {c:aO} (ok:aZ c):wJ c:=⟨ok.now64,ok.agd.fit,by have:=ok.hd;have:=ok.agd.bd;omega⟩
theorem ZJ {c:aO} {n0 n1 n2 n3:Int}:
 aG fW (4,0,c.now.1,c.now.2,c.field.points,c.certs.next_,c.certs.list,c.agenda.slots.uses,c.agenda.slots.used,c.agenda.slots.free,c.agenda.heap,c.agenda.where_,c.due,[n0,n1,n2,n3])=
  if n0=0/\n1=0/\n2=0/\n3=0 then aG fW (4,4,c.now.1,c.now.2,c.field.points,c.certs.next_,c.certs.list,c.agenda.slots.uses,c.agenda.slots.used,c.agenda.slots.free,c.agenda.heap,c.agenda.where_,c.due,[n0,n1,n2,n3]) else some 8:=by
 have st: ∀(i:Nat) (n:Int),i<4->aL [n0,n1,n2,n3] (i:Int)=some n->aG fW (4,(i:Int),c.now.1,c.now.2,c.field.points,c.certs.next_,c.certs.list,c.agenda.slots.uses,c.agenda.slots.used,c.agenda.slots.free,c.agenda.heap,c.agenda.where_,c.due,[n0,n1,n2,n3])=
  if n=0 then aG fW (4,((i+1:Nat):Int),c.now.1,c.now.2,c.field.points,c.certs.next_,c.certs.list,c.agenda.slots.uses,c.agenda.slots.used,c.agenda.slots.free,c.agenda.heap,c.agenda.where_,c.due,[n0,n1,n2,n3]) else some 8:=by
  intro i n hi hg;have e1:decide ((i:Int)<4)=true:=aH (by omega)
  by_cases h:n=0
  · rw [if_pos h]
    refine bC ?_;unfold fW;simp only [e1,cond_true,hg,aB,bP h,cond_false,aT (show i<1000000000 by omega)]
  rw [if_neg h]
  refine aK ?_;unfold fW;simp only [e1,cond_true,hg,aB,dL h]
 have s0:=st 0 n0 (by omega) rfl
 have s1:=st 1 n1 (by omega) rfl
 have s2:=st 2 n2 (by omega) rfl
 have s3:=st 3 n3 (by omega) rfl
 have c0:((0:Nat):Int)=0:=rfl;have c4:((3+1:Nat):Int)=4:=rfl;rw [c0] at s0;rw [c4] at s3;rw [s0]
 by_cases h0:n0=0
 · rw [if_pos h0,show ((0+1:Nat):Int)=((1:Nat):Int) from rfl,s1]
   by_cases h1:n1=0
   · rw [if_pos h1,show ((1+1:Nat):Int)=((2:Nat):Int) from rfl,s2]
     by_cases h2:n2=0
     · rw [if_pos h2,show ((2+1:Nat):Int)=((3:Nat):Int) from rfl,s3]
       by_cases h3:n3=0
       · rw [if_pos h3,if_pos ⟨h0,h1,h2,h3⟩]
       rw [if_neg h3,if_neg (fun h=>h3 h.2.2.2)]
     rw [if_neg h2,if_neg (fun h=>h2 h.2.2.1)]
   rw [if_neg h1,if_neg (fun h=>h1 h.2.1)]
 rw [if_neg h0,if_neg (fun h=>h0 h.1)]
theorem mG {c:aO} (fit:wJ c):gY c=some (if aZ c then 0 else 8):=by
 unfold gY;rw [dP fit.now64,mF,BK,kL _ fit.ag];simp only [aB];have h4:Int.ofNat [if bQ c.now then (0:Int) else 8,zC c.field.points,if fL c.certs then (0:Int) else 8,if fN c.agenda then (0:Int) else 8].length=4:=rfl
 rw [h4,ZJ];have z: ∀(p:Prop) [Decidable p],(if p then (0:Int) else 8)=0↔p:=fun p _=>by by_cases h:p<;>simp [h]
 simp only [z,mS];have f1:=aZ.iff fit
 by_cases ok:bQ c.now/\cC c.field.points/\fL c.certs/\fN c.agenda
 case neg=>rw [if_neg ok,if_neg (c:=aZ c) (fun h=>ok ⟨h.nowv,h.fld,h.crt,h.agd⟩)]
 obtain ⟨nowv,fld,crt,agd⟩:=ok;rw [if_pos ⟨nowv,fld,crt,agd⟩]
 by_cases w2:c.agenda.where_.length=200
 case neg=>
  rw [if_neg (c:=aZ c) (fun h=>w2 h.w200)]
  refine aK ?_;unfold fW;simp only [aE,dec_f (show¬(4:Int)<4 by omega),cond_false,dL (show¬(c.agenda.where_.length:Int)=200 by omega),cond_true]
 by_cases hd:c.agenda.heap.length=c.due.length
 case neg=>
  rw [if_neg (c:=aZ c) (fun h=>hd h.hd)]
  refine aK ?_;unfold fW;simp only [aE,dec_f (show¬(4:Int)<4 by omega),cond_false,bP (show (c.agenda.where_.length:Int)=200 by omega),dL (show¬(c.agenda.heap.length:Int)=(c.due.length:Int) by omega),cond_true]
 have run:=ZI nowv fit.now64 fld crt agd w2 c.certs.list.length 0 c.due (by omega) (by omega) fit.du
 rw [bz] at run;have same:((∀j,0<=j->j<c.certs.list.length->iF c.field.points (c.certs.list[j]!).2)/\aV c.field.points c.now c.agenda.heap c.certs.list c.due)↔aZ c:=by
  rw [f1];constructor
  · rintro ⟨h1,h2⟩;exact ⟨nowv,fld,crt,agd,w2,hd,fun i hi=>h1 i (by omega) hi,h2⟩
  rintro ⟨_,_,_,_,_,_,h1,h2⟩;exact ⟨fun j _ hj=>h1 j hj,h2⟩
 simp only [same] at run;refine aK ?_;unfold fW;simp only [aE,dec_f (show¬(4:Int)<4 by omega),cond_false,bP (show (c.agenda.where_.length:Int)=200 by omega),bP (show (c.agenda.heap.length:Int)=(c.due.length:Int) by omega)]
 exact run
theorem aNa {a:aP} (ok:fN a) (h:Int×Int):yV a h=some (if AV a.slots h then (a.heap[(a.where_[h.1.toNat]!).toNat]!,0) else ((0,0,0,0,0),6)):=by
 unfold yV;rw [FV a ok.fit,if_pos ok,aCC ok.so];simp only [aB,show ((0:Int) !=0)=false from rfl,cond_false]
 by_cases lv:AV a.slots h
 · obtain ⟨i,hi,hw,hh⟩:=ok.live lv
   have:=lv.1;have:=lv.2.1;have:=ok.wl
   rw [aH lv,if_pos lv,eG (l:=a.where_) lv.1 (by omega),hw]
   simp only [ae,cond_false,aB,aC a.heap i hi,af]
 rw [dec_f lv,if_neg lv];rfl
theorem ZK {c:aO} (now64:oA c.now) (fld:cC c.field.points) (crt:fL c.certs) (agd:fN c.agenda) (w2:c.agenda.where_.length=200) (hdu:c.due.length<=1000000)
 (kn: ∀i,i<c.certs.list.length->iF c.field.points (c.certs.list[i]!).2):
 ∀(d i k:Nat),c.certs.list.length-i<=d->i<=c.certs.list.length->k<=c.due.length->
  aG dZ ((k:Int),(i:Int),c.now.1,c.now.2,c.field.points,c.certs.next_,c.certs.list,c.agenda.slots.uses,c.agenda.slots.used,c.agenda.slots.free,c.agenda.heap,c.agenda.where_,c.due)=
   some (if aV c.field.points c.now c.agenda.heap (c.certs.list.drop i) (c.due.drop k) then 0 else 8):=by
 have hl:=crt.len;have wl:=agd.wl
 have fin: ∀k:Nat,k<=c.due.length->aG dZ ((k:Int),(c.certs.list.length:Int),c.now.1,c.now.2,c.field.points,c.certs.next_,c.certs.list,c.agenda.slots.uses,c.agenda.slots.used,c.agenda.slots.free,c.agenda.heap,c.agenda.where_,c.due)=some (if aV c.field.points c.now c.agenda.heap (c.certs.list.drop c.certs.list.length) (c.due.drop k) then 0 else 8):=by
  intro k hk;rw [be];refine aK ?_;unfold dZ;have e1:decide ((c.certs.list.length:Int)<(c.certs.list.length:Int))=false:=dec_f (by omega)
  simp only [aE,e1,cond_false]
  have:aV c.field.points c.now c.agenda.heap [] (c.due.drop k)↔k=c.due.length:=by
   show c.due.drop k=[]↔_;rw [bg];omega
  by_cases h:k=c.due.length
  · rw [if_pos (this.2 h),bP (by omega)];rfl
  rw [if_neg (fun x=>h (this.1 x)),dL (by omega)];rfl
 intro d
 induction d with
 |zero=>
  intro i k hd hi hk
  have:i=c.certs.list.length:=by omega
  subst this;exact fin k hk
 |succ d ih=>
  intro i k hd hi hk
  by_cases he:i=c.certs.list.length
  · subst he;exact fin k hk
  have hi':i<c.certs.list.length:=by omega
  have e1:decide ((i:Int)<(c.certs.list.length:Int))=true:=aH (by omega)
  have hw:=BM fld (x:=(c.certs.list[i]!).2) (t:=(c.now.1,c.now.2)) now64 (kn i hi');have dr:=xZ hi';have sc:=aT (show i<1000000000 by omega)
  have sk:=aT (show k<1000000000 by omega)
  by_cases is:(bM c.field.points (c.certs.list[i]!).2 c.now).2=true
  case neg=>
   have is':(bM c.field.points (c.certs.list[i]!).2 c.now).2=false:=by simpa using is
   rw [bC (y:=((k:Int),((i+1:Nat):Int),c.now.1,c.now.2,c.field.points,c.certs.next_,c.certs.list,c.agenda.slots.uses,c.agenda.slots.used,c.agenda.slots.free,c.agenda.heap,c.agenda.where_,c.due)) (by
    unfold dZ;simp only [aE,e1,cond_true,aC c.certs.list i hi',aB,hw,sc,is',ay]),ih (i+1) k (by omega) (by omega) hk]
   have same:aV c.field.points c.now c.agenda.heap (c.certs.list.drop i) (c.due.drop k)↔aV c.field.points c.now c.agenda.heap (c.certs.list.drop (i+1)) (c.due.drop k):=by
    rw [dr];exact ⟨fun h=>h.2 is',fun h=>⟨fun h'=>absurd h' is,fun _=>h⟩⟩
   simp only [same]
  have stop:(¬aV c.field.points c.now c.agenda.heap (c.certs.list.drop i) (c.due.drop k))->dZ ((k:Int),(i:Int),c.now.1,c.now.2,c.field.points,c.certs.next_,c.certs.list,c.agenda.slots.uses,c.agenda.slots.used,c.agenda.slots.free,c.agenda.heap,c.agenda.where_,c.due)=some (.done 8)->
   aG dZ ((k:Int),(i:Int),c.now.1,c.now.2,c.field.points,c.certs.next_,c.certs.list,c.agenda.slots.uses,c.agenda.slots.used,c.agenda.slots.free,c.agenda.heap,c.agenda.where_,c.due)=some (if aV c.field.points c.now c.agenda.heap (c.certs.list.drop i) (c.due.drop k) then 0 else 8):=by
   intro h1 h2;rw [if_neg h1];exact aK h2
  by_cases hkl:k=c.due.length
  · refine stop (fun h=>?_) ?_
    · rw [dr] at h
      obtain ⟨d,ds',h1,_⟩:=h.1 is;rw [hkl,be] at h1;cases h1
    unfold dZ
    simp only [aE,e1,cond_true,aC c.certs.list i hi',aB,hw,is,ae,cond_false,aH (show (c.due.length:Int)<=(k:Int) by omega)]
  have hk':k<c.due.length:=by omega
  have dk:=xZ hk';have e2:decide ((c.due.length:Int)<=(k:Int))=false:=dec_f (by omega)
  have fol: ¬((c.due[k]!).1=(c.certs.list[i]!).1/\(((bM c.field.points (c.certs.list[i]!).2 c.now).1.1,(bM c.field.points (c.certs.list[i]!).2 c.now).1.2,(c.certs.list[i]!).1,(c.due[k]!).2):Ev)∈c.agenda.heap)-> ¬aV c.field.points c.now c.agenda.heap (c.certs.list.drop i) (c.due.drop k):=by
   intro hn h;rw [dr,dk] at h;obtain ⟨d,ds',h1,h2,h3,_⟩:=h.1 is;injection h1 with h1 _;subst h1;exact hn ⟨h2,h3⟩
  by_cases b1:(c.due[k]!).1=(c.certs.list[i]!).1
  case neg=>
   refine stop (fol (fun h=>b1 h.1)) ?_
   unfold dZ;simp only [aE,e1,cond_true,aC c.certs.list i hi',aB,hw,is,ae,cond_false,e2,aC c.due k hk',dL b1]
  have fi:=aNa agd (c.due[k]!).2;have ea:=aNW agd w2 (bM c.field.points (c.certs.list[i]!).2 c.now).1 (c.certs.list[i]!).1 (c.due[k]!).2;have fi':yV (aP.mk (aU.mk c.agenda.slots.uses c.agenda.slots.used c.agenda.slots.free) c.agenda.heap c.agenda.where_) (c.due[k]!).2=_:=fi
  by_cases lv:AV c.agenda.slots (c.due[k]!).2
  case neg=>
   rw [if_neg lv] at fi';refine stop (fol (fun h=>lv ?_)) ?_
   · obtain ⟨w,hw',hev⟩:=aW.1 h.2
     have:=(agd.handle hw').1
     rwa [hev] at this
   unfold dZ
   simp only [aE,e1,cond_true,aC c.certs.list i hi',aB,hw,is,ae,cond_false,e2,aC c.due k hk',bP b1,fi',show ((6:Int) !=0)=true from rfl]
  rw [if_pos lv] at fi';obtain ⟨w,hw1,hw2,hw3⟩:=agd.live lv;rw [hw2,af] at fi';have q1:(0<=(c.due[k]!).2.1/\(c.due[k]!).2.1<200/\0<=c.agenda.where_[(c.due[k]!).2.1.toNat]!):=⟨lv.1,by have:=lv.2.1;omega,by rw [hw2];omega⟩
  by_cases b2:(c.agenda.heap[w]!).2.2.1=(c.certs.list[i]!).1
  case neg=>
   refine stop (fol (fun h=>b2 ?_)) ?_
   · have:=(ea.2 h.2).2.2.2
     rw [hw2,af] at this;rw [this]
   unfold dZ
   simp only [aE,e1,cond_true,aC c.certs.list i hi',aB,hw,is,ae,cond_false,e2,aC c.due k hk',bP b1,fi',show ((0:Int) !=0)=false from rfl,dL b2]
  have teq:((c.agenda.heap[w]!).1==(bM c.field.points (c.certs.list[i]!).2 c.now).1.1&&(c.agenda.heap[w]!).2.1==(bM c.field.points (c.certs.list[i]!).2 c.now).1.2)=decide (((c.agenda.heap[w]!).1,(c.agenda.heap[w]!).2.1)=(bM c.field.points (c.certs.list[i]!).2 c.now).1):=by
   rw [bv,decide_eq_true_iff];simp only [cw,beq_iff_eq];constructor
   · rintro ⟨h1,h2⟩;exact au h1 h2
   intro h;rw [<- h];exact ⟨rfl,rfl⟩
  by_cases b3:((c.agenda.heap[w]!).1,(c.agenda.heap[w]!).2.1)=(bM c.field.points (c.certs.list[i]!).2 c.now).1
  case neg=>
   refine stop (fol (fun h=>b3 ?_)) ?_
   · have:=(ea.2 h.2).2.2.2
     rw [hw2,af] at this;rw [this]
   unfold dZ
   simp only [aE,e1,cond_true,aC c.certs.list i hi',aB,hw,is,ae,cond_false,e2,aC c.due k hk',bP b1,fi',show ((0:Int) !=0)=false from rfl,bP b2];rw [teq,dec_f b3];rfl
  have hmem:=ea.1 ⟨q1.1,q1.2.1,q1.2.2,by
   rw [hw2,af];have t1:=congrArg dc b3;have t2:=congrArg dd b3;exact au t1 (au t2 (au b2 hw3))⟩
  rw [bC (y:=(((k+1:Nat):Int),((i+1:Nat):Int),c.now.1,c.now.2,c.field.points,c.certs.next_,c.certs.list,c.agenda.slots.uses,c.agenda.slots.used,c.agenda.slots.free,c.agenda.heap,c.agenda.where_,c.due)) (by
   unfold dZ;simp only [aE,e1,cond_true,aC c.certs.list i hi',aB,hw,is,ae,cond_false,e2,aC c.due k hk',bP b1,fi',show ((0:Int) !=0)=false from rfl,bP b2,sc,sk];rw [teq,aH b3]
   rfl),ih (i+1) (k+1) (by omega) (by omega) (by omega)]
  have same:aV c.field.points c.now c.agenda.heap (c.certs.list.drop i) (c.due.drop k)↔aV c.field.points c.now c.agenda.heap (c.certs.list.drop (i+1)) (c.due.drop (k+1)):=by
   rw [dr,dk];constructor
   · intro h2
     obtain ⟨d,ds',k1,k2,k3,k4⟩:=h2.1 is;injection k1 with k1 k5;subst k5;exact k4
   intro h2
   exact ⟨fun _=>⟨_,_,rfl,b1,hmem,h2⟩,fun h=>by rw [is] at h;cases h⟩
  simp only [same]
theorem QO {c:aO} (fit:wJ c):AL c=some (if aZ c then 0 else 8):=by
 unfold AL;rw [mC fit.now64,PZ,FY,FV _ fit.ag];simp only [aB]
 by_cases nowv:bQ c.now
 case neg=>rw [if_neg nowv,if_neg (c:=aZ c) (fun h=>nowv h.nowv)];rfl
 rw [if_pos nowv]
 by_cases fld:cC c.field.points
 case neg=>rw [dL (fun h=>fld (mS.1 h)),if_neg (c:=aZ c) (fun h=>fld h.fld)];rfl
 rw [bP (mS.2 fld)]
 by_cases crt:fL c.certs
 case neg=>rw [if_neg crt,if_neg (c:=aZ c) (fun h=>crt h.crt)];rfl
 rw [if_pos crt];have kn:=aFV c.certs fld crt.len;simp only [show ((0:Int) !=0)=false from rfl,cond_false,kn,aB]
 by_cases known: ∀i,i<c.certs.list.length->iF c.field.points (c.certs.list[i]!).2
 case neg=>rw [dec_f known,if_neg (c:=aZ c) (fun h=>known h.known)];rfl
 rw [aH known]
 by_cases agd:fN c.agenda
 case neg=>rw [if_neg agd,if_neg (c:=aZ c) (fun h=>agd h.agd)];rfl
 rw [if_pos agd];simp only [aE,show ((0:Int) !=0)=false from rfl,cond_false,ae]
 by_cases w2:c.agenda.where_.length=200
 case neg=>rw [dL (by omega),if_neg (c:=aZ c) (fun h=>w2 h.w200)];rfl
 rw [bP (by omega)]
 by_cases hd:c.agenda.heap.length=c.due.length
 case neg=>rw [dL (by omega),if_neg (c:=aZ c) (fun h=>hd h.hd)];rfl
 rw [bP (by omega)]
 have run:=ZK fit.now64 fld crt agd w2 fit.du known c.certs.list.length 0 0 (by omega) (by omega) (by omega)
 rw [bz,bz] at run;have same:aV c.field.points c.now c.agenda.heap c.certs.list c.due↔aZ c:=by
  rw [aZ.iff fit];exact ⟨fun h=>⟨nowv,fld,crt,agd,w2,hd,known,h⟩,fun h=>h.2.2.2.2.2.2.2⟩
 simp only [same] at run;simp only [cond_false];exact run
section
variable {l : List Pt} {t : Int × Int}
theorem aV.cons_true {H:List Ev} {x:wI} {cs ds:List wI} (h:(bM l x.2 t).2=true):aV l t H (x::cs) ds↔ ∃d ds',ds=d::ds'/\d.1=x.1/\(((bM l x.2 t).1.1,(bM l x.2 t).1.2,x.1,d.2):Ev)∈H/\aV l t H cs ds':=
 ⟨fun k=>k.1 h,fun k=>⟨fun _=>k,fun k'=>(by rw [h] at k';cases k')⟩⟩
theorem aV.cons_false {H:List Ev} {x:wI} {cs ds:List wI} (h:(bM l x.2 t).2=false):aV l t H (x::cs) ds↔aV l t H cs ds:=
 ⟨fun k=>k.2 h,fun k=>⟨fun k'=>(by rw [h] at k';cases k'),fun _=>k⟩⟩
theorem aV.mono {H H':List Ev}: ∀{cs ds:List wI},(∀x∈cs,∀e:Ev,e.num=x.1->e∈H->e∈H')->aV l t H cs ds->aV l t H' cs ds
 | [],_,_,h=>h
 |x::cs,ds,hm,h=>by
  have hm': ∀y∈cs,∀e:Ev,e.num=y.1->e∈H->e∈H':=fun y hy=>hm y (by simp [hy])
  cases hx:(bM l x.2 t).2 with
  |true=>
   rw [aV.cons_true hx] at h ⊢;obtain ⟨d,ds',h1,h2,h3,h4⟩:=h;exact ⟨d,ds',h1,h2,hm x (by simp) _ rfl h3,aV.mono hm' h4⟩
  |false=>
   rw [aV.cons_false hx] at h ⊢;exact aV.mono hm' h
theorem aV.due {H:List Ev}: ∀{cs ds:List wI},aV l t H cs ds-> ∀d∈ds,∃x∈cs,d.1=x.1/\(bM l x.2 t).2=true/\(((bM l x.2 t).1.1,(bM l x.2 t).1.2,x.1,d.2):Ev)∈H
 | [],ds,h,d,hd=>by
  have:ds=[]:=h
  subst this;cases hd
 |x::cs,ds,h,d,hd=>by
  cases hx:(bM l x.2 t).2 with
  |true=>
   rw [aV.cons_true hx] at h;obtain ⟨e,ds',h1,h2,h3,h4⟩:=h;subst h1;rcases ce.1 hd with rfl|hd
   · exact ⟨x,by simp,h2,hx,h3⟩
   obtain ⟨y,hy,k⟩:=aV.due h4 d hd
   exact ⟨y,by simp [hy],k⟩
  |false=>
   rw [aV.cons_false hx] at h;obtain ⟨y,hy,k⟩:=aV.due h d hd;exact ⟨y,by simp [hy],k⟩
theorem aV.has {H:List Ev}: ∀{cs ds:List wI},aV l t H cs ds-> ∀x∈cs,(bM l x.2 t).2=true-> ∃d∈ds,d.1=x.1/\(((bM l x.2 t).1.1,(bM l x.2 t).1.2,x.1,d.2):Ev)∈H
 | [],_,_,x,hx,_=>by cases hx
 |y::cs,ds,h,x,hx,hf=>by
  cases hy:(bM l y.2 t).2 with
  |true=>
   rw [aV.cons_true hy] at h;obtain ⟨e,ds',h1,h2,h3,h4⟩:=h;subst h1;rcases ce.1 hx with rfl|hx
   · exact ⟨e,by simp,h2,h3⟩
   obtain ⟨d,hd,k⟩:=aV.has h4 x hx hf
   exact ⟨d,by simp [hd],k⟩
  |false=>
   rw [aV.cons_false hy] at h;rcases ce.1 hx with rfl|hx
   · rw [hf] at hy;cases hy
   exact aV.has h x hx hf
def Up (cs:List wI):Prop:=cs.Pairwise fun x y=>x.1<y.1
theorem xU {cs:List wI}:Up cs↔ ∀i j,i<j->j<cs.length->(cs[i]!).1<(cs[j]!).1:=by
 unfold Up;rw [List.pairwise_iff_getElem];constructor
 · intro h i j hij hj
   rw [getElem!_pos cs i (by omega),getElem!_pos cs j hj]
   exact h i j (by omega) hj hij
 intro h i j hi hj hij
 have:=h i j hij hj
 rwa [getElem!_pos cs i hi,getElem!_pos cs j hj] at this
theorem aV.up {H:List Ev}: ∀{cs ds:List wI},aV l t H cs ds->Up cs->Up ds
 | [],ds,h,_=>by
  have:ds=[]:=h
  subst this;exact List.Pairwise.nil
 |x::cs,ds,h,hu=>by
  have hu':=cj.1 hu;cases hx:(bM l x.2 t).2 with
  |true=>
   rw [aV.cons_true hx] at h;obtain ⟨e,ds',h1,h2,h3,h4⟩:=h;subst h1;refine cj.2 ⟨fun d hd=>?_,aV.up h4 hu'.2⟩
   obtain ⟨y,hy,k,_⟩:=aV.due h4 d hd
   have:=hu'.1 y hy
   omega
  |false=>
   rw [aV.cons_false hx] at h;exact aV.up h hu'.2
theorem aV.snoc {H:List Ev}: ∀{cs ds:List wI} {x:wI},aV l t H cs ds->((bM l x.2 t).2=false->aV l t H (cs++[x]) ds)/\
 (∀d:wI,(bM l x.2 t).2=true->d.1=x.1->(((bM l x.2 t).1.1,(bM l x.2 t).1.2,x.1,d.2):Ev)∈H->aV l t H (cs++[x]) (ds++[d]))
 | [],ds,x,h=>by
  have:ds=[]:=h
  subst this;refine ⟨fun hx=>(aV.cons_false hx).2 rfl,fun d hx h1 h2=>(aV.cons_true hx).2 ⟨d,[],rfl,h1,h2,rfl⟩⟩
 |y::cs,ds,x,h=>by
  cases hy:(bM l y.2 t).2 with
  |true=>
   rw [aV.cons_true hy] at h;obtain ⟨e,ds',h1,h2,h3,h4⟩:=h;subst h1;have ih:=aV.snoc (x:=x) h4;refine ⟨fun hx=>(aV.cons_true hy).2 ⟨e,ds',rfl,h2,h3,ih.1 hx⟩,fun d hx k1 k2=>(aV.cons_true hy).2 ⟨e,ds'++[d],rfl,h2,h3,ih.2 d hx k1 k2⟩⟩
  |false=>
   rw [aV.cons_false hy] at h;have ih:=aV.snoc (x:=x) h;exact ⟨fun hx=>(aV.cons_false hy).2 (ih.1 hx),fun d hx k1 k2=>(aV.cons_false hy).2 (ih.2 d hx k1 k2)⟩
theorem aV.erase {H:List Ev}: ∀{cs ds:List wI} {i:Nat},aV l t H cs ds->i<cs.length->((bM l (cs[i]!).2 t).2=false->aV l t H (cs.eraseIdx i) ds)/\
 ((bM l (cs[i]!).2 t).2=true-> ∃k,k<ds.length/\(ds[k]!).1=(cs[i]!).1/\(((bM l (cs[i]!).2 t).1.1,(bM l (cs[i]!).2 t).1.2,(cs[i]!).1,(ds[k]!).2):Ev)∈H/\aV l t H (cs.eraseIdx i) (ds.eraseIdx k))
 | [],_,i,_,hi=>by cases hi
 |y::cs,ds,0,h,_=>by
  show ((bM l y.2 t).2=false->aV l t H cs ds)/\((bM l y.2 t).2=true-> ∃k,k<ds.length/\(ds[k]!).1=y.1/\(((bM l y.2 t).1.1,(bM l y.2 t).1.2,y.1,(ds[k]!).2):Ev)∈H/\aV l t H cs (ds.eraseIdx k));refine ⟨fun hy=>(aV.cons_false hy).1 h,fun hy=>?_⟩
  obtain ⟨e,ds',h1,h2,h3,h4⟩:=(aV.cons_true hy).1 h;subst h1;exact ⟨0,by simp,h2,h3,h4⟩
 |y::cs,ds,i+1,h,hi=>by
  have hi':i<cs.length:=by simpa using hi
  show ((bM l (cs[i]!).2 t).2=false->aV l t H (y::cs.eraseIdx i) ds)/\((bM l (cs[i]!).2 t).2=true-> ∃k,k<ds.length/\(ds[k]!).1=(cs[i]!).1/\(((bM l (cs[i]!).2 t).1.1,(bM l (cs[i]!).2 t).1.2,(cs[i]!).1,(ds[k]!).2):Ev)∈H/\aV l t H (y::cs.eraseIdx i) (ds.eraseIdx k));cases hy:(bM l y.2 t).2 with
  |true=>
   obtain ⟨e,ds',h1,h2,h3,h4⟩:=(aV.cons_true hy).1 h;subst h1;have ih:=aV.erase (i:=i) h4 hi';refine ⟨fun hx=>(aV.cons_true hy).2 ⟨e,ds',rfl,h2,h3,ih.1 hx⟩,fun hx=>?_⟩
   obtain ⟨k,k1,k2,k3,k4⟩:=ih.2 hx;exact ⟨k+1,by simp;omega,k2,k3,(aV.cons_true hy).2 ⟨e,ds'.eraseIdx k,rfl,h2,h3,k4⟩⟩
  |false=>
   have h:=(aV.cons_false hy).1 h;have ih:=aV.erase (i:=i) h hi';refine ⟨fun hx=>(aV.cons_false hy).2 (ih.1 hx),fun hx=>?_⟩
   obtain ⟨k,k1,k2,k3,k4⟩:=ih.2 hx;exact ⟨k,k1,k2,k3,(aV.cons_false hy).2 k4⟩
end
theorem M3 {H:List Ev} {ns:List Int} (hd:ns.Nodup) (hl:H.length<=ns.length) (he: ∀n∈ns,∃e∈H,Ev.num e=n): ∀e∈H,Ev.num e∈ns:=by
 have pos: ∀n,n∈ns-> ∃w,w<H.length/\Ev.num H[w]! =n:=fun n hn=>by
  obtain ⟨e,he,h2⟩:=he n hn;obtain ⟨w,hw,rfl⟩:=aW.1 he;exact ⟨w,hw,h2⟩
 let f:Int->Nat:=fun n=>if h: ∃w,w<H.length/\Ev.num H[w]! =n then h.choose else 0
 have hf: ∀n∈ns,f n<H.length/\Ev.num H[f n]! =n:=fun n hn=>by
  have h:=pos n hn;show (if h: ∃w,w<H.length/\Ev.num H[w]! =n then h.choose else 0)<_/\Ev.num H[(if h: ∃w,w<H.length/\Ev.num H[w]! =n then h.choose else 0)]! =n
  rw [dif_pos h];exact h.choose_spec
 have full:=MY (n:=H.length) (l:=ns.map f) (GU hd fun x hx y hy h=>by
  have h1:=(hf x hx).2;have h2:=(hf y hy).2;rw [h] at h1
  omega) (fun x hx=>by
  obtain ⟨n,hn,rfl⟩:=ax.1 hx;exact (hf n hn).1) (by rw [c6];exact hl)
 intro e hm;obtain ⟨w,hw,rfl⟩:=aW.1 hm;obtain ⟨n,hn,h⟩:=ax.1 (full w hw);rw [<- h,(hf n hn).2];exact hn
theorem ZL {cs:List wI} (h:Up cs):(cs.map fun x=>x.1).Nodup:=by
 refine GU ?_ ?_
 · unfold Up at h
   exact h.imp fun hab he=>by rw [he] at hab;omega
 intro x hx y hy he
 obtain ⟨i,hi,rfl⟩:=aW.1 hx;obtain ⟨j,hj,rfl⟩:=aW.1 hy;rcases bj i j with h1|h1|h1
 · have:=xU.1 h i j h1 hj;omega
 · rw [h1]
 have:=xU.1 h j i h1 hi;omega
theorem aZ.crt_up {c:aO} (ok:aZ c):Up c.certs.list:=xU.2 ok.crt.up
theorem aZ.due_up {c:aO} (ok:aZ c):Up c.due:=ok.fol.up ok.crt_up
theorem aZ.nums {c:aO} (ok:aZ c): ∀e∈c.agenda.heap,∃d∈c.due,d.1=Ev.num e:=by
 have:=M3 (H:=c.agenda.heap) (ZL ok.due_up) (by rw [c6,ok.hd];exact ai _) (fun n hn=>by
  obtain ⟨d,hd,rfl⟩:=ax.1 hn;obtain ⟨x,hx,h1,h2,h3⟩:=ok.fol.due d hd;exact ⟨_,h3,h1.symm⟩)
 intro e he;obtain ⟨d,hd,h⟩:=ax.1 (this e he);exact ⟨d,hd,h⟩
end Go.Proofs.YtlnclppkepgdmaaGreat
