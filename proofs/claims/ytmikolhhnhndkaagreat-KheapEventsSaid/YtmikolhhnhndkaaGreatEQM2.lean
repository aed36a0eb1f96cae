/- Plain laws (2). -/
import Derived.Test.YtmikolhhnhndkaaGreatEQM1
open Classical renaming not_not->ut,not_forall->EQ,not_imp->IR
open List renaming length_set->v6,length_take->If,take_of_length_le->M2,take_append_of_le_length->NE,mem_map->UV,append_assoc->acl,drop_length->ad1,drop_eq_nil_iff->ad2,length_append->ad3,set_eq_of_length_le->ad5,length_drop->ad6,drop_eq_nil_of_le->ad9,drop_zero->adu,filter_eq_self->adz,mem_cons->adB,getElem?_take->adD,filter_append->adG,pairwise_cons->adU,getElem?_set->adV,length_cons->adW,isEmpty_iff->adX,length_nil->adZ,append_nil->ae6,length_map->ae9,replicate->aea,take_take->aeb,set_comm->aee,length->aem
open Bool renaming not_true->ww,not_false->ac6,eq_iff_iff->adc,and_eq_true->adY,and_self->aef,true->aeo,false->aes
open Int renaming toNat_natCast->AC,lt_irrefl->adA
open Nat renaming le_refl->Do,ble_eq_true_of_le->ad0,lt_trichotomy->ad4,sub_self->ad8,eq_of_beq_eq_true->ads,le_trans->aeg,beq->aeh,min_self->ael
open Prod renaming ext->PP,fst->aec,snd->aed
open Iff renaming rfl->ad7
open Option renaming some->aen
open Decidable renaming decide->aev
namespace Go.Proofs.YtmikolhhnhndkaaGreat
open Go.Vm Classical
theorem Hs (a:aH) (fit:wT a) (so:dY a.ai) (wl:(aem a.ao)=aem a.ai.aq):
 aD jB (a.ao,((aem a.ao):Int),0,a.ai.aq,a.ai.bi,a.ai.bv,a.ce,a.ao)=aen (if (∀i,i<aem a.ai.aq->EE a i)/\(∀k,k<aem a.ce->Fp a.ce k) then 0 else 8):=by
 have hu:=so.ul;have hn:=so.n2;have hh:=fit.hp;have tB:=Hr a.ce a.ai.aq a.ai.bv a.ao a.ai.bi fit.hp fit.Jz;have key:=cJ (body:=jB) (fun i=>(a.ao,((aem a.ao):Int),(i:Int),a.ai.aq,a.ai.bi,a.ai.bv,a.ce,a.ao)) (aem a.ao) (fun i=> ¬EE a i) (r:=8) (e:=if (∀k,k<aem a.ce->Fp a.ce k) then 0 else 8) (fun i hi=>by
  have e1:aev ((i:Int)<((aem a.ao):Int))=aeo:=aK (by omega);unfold jB;simp only [aB,e1,lw,au a.ao i hi,au a.ai.bi i (by omega),au a.ai.aq i (by omega),ar,bk (show i<1000000000 by omega)];unfold EE;generalize a.ao[i]! =w at*;cases hb:a.ai.bi[i]! with
  |false=>
   simp only [ac6,lw]
   by_cases hw:w= -1
   · rw [cK hw]
     exact ⟨fun h=>absurd ⟨fun h=>(by cases h),fun _=>hw⟩ h,fun _=>rfl⟩
   rw [dS hw]
   exact ⟨fun _=>rfl,fun h=>absurd ((ut.1 h).2 trivial) hw⟩
  |true=>
   simp only [ww,pp]
   by_cases b1:w<0
   · rw [aK b1]
     exact ⟨fun _=>rfl,fun h=>absurd ((ut.1 h).1 trivial).1 (by omega)⟩
   by_cases b2:((aem a.ce):Int)<=w
   · rw [aG b1,aK b2]
     exact ⟨fun _=>rfl,fun h=>absurd ((ut.1 h).1 trivial).2.1 (by omega)⟩
   rw [aG b1,aG b2];simp only [pp,cZ (l:=a.ce) (i:=w) (by omega) (by omega),ar]
   by_cases b3:(a.ce[w.toNat]!).2.2.2.1=i
   · by_cases b4:(a.ce[w.toNat]!).2.2.2.2=a.ai.aq[i]!
     · rw [dB b3,dB b4]
       exact ⟨fun h=>absurd ⟨fun _=>⟨by omega,by omega,b3,b4⟩,fun h=>(by cases h)⟩ h,fun _=>rfl⟩
     rw [dB b3,dL b4]
     exact ⟨fun _=>rfl,fun h=>absurd ((ut.1 h).1 trivial).2.2.2 b4⟩
   rw [dL b3]
   exact ⟨fun _=>rfl,fun h=>absurd ((ut.1 h).1 trivial).2.2.1 b3⟩) (by
  unfold jB;have:aev (((aem a.ao):Int)<((aem a.ao):Int))=aes:=aG (by omega);simp only [aB,this,pp]
  by_cases hx: ∀k,k<aem a.ce->Fp a.ce k
  · rw [rc hx];exact tB.1 hx
  rw [sp hx];exact tB.2 hx)
 by_cases hw: ∀i,i<aem a.ai.aq->EE a i
 · refine (key.2 fun i hi=>ut.2 (hw i (by omega))).trans ?_
   by_cases hx: ∀k,k<aem a.ce->Fp a.ce k
   · rw [rc hx,rc ⟨hw,hx⟩]
   rw [sp hx,sp (fun h=>hx h.2)]
 rw [sp (fun h=>hw h.1)]
 obtain ⟨i,h⟩:=EQ.1 hw;obtain ⟨hi,hx⟩:=IR.1 h;exact key.1 ⟨i,by omega,hx⟩
theorem gZ (a:aH) (fit:wT a):ie a=aen (if dT a then 0 else 8):=by
 have hh:=fit.hp;unfold ie;rw [sO _ fit.fr];simp only [aB]
 by_cases so:dY a.ai
 case neg=>rw [sp so,sp (fun h=>so h.so)];rfl
 have hu:=so.ul;have hn:=so.n2;have hf:=so.fl;rw [rc so];simp only [ar,show ((0:Int) !=0)=aes from rfl,pp]
 by_cases wl:(aem a.ao)=aem a.ai.aq
 case neg=>rw [dS (by omega),sp (fun h=>wl h.wl)];rfl
 rw [cK (by omega)];have e:aj .i64 (((aem a.ai.bi):Int) - ((aem a.ai.bv):Int))=((aem a.ai.aq-(aem a.ai.bv):Nat):Int):=by rw [wi];omega
 rw [e]
 by_cases hl:(aem a.ce)+aem a.ai.bv=aem a.ai.aq
 case neg=>rw [dS (by omega),sp (fun h=>hl h.hl)];rfl
 rw [cK (by omega)];simp only [pp];rw [Hs a fit so wl]
 by_cases ok:dT a
 · rw [rc ok,rc ok.to]
 rw [sp ok,sp]
 intro h;exact ok (dT.of fit so wl hl h.1 h.2)
theorem RM {x y:Ev} (hx:jP (x.1,x.2.1)) (hy:jP (y.1,y.2.1)):dH x y=aen (aev (less x y)):=by
 unfold dH less;rw [ze hx hy];simp only [ar];generalize eK (x.1,x.2.1) (y.1,y.2.1)=c
 by_cases h1:c<0
 · simp [h1]
 by_cases h2:c=0
 · subst h2;simp
 simp only [h1,dL h2,h2,decide_false,pp,false_or,false_and]
theorem M4 {s:aU} (ok:dY s) (h:Int×Int):qN s h=aen (aev (sj s h)):=by
 have hu:=ok.ul;unfold qN sj;simp only [aB]
 by_cases a1:0<=h.1
 · by_cases a2:h.1<aem s.aq
   · simp only [a1,a2,decide_true,lw,cZ (l:=s.bi) a1 (by omega),cZ (l:=s.aq) a1 a2,ar,true_and]
     generalize s.aq[h.1.toNat]! =u;cases s.bi[h.1.toNat]!<;>simp [MX]
   simp [a1,a2]
 simp [a1]
theorem OH (a:aH) (so:dY a.ai):qk a=aen (aev (aem a.ao=aem a.ai.aq/\aem a.ce+aem a.ai.bv=aem a.ai.aq/\ ∀i,i<aem a.ai.aq->EE a i)):=by
 have hu:=so.ul;have hn:=so.n2;have hf:=so.fl;unfold qk;simp only [aB]
 by_cases wl:(aem a.ao)=aem a.ai.aq
 case neg=>rw [dS (by omega),aG (fun h=>wl h.1)];rfl
 rw [cK (by omega)];have e:aj .i64 (((aem a.ai.aq):Int) - ((aem a.ai.bv):Int))=((aem a.ai.aq-(aem a.ai.bv):Nat):Int):=by rw [wi];omega
 rw [e]
 by_cases hl:(aem a.ce)+aem a.ai.bv=aem a.ai.aq
 case neg=>rw [dS (by omega),aG (fun h=>hl h.2.1)];rfl
 rw [cK (by omega)];simp only [pp];have key:=cJ (body:=lC) (fun i=>(((aem a.ai.aq):Int),(i:Int),a.ai.aq,a.ai.bi,a.ai.bv,a.ce,a.ao)) (aem a.ai.aq) (fun i=> ¬EE a i) (r:=aes) (e:=aeo) (fun i hi=>by
  have e1:aev ((i:Int)<((aem a.ai.aq):Int))=aeo:=aK (by omega);unfold lC;simp only [aB,e1,lw,au a.ao i (by omega),au a.ai.bi i (by omega),ar,bk (show i<1000000000 by omega)];unfold EE;generalize a.ao[i]! =w at*;cases hb:a.ai.bi[i]! with
  |false=>
   simp only [ac6,lw]
   by_cases hw:w= -1
   · rw [cK hw]
     exact ⟨fun h=>absurd ⟨fun h=>(by cases h),fun _=>hw⟩ h,fun _=>rfl⟩
   rw [dS hw]
   exact ⟨fun _=>rfl,fun h=>absurd ((ut.1 h).2 trivial) hw⟩
  |true=>
   simp only [ww,pp]
   by_cases b1:w<0
   · rw [aK b1]
     exact ⟨fun _=>rfl,fun h=>absurd ((ut.1 h).1 trivial).1 (by omega)⟩
   by_cases b2:((aem a.ce):Int)<=w
   · rw [aG b1,aK b2]
     exact ⟨fun _=>rfl,fun h=>absurd ((ut.1 h).1 trivial).2.1 (by omega)⟩
   rw [aG b1,aG b2];simp only [pp,cZ (l:=a.ce) (i:=w) (by omega) (by omega),ar]
   by_cases b3:(a.ce[w.toNat]!).2.2.2.1=i
   · rw [cK b3]
     simp only [pp];rw [M4 (s:=⟨a.ai.aq,a.ai.bi,a.ai.bv⟩) so];have lv:sj ⟨a.ai.aq,a.ai.bi,a.ai.bv⟩ (a.ce[w.toNat]!).2.2.2↔(a.ce[w.toNat]!).2.2.2.2=a.ai.aq[i]!:=by
      unfold sj;dsimp only;rw [b3];constructor
      · intro h;exact h.2.2.2.symm
      intro h;exact ⟨by omega,by omega,by rw [AC];exact hb,by rw [AC];exact h.symm⟩
     simp only [ar,lv]
     by_cases b4:(a.ce[w.toNat]!).2.2.2.2=a.ai.aq[i]!
     · rw [aK b4]
       exact ⟨fun h=>absurd ⟨fun _=>⟨by omega,by omega,b3,b4⟩,fun h=>(by cases h)⟩ h,fun _=>rfl⟩
     rw [aG b4]
     exact ⟨fun _=>rfl,fun h=>absurd ((ut.1 h).1 trivial).2.2.2 b4⟩
   rw [dS b3]
   exact ⟨fun _=>rfl,fun h=>absurd ((ut.1 h).1 trivial).2.2.1 b3⟩) (by
  unfold lC;have:aev (((aem a.ai.aq):Int)<((aem a.ai.aq):Int))=aes:=aG (by omega);simp only [this,pp])
 by_cases hw: ∀i,i<aem a.ai.aq->EE a i
 · rw [aK ⟨wl,hl,hw⟩]
   exact key.2 fun i hi=>ut.2 (hw i hi)
 rw [aG (fun h=>hw h.2.2)]
 obtain ⟨i,h⟩:=EQ.1 hw;obtain ⟨hi,hx⟩:=IR.1 h;exact key.1 ⟨i,hi,hx⟩
theorem JA (H:List Ev) (u fr W:List Int) (us:List Bool) (k:Nat) (hk:k<aem H) (hl:(aem H)<=1000000) (x:Ev):
 ((∃j,j<k/\(H[j]!).2.2.1=x.2.2.1)->aD iX ((k:Int),0,u,us,fr,H,W,x)=aen (.done 8))/\
 ((∀j,j<k-> ¬(H[j]!).2.2.1=x.2.2.1)->aD iX ((k:Int),0,u,us,fr,H,W,x)=aen (.next (((k+1:Nat):Int),u,us,fr,H,W))):=by
 refine cJ (body:=iX) (fun j=>((k:Int),(j:Int),u,us,fr,H,W,x)) k (fun j=>(H[j]!).2.2.1=x.2.2.1) (r:= .done 8) (e:= .next (((k+1:Nat):Int),u,us,fr,H,W)) (fun j hj=>?_) ?_
 · have e1:aev ((j:Int)<(k:Int))=aeo:=aK (by omega)
   unfold iX;simp only [e1,lw,au H j (by omega),ar,bk (show j<1000000000 by omega)];constructor
   · intro h;rw [dB h];rfl
   intro h;rw [dL h];rfl
 unfold iX
 have:aev ((k:Int)<(k:Int))=aes:=aG (by omega);simp only [this,pp,bk (show k<1000000000 by omega)]
theorem JB (H:List Ev) (u fr W:List Int) (us:List Bool) (hl:(aem H)<=1000000) (pN: ∀w,w<aem H->jP ((H[w]!).1,(H[w]!).2.1)):
 aD iY (1,u,us,fr,H,W)=aen (.done (if∀k,0<k->k<aem H-> ¬less H[k]! H[(k-1) / 2]! then 0 else 8)):=by
 by_cases h0:(aem H)=0
 · rw [rc (fun k _ hk=>by omega)]
   refine aJ ?_;unfold iY;have:aev ((1:Int)<((aem H):Int))=aes:=aG (by omega);simp only [aB,this,pp]
 have key:=cJ (body:=iY) (fun i=>(((i+1:Nat):Int),u,us,fr,H,W)) (aem H-1) (fun i=>less H[i+1]! H[i / 2]!) (r:= .done 8) (e:= .done 0) (fun i hi=>by
  have e1:aev (((i+1:Nat):Int)<((aem H):Int))=aeo:=aK (by omega);unfold iY;simp only [aB,e1,lw,pM (show i<1000000000 by omega),au H (i+1) (by omega),au H (i / 2) (by omega),ar,RM (pN (i+1) (by omega)) (pN (i / 2) (by omega)),bk (show i+1<1000000000 by omega)];constructor
  · intro h;rw [aK h];rfl
  · intro h;rw [aG h];rfl) (by
  unfold iY;have:aev (((aem H-1+1:Nat):Int)<((aem H):Int))=aes:=aG (by omega);simp only [aB,this,pp])
 by_cases ho: ∀k,0<k->k<aem H-> ¬less H[k]! H[(k-1) / 2]!
 · rw [rc ho]
   refine key.2 fun i hi hc=>ho (i+1) (by omega) (by omega) ?_
   rwa [show (i+1-1) / 2=i / 2 by omega]
 rw [sp ho]
 obtain ⟨k,h⟩:=EQ.1 ho;obtain ⟨k0,h⟩:=IR.1 h;obtain ⟨hk,hx⟩:=IR.1 h;refine key.1 ⟨k-1,by omega,?_⟩;rw [show k-1+1=k by omega];exact ut.1 hx
def Ht (H:List Ev) (k:Nat):Prop:=aZ ((H[k]!).1,(H[k]!).2.1)/\0<=(H[k]!).2.2.1/\(H[k]!).2.2.1<=1000000/\(∀j,j<k-> ¬(H[j]!).2.2.1=(H[k]!).2.2.1)
theorem wU (a:aH) (fit:wT a):ph a=aen (if dT a then 0 else 8):=by
 have hh:=fit.hp;unfold ph;rw [ED _ fit.fr]
 by_cases so:dY a.ai
 case neg=>rw [sp so,sp (fun h=>so h.so)];rfl
 rw [rc so];simp only [ar,show ((0:Int) !=0)=aes from rfl,pp,OH a so]
 by_cases pl:(aem a.ao)=aem a.ai.aq/\aem a.ce+aem a.ai.bv=aem a.ai.aq/\ ∀i,i<aem a.ai.aq->EE a i
 case neg=>rw [aG pl,sp (fun h=>pl ⟨h.wl,h.hl,h.to.1⟩)];rfl
 rw [aK pl];obtain ⟨wl,hl,hw⟩:=pl;simp only [ww,pp];have key:=cJ (body:=ng) (fun k=>((k:Int),a.ai.aq,a.ai.bi,a.ai.bv,a.ce,a.ao)) (aem a.ce) (fun k=> ¬Ht a.ce k) (r:=8) (e:=if∀k,0<k->k<aem a.ce-> ¬less a.ce[k]! a.ce[(k-1) / 2]! then 0 else 8) (fun k hk=>by
  have e1:aev ((k:Int)<((aem a.ce):Int))=aeo:=aK (by omega);have l1:=JA a.ce a.ai.aq a.ai.bv a.ao a.ai.bi k hk hh a.ce[k]!;unfold ng;simp only [aB,e1,lw,au a.ce k hk,ar,qS (fit.Jz k hk)];unfold Ht
  by_cases b1:aZ ((a.ce[k]!).1,(a.ce[k]!).2.1)
  case neg=>rw [sp b1];exact ⟨fun _=>rfl,fun h=>absurd (ut.1 h).1 b1⟩
  rw [rc b1]
  by_cases b2:(a.ce[k]!).2.2.1<0
  · rw [aK b2]
    exact ⟨fun _=>rfl,fun h=>absurd (ut.1 h).2.1 (by omega)⟩
  by_cases b3:1000000<(a.ce[k]!).2.2.1
  · rw [aG b2,aK b3]
    exact ⟨fun _=>rfl,fun h=>absurd (ut.1 h).2.2.1 (by omega)⟩
  rw [aG b2,aG b3];simp only [show ((0:Int) !=0)=aes from rfl,pp]
  by_cases b4: ∃j,j<k/\(a.ce[j]!).2.2.1=(a.ce[k]!).2.2.1
  · refine ⟨fun _=>l1.1 b4,fun h=>?_⟩
    obtain ⟨j,j1,j2⟩:=b4;exact absurd j2 ((ut.1 h).2.2.2 j j1)
  · have b4': ∀j,j<k-> ¬(a.ce[j]!).2.2.1=(a.ce[k]!).2.2.1:=fun j h1 h2=>b4 ⟨j,h1,h2⟩
    exact ⟨fun h=>absurd ⟨b1,by omega,by omega,b4'⟩ h,fun _=>l1.2 b4'⟩) (by
  unfold ng;have:aev (((aem a.ce):Int)<((aem a.ce):Int))=aes:=aG (by omega);simp only [aB,this,pp];exact JB a.ce _ _ _ _ hh fit.Jz)
 have same:dT a↔(∀k,k<aem a.ce->Ht a.ce k)/\ ∀k,0<k->k<aem a.ce-> ¬less a.ce[k]! a.ce[(k-1) / 2]!:=by
  constructor
  · intro ok
    refine ⟨fun k hk=>?_,ok.ord⟩;have:=ok.to.2 k hk;exact ⟨this.1,this.2.1,this.2.2.1,this.2.2.2.1⟩
  rintro ⟨h1,h2⟩
  refine dT.of fit so wl hl hw fun k hk=>?_
  obtain ⟨c1,c2,c3,c4⟩:=h1 k hk;refine ⟨c1,c2,c3,c4,fun k0=>?_⟩;unfold LK;rw [rc ⟨c1,(h1 ((k-1) / 2) (by omega)).1⟩,Av];exact h2 k k0 hk
 by_cases he: ∀k,k<aem a.ce->Ht a.ce k
 · refine (key.2 fun i hi=>ut.2 (he i hi)).trans ?_
   by_cases ho: ∀k,0<k->k<aem a.ce-> ¬less a.ce[k]! a.ce[(k-1) / 2]!
   · rw [rc ho,rc (same.2 ⟨he,ho⟩)]
   rw [sp ho,sp (fun h=>ho (same.1 h).2)]
 rw [sp (fun h=>he (same.1 h).1)]
 obtain ⟨i,h⟩:=EQ.1 he;obtain ⟨hi,hx⟩:=IR.1 h;exact key.1 ⟨i,hi,hx⟩
theorem yo {l:List Ev} {n:Nat} {e:Ev} (hn:n<=aem l):e∈l.take n↔ ∃w,w<n/\l[w]! =e:=by
 rw [cI];constructor
 · rintro ⟨i,h1,_,h3⟩;exact ⟨i,h1,h3⟩
 rintro ⟨i,h1,h3⟩;exact ⟨i,h1,by omega,h3⟩
theorem X8 {s:aU} (so:dY s) {n:Nat} {H:List Ev} {W:List Int} (E:Ev->Prop) (hn:n<=aem H) (wl:(aem W)=aem s.aq) (hl:n+aem s.bv=aem s.aq)
 (ix: ∀w,w<n->0<=(H[w]!).ix/\(H[w]!).ix<aem W/\W[(H[w]!).n]! =(w:Int)) (mem: ∀e,(∃w,w<n/\H[w]! =e)↔E e) (ord: ∀k,0<k->k<n-> ¬less H[k]! H[(k-1) / 2]!)
 (ue: ∀i,i<aem s.aq->s.bi[i]! =aeo-> ∃e:Ev,E e/\e.ix=i/\e.2.2.2.2=s.aq[i]!) (un: ∀i,i<aem s.aq->s.bi[i]! =aes->W[i]! = -1)
 (ev: ∀e,E e->om e) (wV: ∀e f:Ev,E e->E f->e.num=f.num->e.ix=f.ix):dT ⟨s,H.take n,W⟩:=by
 have len:(H.take n).length=n:=by rw [If];omega
 have cell: ∀w,w<n->(H.take n)[w]! =H[w]!:=fun w hw=>jK hw
 refine ⟨so,wl,by show (H.take n).length+_=_;rw [len];exact hl,?_,un,?_,?_,?_⟩
 · intro i hi hu
   dsimp only at hi hu ⊢;rw [len];obtain ⟨e,he,e1,e2⟩:=ue i hi hu;obtain ⟨w,hw,rfl⟩:=(mem e).2 he;obtain ⟨a1,a2,a3⟩:=ix w hw;have hn':(H[w]!).n=i:=by show ((H[w]!).ix).toNat=i;omega
   rw [hn'] at a3;rw [a3,AC,cell w hw];exact ⟨by omega,by omega,e1,e2⟩
 · intro w hw
   dsimp only at hw ⊢;rw [len] at hw;rw [cell w hw];exact ev _ ((mem _).1 ⟨w,hw,rfl⟩)
 · intro v w hv hw
   dsimp only at hw ⊢;rw [len] at hw;rw [cell v (by omega),cell w hw];intro hc;have:=wV _ _ ((mem _).1 ⟨v,by omega,rfl⟩) ((mem _).1 ⟨w,hw,rfl⟩) hc;obtain ⟨a1,a2,a3⟩:=ix v (by omega);obtain ⟨b1,b2,b3⟩:=ix w hw;have hn':(H[v]!).n=(H[w]!).n:=by show ((H[v]!).ix).toNat=((H[w]!).ix).toNat;rw [this]
   rw [hn'] at a3;omega
 intro k k0 hk
 dsimp only at hk ⊢;rw [len] at hk;rw [cell k hk,cell _ (by omega)];exact ord k k0 hk
theorem sR {s:aU} (so:dY s) {n:Nat} {x:Ev} {M:Ev->Prop} {K:Nat->Prop} {H H1:List Ev} {W W1:List Int} (st:xG n x M K H W H1 W1) (hn:n<=aem H) (wl:(aem W)=aem s.aq) (hl:n+aem s.bv=aem s.aq)
 (ue: ∀i,i<aem s.aq->s.bi[i]! =aeo-> ∃e:Ev,(e=x\/M e)/\e.ix=i/\e.2.2.2.2=s.aq[i]!) (un: ∀i,i<aem s.aq->s.bi[i]! =aes->K i/\W[i]! = -1)
 (ev: ∀e,(e=x\/M e)->om e) (wV: ∀e f:Ev,(e=x\/M e)->(f=x\/M f)->e.num=f.num->e.ix=f.ix):dT ⟨s,H1.take n,W1⟩:=by
 refine X8 so (fun e=>e=x\/M e) (by rw [st.hl];exact hn) (by rw [st.wl];exact wl) hl (by rw [st.wl];exact st.ix) st.mem st.ord ue ?_ ev wV;intro i hi hu;rw [st.out i (un i hi hu).1];exact (un i hi hu).2
theorem dT.bd {a:aH} (ok:dT a):(aem a.ce)<=200/\aem a.ao<=200:=by have:=ok.hl;have:=ok.wl;have:=ok.so.n2;omega
theorem dT.cells {a:aH} (ok:dT a):kD (aem a.ce) a.ce a.ao:=by have:=ok.bd;refine ⟨Do _,by omega,fun w hw=>?_⟩;obtain ⟨b1,b2,b3,b4,b5⟩:=ok.back hw;exact ⟨ok.ev w hw,b1,by rw [ok.wl];exact b2⟩
theorem dT.inj {a:aH} (ok:dT a) {v w:Nat} (hv:v<aem a.ce) (hw:w<aem a.ce) (h:Ev.ix a.ce[v]! =Ev.ix a.ce[w]!):v=w:=by
 have h1:=(ok.back hv).2.2.2.2;have h2:=(ok.back hw).2.2.2.2;have:Ev.n a.ce[v]! =Ev.n a.ce[w]!:=by show (Ev.ix a.ce[v]!).toNat=(Ev.ix a.ce[w]!).toNat;rw [h]
 rw [this] at h1;omega
theorem dT.Ju {a:aH} (ok:dT a) {i k:Nat} (i0:0<i) (k0:0<k) (hk:k<aem a.ce) (hp:(k-1) / 2=i): ¬less a.ce[k]! a.ce[(i-1) / 2]!:=by have h1:=ok.ord k k0 hk;rw [hp] at h1;exact tD (ok.ev _ (by omega)).den (ok.ev _ (by omega)).den (ok.ev _ hk).den (ok.ord i i0 (by omega)) h1
theorem dT.live {a:aH} (ok:dT a) {h:Int×Int} (lv:sj a.ai h): ∃i,i<aem a.ce/\a.ao[h.1.toNat]! =(i:Int)/\(a.ce[i]!).2.2.2=h:=by
 obtain ⟨l1,l2,l3,l4⟩:=lv;obtain ⟨f1,f2,f3,f4⟩:=ok.fwd h.1.toNat (by omega) l3;refine ⟨(a.ao[h.1.toNat]!).toNat,by omega,by omega,?_⟩;have e1:(a.ce[(a.ao[h.1.toNat]!).toNat]!).2.2.2.1=h.1:=by have:Ev.ix a.ce[(a.ao[h.1.toNat]!).toNat]! =(h.1.toNat:Int):=f3;have h2:Ev.ix a.ce[(a.ao[h.1.toNat]!).toNat]! =(a.ce[(a.ao[h.1.toNat]!).toNat]!).2.2.2.1:=rfl;omega
 exact PP e1 (by rw [f4,l4])
theorem dT.handle {a:aH} (ok:dT a) {i:Nat} (hi:i<aem a.ce):sj a.ai (a.ce[i]!).2.2.2/\a.ao[((a.ce[i]!).2.2.2.1).toNat]! =(i:Int):=by obtain ⟨b1,b2,b3,b4,b5⟩:=ok.back hi;exact ⟨⟨b1,b2,b3,b4⟩,b5⟩
theorem dT.CV {a:aH} (ok:dT a) {i:Nat} (hi:i<aem a.ai.aq) (hu:a.ai.bi[i]! =aeo): ∃w,w<aem a.ce/\Ev.ix a.ce[w]! =i/\(a.ce[w]!).2.2.2.2=a.ai.aq[i]!:=by obtain ⟨f1,f2,f3,f4⟩:=ok.fwd i hi hu;exact ⟨(a.ao[i]!).toNat,by omega,f3,f4⟩
theorem dT.Gg {a:aH} (ok:dT a) {i:Nat} (hu:a.ai.bi[i]! =aes) {w:Nat} (hw:w<aem a.ce):Ev.n a.ce[w]!≠i:=by intro h;have:=(ok.back hw).2.2.1;rw [h,hu] at this;cases this
theorem dT.wV {a:aH} (ok:dT a) {v w:Nat} (hv:v<aem a.ce) (hw:w<aem a.ce) (h:Ev.num a.ce[v]! =Ev.num a.ce[w]!):v=w:=by
 rcases ad4 v w with h1|h1|h1
 · exact absurd h (ok.nd v w h1 hw)
 · exact h1
 exact absurd h.symm (ok.nd w v h1 hv)
theorem ez {α:Type} [Inhabited α] {l:List α} {k:Nat} {v:α} (h:l[k]! =v):l.set k v=l:=by
 by_cases hk:k<aem l
 · apply Aq (by rw [v6])
   intro i hi;rw [bc];split
   · rename_i e;rw [e.1];exact h.symm
   rfl
 exact ad5 (by omega)
def oo (x:Ev) (t:Int×Int):Ev:=(t.1,t.2,x.2.2)
noncomputable def iO (a:aH) (i:Nat) (t:Int×Int):aH:=⟨a.ai,(bV (aem a.ce) (oo a.ce[i]! t) i a.ce a.ao).1,(bV (aem a.ce) (oo a.ce[i]! t) i a.ce a.ao).2⟩
theorem EF {a:aH} (ok:dT a) {i:Nat} (hi:i<aem a.ce) {t:Int×Int} (ht:aZ t) (h64:jP t):om (oo a.ce[i]! t):=by have:=ok.ev i hi;exact ⟨ht,h64,this.2.2.1,this.2.2.2⟩
theorem EG {a:aH} (ok:dT a) {i:Nat} (hi:i<aem a.ce) (t:Int×Int):zh (aem a.ce) (oo a.ce[i]! t) (fun e=> ∃w,w<aem a.ce/\w≠i/\a.ce[w]! =e) a.ce a.ao i:=by obtain ⟨b1,b2,b3,b4,b5⟩:=ok.back hi;refine ⟨hi,Do _,fun w hw Hn=>?_,b1,by rw [ok.wl];exact b2,fun e=>ad7⟩;obtain ⟨c1,c2,c3,c4,c5⟩:=ok.back hw;exact ⟨c1,by rw [ok.wl];exact c2,c5,fun h=>Hn (ok.inj hw hi h)⟩
theorem Gh {a:aH} (ok:dT a) (i:Nat):Ord (aem a.ce) a.ce i:=
 ⟨fun w hw=>(ok.ev w hw).den,fun k k0 hk _ _=>ok.ord k k0 hk,fun i0 _k k0 hk hp=>ok.Ju i0 k0 hk hp⟩
theorem lr {a:aH} (ok:dT a) {i:Nat} (hi:i<aem a.ce) {t:Int×Int} (ht:aZ t):
 xG (aem a.ce) (oo a.ce[i]! t) (fun e=> ∃w,w<aem a.ce/\w≠i/\a.ce[w]! =e) (fun k=>k≠Ev.n (oo a.ce[i]! t)/\ ∀w,w<aem a.ce->w≠i->Ev.n a.ce[w]!≠k) a.ce a.ao (iO a i t).ce (iO a i t).ao:=
 wR (x:=oo a.ce[i]! t) ht.1 (EG ok hi t) (Gh ok i)
theorem BB {a:aH} (ok:dT a) {i:Nat} (hi:i<aem a.ce) {t:Int×Int} (ht:aZ t):(iO a i t).ce.length=aem a.ce/\(iO a i t).ao.length=(aem a.ao):=
 ⟨(lr ok hi ht).hl,(lr ok hi ht).wl⟩
theorem OI {a:aH} (ok:dT a) {i:Nat} (hi:i<aem a.ce) {t:Int×Int} (ht:aZ t) (e:Ev):e∈(iO a i t).ce↔(e=oo a.ce[i]! t\/(e∈a.ce/\e≠a.ce[i]!)):=by
 have st:=lr ok hi ht;have h1:e∈(iO a i t).ce↔ ∃w,w<aem a.ce/\((iO a i t).ce)[w]! =e:=by rw [aN,(BB ok hi ht).1]
 rw [h1];refine (st.mem e).trans ?_;constructor
 · rintro (h|⟨w,hw,Hn,rfl⟩)
   · exact .inl h
   exact .inr ⟨aR hw,fun h=>Hn (ok.inj hw hi (by rw [h]))⟩
 rintro (h|⟨h,dC⟩)
 · exact .inl h
 obtain ⟨w,hw,rfl⟩:=aN.1 h
 exact .inr ⟨w,hw,fun h=>dC (by rw [h]),rfl⟩
theorem RN {a:aH} (ok:dT a) {i:Nat} (hi:i<aem a.ce) {t:Int×Int} (ht:aZ t) (h64:jP t):dT (iO a i t):=by
 have st:=lr ok hi ht;have len:=(BB ok hi ht).1;have hx:Ev.ix (oo a.ce[i]! t)=Ev.ix a.ce[i]!:=rfl;have key:=sR ok.so st (Do _) ok.wl ok.hl (fun j hj hu=>by
  obtain ⟨w,hw,e1,e2⟩:=ok.CV hj hu
  by_cases e:w=i
  · subst e;exact ⟨oo a.ce[w]! t,.inl rfl,e1,e2⟩
  · exact ⟨a.ce[w]!,.inr ⟨w,hw,e,rfl⟩,e1,e2⟩) (fun j hj hu=>⟨⟨(ok.Gg hu hi).symm,fun w hw _=>ok.Gg hu hw⟩,ok.un j hj hu⟩) (by
  rintro e (rfl|⟨w,hw,_,rfl⟩)
  · exact EF ok hi ht h64
  · exact ok.ev w hw) (by
  rintro e f (rfl|⟨v,hv,hvi,rfl⟩) (rfl|⟨w,hw,Hn,rfl⟩) he
  · rfl
  · exact absurd (ok.wV hi hw he).symm Hn
  · exact absurd (ok.wV hv hi he) hvi
  rw [ok.wV hv hw he])
 have:(iO a i t).ce.take (aem a.ce)=(iO a i t).ce:=M2 (by rw [len];exact Do _);show dT ⟨a.ai,(iO a i t).ce,(iO a i t).ao⟩;rw [<- this];exact key
theorem JC {a:aH} (ok:dT a) (fit:wT a) {h:Int×Int} {i:Nat} (hi:i<aem a.ce) (hh:(a.ce[i]!).2.2.2=h):mU a h=aen ((i:Int),0):=by
 obtain ⟨lv,wv⟩:=ok.handle hi;rw [hh] at lv;unfold mU;rw [gZ a fit,rc ok];simp only [ar,show ((0:Int) !=0)=aes from rfl,pp,Cc ok.so,aK lv,ww];have:=lv.2.1;have:=lv.1;have:=ok.wl;have e:(a.ce[i]!).2.2.2.1=h.1:=by rw [hh]
 rw [cZ (l:=a.ao) lv.1 (by omega),<- e,wv];rfl
theorem CA {a:aH} (ok:dT a) (fit:wT a) {h t:Int×Int} {i:Nat} (hi:i<aem a.ce) (hh:(a.ce[i]!).2.2.2=h) (ht:aZ t) (h64:jP t):qj a h t=aen (iO a i t,0):=by
 have bd:=ok.bd;obtain ⟨b1,b2,b3,b4,b5⟩:=ok.back hi;unfold qj;rw [gZ a fit,rc ok,df h64,rc ht];have pl:=JC ok fit hi hh;have se:=EA (u:=a.ai.aq) (us:=a.ai.bi) (fr:=a.ai.bv) (EF ok hi ht h64) (show 0<=Ev.ix (oo a.ce[i]! t) from b1) ok.cells rfl hi (show Ev.ix (oo a.ce[i]! t)<(aem a.ao) by rw [ok.wl];exact b2);have se':dU (a.ai.aq,a.ai.bi,a.ai.bv,(i:Int),t.1,t.2,(a.ce[i]!).2.2.1,(a.ce[i]!).2.2.2.1,(a.ce[i]!).2.2.2.2,a.ce,a.ao)=aen (bV (aem a.ce) (oo a.ce[i]! t) i a.ce a.ao):=se;simp only [ar,gt_iff_lt,adA,if_false,show ((0:Int) !=0)=aes from rfl,pp,pl,bo (show (aem a.ce)<=1048576 by omega),bo (show (aem a.ao)<=1048576 by omega),au a.ce i hi,se'];rfl
theorem oO {a:aH} (ok:dT a):od a=aen a:=by have bd:=ok.bd;unfold od;simp only [sP ok.so,ar,bo (show (aem a.ce)<=1048576 by omega),bo (show (aem a.ao)<=1048576 by omega)]
theorem BC {a:aH} (ok:dT a) {h t:Int×Int} {i:Nat} (hi:i<aem a.ce) (hh:(a.ce[i]!).2.2.2=h) (ht:aZ t) (h64:jP t):sL a h t=aen (iO a i t):=by
 have bd:=ok.bd;obtain ⟨b1,b2,b3,b4,b5⟩:=ok.back hi;obtain ⟨lv,wv⟩:=ok.handle hi;have hx:=EF ok hi ht h64;have x1:Ev.ix (oo a.ce[i]! t)<(aem a.ao):=by rw [ok.wl];exact b2
 have st:=lr ok hi ht;obtain ⟨j,H1,W1,e1,e3,e4,e5,e6,e7,e8,e9,WE⟩:=CS (x:=oo a.ce[i]! t) ht.1 i a.ce a.ao (EG ok hi t) (Gh ok i);have w1:a.ao.set (Ev.n (oo a.ce[i]! t)) (i:Int)=a.ao:=ez b5;unfold sL;rw [oO ok];have g1:aC a.ao h.1=aen (i:Int):=by
  have e:(a.ce[i]!).2.2.2.1=h.1:=by rw [hh]
  rw [cZ (l:=a.ao) (i:=h.1) (by rw [<- e];exact b1) (by rw [<- e,ok.wl];exact b2),<- e,wv]
 have u1:qQ ((i:Int),a.ai.aq,a.ai.bi,a.ai.bv,a.ce.set i (oo a.ce[i]! t),a.ao)=aen ((j:Int),a.ai.aq,a.ai.bi,a.ai.bv,H1.set j (oo a.ce[i]! t),W1.set (Ev.n (oo a.ce[i]! t)) (j:Int)):=by unfold qQ;have:=RH (c0:=((i:Int),a.ai.aq,a.ai.bi,a.ai.bv,a.ce.set i (oo a.ce[i]! t),a.ao)) (u:=a.ai.aq) (us:=a.ai.bi) (fr:=a.ai.bv) hx b1 rfl rfl rfl i a.ce a.ao ok.cells hi rfl x1 v6 rfl;rw [w1,e1] at this;exact this
 have LL:kD (aem a.ce) H1 W1:=by refine ⟨by rw [e5];exact Do _,by omega,fun w hw=>?_⟩;exact ⟨(wS ok.cells hi e1 w hw).1,(wS ok.cells hi e1 w hw).2.1,by rw [e6];exact (wS ok.cells hi e1 w hw).2.2⟩
 have d1:oh ((j:Int),a.ai.aq,a.ai.bi,a.ai.bv,H1.set j (oo a.ce[i]! t),W1.set (Ev.n (oo a.ce[i]! t)) (j:Int))=aen (a.ai.aq,a.ai.bi,a.ai.bv,(bV (aem a.ce) (oo a.ce[i]! t) i a.ce a.ao).1,(bV (aem a.ce) (oo a.ce[i]! t) i a.ce a.ao).2):=by
  unfold oh;have:=Jx (c0:=((j:Int),a.ai.aq,a.ai.bi,a.ai.bv,H1.set j (oo a.ce[i]! t),W1.set (Ev.n (oo a.ce[i]! t)) (j:Int))) (n:=aem a.ce) (u:=a.ai.aq) (us:=a.ai.bi) (fr:=a.ai.bv) hx b1 rfl rfl rfl (aem a.ce) j H1 W1 (by omega) LL e3.lt e5 (by rw [e6];exact x1) v6 v6;rw [this];unfold bV;rw [e1]
 have s1:bP a.ce (i:Int) (t.1,t.2,(a.ce[i]!).2.2)=a.ce.set i (oo a.ce[i]! t):=rfl;simp only [ar,g1,au a.ce i hi,s1,u1,d1];rfl
theorem Gi (H:List Ev) (n:Int) (hl:(aem H)<=1000000):cm H n=aen (aev (∃w,w<aem H/\(H[w]!).2.2.1=n)):=by
 unfold cm dP;have key:=ik (body:=ck) (fun i=>(H,n,((aem H):Int),(i:Int))) (aem H) (fun i=>(H[i]!).2.2.1=n) (fun i=>(i:Int)) (e:= -1) (fun i hi=>by
  have e1:aev ((i:Int)<((aem H):Int))=aeo:=aK (by omega);unfold ck sJ;simp only [e1,lw,au H i hi,ar,bk (show i<1000000000 by omega)];constructor
  · intro h;rw [dB h];rfl
  · intro h;rw [dL h];rfl) (by
  unfold ck;have:aev (((aem H):Int)<((aem H):Int))=aes:=aG (by omega);simp only [this,pp])
 rw [aB]
 by_cases hx: ∃w,w<aem H/\(H[w]!).2.2.1=n
 · obtain ⟨k,h1,h2,h3⟩:=least hx
   have:=key.1 k h1 h2 h3;rw [show ((0:Nat):Int)=0 from rfl] at this;rw [this,aK hx];simp only [ar,aK (show (0:Int)<=(k:Int) by omega)]
 have:=key.2 fun i hi he=>hx ⟨i,hi,he⟩
 rw [show ((0:Nat):Int)=0 from rfl] at this;rw [this,aG hx];rfl
noncomputable def cN (a:aH) (t:Int×Int) (n:Int):Ev:=(t.1,t.2,n,jq a.ai)
noncomputable def jr (a:aH) (t:Int×Int) (n:Int):aH:=
 ⟨fq a.ai,(bV (aem a.ce+1) (cN a t n) (aem a.ce) (a.ce++[cN a t n]) a.ao).1,(bV (aem a.ce+1) (cN a t n) (aem a.ce) (a.ce++[cN a t n]) a.ao).2⟩
section
variable {a : aH} (ok : dT a) (op : tC a.ai) {t : Int × Int} (ht : aZ t) (h64 : jP t) {n : Int} (n0 : 0 <= n) (n1 : n <= 1000000)
include ok op
theorem Ay:Ev.ix (cN a t n)=(cq a.ai:Int)/\cq a.ai<aem a.ai.aq/\a.ai.bi[cq a.ai]! =aes/\aem a.ai.bv=(fq a.ai).bv.length+1:=by
 obtain ⟨h1,h2,h3⟩:=uS ok.so op.1;refine ⟨rfl,h1,?_,?_⟩
 · have:=ok.so.uf (cq a.ai) h1
   cases h:a.ai.bi[cq a.ai]! with
   |false=>rfl
   |true=>exact absurd h3 (this.1 h)
 show _=(a.ai.bv.take (aem a.ai.bv-1)).length+1
 have:=op.1;rw [If];omega
theorem Gj:zh (aem a.ce+1) (cN a t n) (fun e=>e∈a.ce) (a.ce++[cN a t n]) a.ao (aem a.ce):=by
 obtain ⟨h1,h2,h3,h4⟩:=Ay (t:=t) (n:=n) ok op;have cell: ∀w,w<aem a.ce->(a.ce++[cN a t n])[w]! =a.ce[w]!:=fun w hw=>eM hw
 refine ⟨by omega,by simp,fun w hw Hn=>?_,by rw [h1];omega,by rw [h1,ok.wl];omega,fun e=>?_⟩
 · have Sy:w<(aem a.ce):=by omega
   rw [cell w Sy];obtain ⟨c1,c2,c3,c4,c5⟩:=ok.back Sy;refine ⟨c1,by rw [ok.wl];exact c2,c5,fun h=>?_⟩;rw [h1] at h;have:Ev.n a.ce[w]! =cq a.ai:=by show (Ev.ix a.ce[w]!).toNat=_;omega
   exact ok.Gg h3 Sy this
 constructor
 · rintro ⟨w,hw,Hn,rfl⟩
   rw [cell w (by omega)];exact aR (by omega)
 intro h
 obtain ⟨w,hw,rfl⟩:=aN.1 h;exact ⟨w,by omega,by omega,cell w hw⟩
theorem JD (ht:aZ t):Ord (aem a.ce+1) (a.ce++[cN a t n]) (aem a.ce):=by
 have _:=op;have cell: ∀w,w<aem a.ce->(a.ce++[cN a t n])[w]! =a.ce[w]!:=fun w hw=>eM hw
 refine ⟨fun w hw=>?_,fun k k0 hk k1 k2=>?_,fun i0 k k0 hk hp=>by omega⟩
 · by_cases h:w<aem a.ce
   · rw [cell w h];exact (ok.ev w h).den
   have:w=(aem a.ce):=by omega
   subst this;rw [fC (Do _),ad8];exact ht.1
 rw [cell k (by omega),cell _ (by omega)]
 exact ok.ord k k0 (by omega)
theorem uV (ht:aZ t):xG (aem a.ce+1) (cN a t n) (fun e=>e∈a.ce) (fun k=>k≠Ev.n (cN a t n)/\ ∀w,w<aem a.ce+1->w≠aem a.ce->Ev.n (a.ce++[cN a t n])[w]!≠k) (a.ce++[cN a t n]) a.ao (jr a t n).ce (jr a t n).ao:=
 wR (x:=cN a t n) ht.1 (Gj ok op) (JD ok op ht)
theorem Az (ht:aZ t):(jr a t n).ce.length=aem a.ce+1:=by have:=(uV (n:=n) ok op ht).hl;rw [this];simp
theorem JE (ht:aZ t) (e:Ev):e∈(jr a t n).ce↔(e=cN a t n\/e∈a.ce):=by have st:=uV (n:=n) ok op ht;rw [aN,Az ok op ht];exact st.mem e
theorem Hu (ht:aZ t) (h64:jP t) (n0:0<=n) (n1:n<=1000000):om (cN a t n):=by have _:=ok;have _:=op;exact ⟨ht,h64,n0,n1⟩
theorem M5 (ht:aZ t) (h64:jP t) (n0:0<=n) (n1:n<=1000000) (nn: ∀e∈a.ce,Ev.num e≠n):dT (jr a t n):=by
 have st:=uV (n:=n) ok op ht;have len:=Az (n:=n) ok op ht;obtain ⟨h1,h2,h3,h4⟩:=Ay (t:=t) (n:=n) ok op;have hu:=ok.so.ul;have ul:(fq a.ai).aq.length=(aem a.ai.aq):=v6;have key:=sR (RD ok.so op) st (by simp) (by rw [ul];exact ok.wl) (by rw [ul];have:=ok.hl;omega) (fun j hj AN=>by
  rw [ul] at hj;change (a.ai.bi.set (cq a.ai) aeo)[j]! =aeo at AN;rw [bc] at AN;show∃e:Ev,_/\_/\_=(a.ai.aq.set (cq a.ai) (a.ai.aq[cq a.ai]!+1))[j]!;rw [bc]
  by_cases e:j=cq a.ai
  · rw [rc ⟨e,h2⟩]
    exact ⟨cN a t n,.inl rfl,by rw [h1,e],rfl⟩
  · rw [sp (fun k=>e k.1)]
    rw [sp (fun k=>e k.1)] at AN;obtain ⟨w,hw,e1,e2⟩:=ok.CV hj AN;exact ⟨a.ce[w]!,.inr (aR hw),e1,e2⟩) (fun j hj AN=>by
  rw [ul] at hj;change (a.ai.bi.set (cq a.ai) aeo)[j]! =aes at AN;rw [bc] at AN
  by_cases e:j=cq a.ai
  · rw [rc ⟨e,by omega⟩] at AN;cases AN
  · rw [sp (fun k=>e k.1)] at AN
    refine ⟨⟨?_,fun w hw Hn=>?_⟩,ok.un j hj AN⟩
    · show j≠(Ev.ix (cN a t n)).toNat
      omega
    rw [eM (by omega)]
    exact ok.Gg AN (by omega)) (by
  rintro e (rfl|h)
  · exact Hu ok op ht h64 n0 n1
  · obtain ⟨w,hw,rfl⟩:=aN.1 h
    exact ok.ev w hw) (by
  rintro e f (rfl|he) (rfl|hf) hn
  · rfl
  · exact absurd hn.symm (nn f hf)
  · exact absurd hn (nn e he)
  obtain ⟨v,hv,rfl⟩:=aN.1 he
  obtain ⟨w,hw,rfl⟩:=aN.1 hf;rw [ok.wV hv hw hn])
 have:(jr a t n).ce.take (aem a.ce+1)=(jr a t n).ce:=M2 (by rw [len];exact Do _);show dT ⟨fq a.ai,(jr a t n).ce,(jr a t n).ao⟩;rw [<- this];exact key
theorem EH (ht:aZ t) (h64:jP t) (n0:0<=n) (n1:n<=1000000):kD (aem a.ce+1) (a.ce++[cN a t n]) a.ao:=by
 have bd:=ok.bd;obtain ⟨h1,h2,h3,h4⟩:=Ay (t:=t) (n:=n) ok op;refine ⟨by simp,by simp;omega,fun w hw=>?_⟩
 by_cases h:w<aem a.ce
 · rw [eM h];exact ok.cells.ev w h
 have:w=(aem a.ce):=by omega
 subst this;rw [fC (Do _),ad8];exact ⟨Hu ok op ht h64 n0 n1,by show 0<=Ev.ix (cN a t n);omega,by show Ev.ix (cN a t n)<_;rw [ok.wl];omega⟩
theorem tF (fit:wT a) (ht:aZ t) (h64:jP t) (n0:0<=n) (n1:n<=1000000) (nn: ∀e∈a.ce,Ev.num e≠n):jg a t n=aen (jr a t n,jq a.ai,0):=by
 have bd:=ok.bd;obtain ⟨h1,h2,h3,h4⟩:=Ay (t:=t) (n:=n) ok op;have hn: ¬ ∃w,w<aem a.ce/\(a.ce[w]!).2.2.1=n:=by rintro ⟨w,hw,e⟩;exact nn _ (aR hw) e
 unfold jg;rw [gZ a fit,rc ok,df h64,rc ht,Gi _ _ (by omega),aG hn,Au ok.so,rc op];have se:=EA (u:=(fq a.ai).aq) (us:=(fq a.ai).bi) (fr:=(fq a.ai).bv) (Hu ok op ht h64 n0 n1) (show 0<=Ev.ix (cN a t n) by omega) (EH ok op ht h64 n0 n1) (by simp) (show (aem a.ce)<aem a.ce+1 by omega) (show Ev.ix (cN a t n)<(aem a.ao) by rw [ok.wl];omega);have e1:aj .i64 (((a.ce++[cN a t n]).length:Int) -1)=((aem a.ce):Int):=by rw [wi,ad3];simp;omega
 have ap:bL a.ce [(t.1,t.2,n,jq a.ai)]=aen (a.ce++[cN a t n]):=eW (by simp;omega);have se':dU ((fq a.ai).aq,(fq a.ai).bi,(fq a.ai).bv,((aem a.ce):Int),t.1,t.2,n,(jq a.ai).1,(jq a.ai).2,a.ce++[cN a t n],a.ao)=aen (bV (aem a.ce+1) (cN a t n) (aem a.ce) (a.ce++[cN a t n]) a.ao):=se;simp only [ar,gt_iff_lt,adA,if_false,show ((0:Int) !=0)=aes from rfl,pp,aG (show¬n<0 by omega),aG (show¬1000000<n by omega),bo (show (aem a.ce)<=1048576 by omega),bo (show (aem a.ao)<=1048576 by omega),ap,aB,e1,se'];rfl
theorem vp (ht:aZ t) (h64:jP t) (n0:0<=n) (n1:n<=1000000):eh a t n=aen (jr a t n,jq a.ai):=by
 have bd:=ok.bd;obtain ⟨h1,h2,h3,h4⟩:=Ay (t:=t) (n:=n) ok op;unfold eh;rw [oO ok];have e1:aj .i64 (((a.ce++[cN a t n]).length:Int) -1)=((aem a.ce):Int):=by rw [wi,ad3];simp;omega
 have ap:bL a.ce [(t.1,t.2,n,jq a.ai)]=aen (a.ce++[cN a t n]):=eW (by simp;omega);have hx:=Hu (n:=n) ok op ht h64 n0 n1;have last:bV (aem a.ce+1) (cN a t n) (aem a.ce) (a.ce++[cN a t n]) a.ao=_:=Jv (x:=cN a t n) ht.1 (Gj ok op) (JD ok op ht) (fun k k0 hk hp=>by omega);have hs:(a.ce++[cN a t n]).set (aem a.ce) (cN a t n)=a.ce++[cN a t n]:=ez (by rw [fC (Do _),ad8];rfl);have ws:bP a.ao (jq a.ai).1 ((aem a.ce):Int)=a.ao.set (Ev.n (cN a t n)) ((aem a.ce):Int):=rfl
 have u1:qR ((fq a.ai).aq,(fq a.ai).bi,(fq a.ai).bv,((aem a.ce):Int),a.ce++[cN a t n],a.ao.set (Ev.n (cN a t n)) ((aem a.ce):Int))=aen (((gN (cN a t n) (aem a.ce) (a.ce++[cN a t n]) a.ao).1:Int),(gN (cN a t n) (aem a.ce) (a.ce++[cN a t n]) a.ao).2.1.set (gN (cN a t n) (aem a.ce) (a.ce++[cN a t n]) a.ao).1 (cN a t n),(gN (cN a t n) (aem a.ce) (a.ce++[cN a t n]) a.ao).2.2.set (Ev.n (cN a t n)) ((gN (cN a t n) (aem a.ce) (a.ce++[cN a t n]) a.ao).1:Int)):=by
  unfold qR;have:=RJ (c0:=((fq a.ai).aq,(fq a.ai).bi,(fq a.ai).bv,((aem a.ce):Int),a.ce++[cN a t n],a.ao.set (Ev.n (cN a t n)) ((aem a.ce):Int))) (u:=(fq a.ai).aq) (us:=(fq a.ai).bi) (fr:=(fq a.ai).bv) hx (show 0<=Ev.ix (cN a t n) by omega) (aem a.ce) (a.ce++[cN a t n]) a.ao (EH ok op ht h64 n0 n1) (by omega) (by simp) (by rw [ok.wl];omega) rfl v6;rw [hs] at this;exact this
 have g1:aC a.ao (jq a.ai).1=aen a.ao[cq a.ai]!:=au a.ao (cq a.ai) (by rw [ok.wl];exact h2);simp only [ar,Ex ok.so op,ap,g1,aB,e1,ws,u1];unfold jr;rw [last]
end
theorem tG {a:aH} (ok:dT a) (op: ¬tC a.ai) (fit:wT a) {t:Int×Int} (ht:aZ t) (h64:jP t) {n:Int} (n0:0<=n) (n1:n<=1000000) (nn: ∀e∈a.ce,Ev.num e≠n):jg a t n=aen (⟨⟨[],[],[]⟩,[],[]⟩,(0,0),18):=by
 have bd:=ok.bd;have hn: ¬ ∃w,w<aem a.ce/\(a.ce[w]!).2.2.1=n:=by rintro ⟨w,hw,e⟩;exact nn _ (aR hw) e
 unfold jg;rw [gZ a fit,rc ok,df h64,rc ht,Gi _ _ (by omega),aG hn,Au ok.so,sp op];simp only [ar,gt_iff_lt,adA,if_false,show ((0:Int) !=0)=aes from rfl,pp,aG (show¬n<0 by omega),aG (show¬1000000<n by omega),show ((18:Int) !=0)=aeo from rfl,lw]
theorem sq {l:List Ev} {n i:Nat} {v:Ev}:(l.set i v).take n=(l.take n).set i v:=by
 apply List.ext_getElem?;intro j;rw [adD,adV,adV,adD,If]
 by_cases h1:j<n
 · rw [rc h1]
   by_cases h2:i=j
   · subst h2
     by_cases h3:i<aem l
     · rw [rc rfl,rc h3,rc rfl,rc (by omega)]
     rw [rc rfl,sp h3,rc rfl,sp (by omega)]
   rw [sp h2,sp h2,rc h1]
 rw [sp h1]
 by_cases h2:i=j
 · rw [rc h2,sp (by omega)]
 rw [sp h2,sp h1]
theorem JF {n:Nat} {x:Ev}: ∀(i:Nat) (H:List Ev) (W:List Int),i<n->gN x i (H.take n) W=((gN x i H W).1,(gN x i H W).2.1.take n,(gN x i H W).2.2)
 |0,H,W,hi=>by rw [gN,gN]
 |i+1,H,W,hi=>by
  have e:(H.take n)[i / 2]! =H[i / 2]!:=jK (by omega);rw [gN,gN,e]
  by_cases h:less x H[i / 2]!
  · rw [rc h,rc h,<- sq]
    exact JF (i / 2) _ _ (by omega)
  rw [sp h,sp h]
termination_by i=>i
decreasing_by omega
theorem RO {x:Ev}: ∀(i:Nat) (H:List Ev) (W:List Int),(gN x i H W).1<=i
 |0,H,W=>by rw [gN];exact Do _
 |i+1,H,W=>by
  rw [gN];split
  · exact aeg (RO (i / 2) _ _) (by omega)
  exact Do _
termination_by i=>i
decreasing_by omega
theorem EI {n:Nat} {H:List Ev} {i:Nat} (hk:2*i+1<n):fR n (H.take n) i=fR n H i:=by
 unfold fR
 by_cases h:2*i+2<n
 · rw [jK h,jK (show 2*i+1<n by omega)]
 rw [sp (fun k=>h k.1),sp (fun k=>h k.1)]
theorem JG {n:Nat} {x:Ev} {i:Nat} {H:List Ev} {W:List Int} (h:2*i+1<n) (hl:less H[fR n H i]! x):dh n x i H W=dh n x (fR n H i) (H.set i H[fR n H i]!) (W.set (H[fR n H i]!).n (i:Int)):=by rw [dh,dif_pos h,rc hl]
theorem uW {n:Nat} {x:Ev} {i:Nat} {H:List Ev} {W:List Int} (h: ¬(2*i+1<n/\less H[fR n H i]! x)):dh n x i H W=(i,H,W):=by
 rw [dh];split
 · rename_i h1;rw [sp (fun k=>h ⟨h1,k⟩)]
 rfl
theorem EJ {n : Nat} {x : Ev} : ∀ (d i : Nat) (H : List Ev) (W : List Int), n - i <= d -> dh n x i (H.take n) W = ((dh n x i H W).1, (dh n x i H W).2.1.take n, (dh n x i H W).2.2)
  | 0, i, H, W, hd => by
    rw [uW (fun h => by omega), uW (fun h => by omega)]
  | d + 1, i, H, W, hd => by
    have kc := mu n H i
    by_cases h : 2 * i + 1 < n /\ less H[fR n H i]! x
    · have e : (H.take n)[fR n (H.take n) i]! = H[fR n H i]! := by rw [EI h.1, jK (by omega)]
      rw [JG h.1 h.2, JG (H := H.take n) h.1 (by rw [e]; exact h.2), e, EI h.1, <- sq]
      exact EJ d _ _ _ (by omega)
    have h' : ¬ (2 * i + 1 < n /\ less (H.take n)[fR n (H.take n) i]! x) := by
      rintro ⟨k1, k2⟩
      rw [EI k1, jK (by omega)] at k2
      exact h ⟨k1, k2⟩
    rw [uW h, uW h']
theorem M6 {x:Ev}: ∀(i:Nat) (H:List Ev) (W:List Int),(gN x i H W).2.1.length=aem H/\(gN x i H W).2.2.length=aem W
 |0,H,W=>by rw [gN];exact ⟨rfl,rfl⟩
 |i+1,H,W=>by
  rw [gN];split
  · have:=M6 (x:=x) (i / 2) (H.set (i+1) H[i / 2]!) (W.set (H[i / 2]!).n ((i+1:Nat):Int))
    rwa [v6,v6] at this
  exact ⟨rfl,rfl⟩
termination_by i=>i
decreasing_by omega
theorem AA {n:Nat} {x:Ev} {i:Nat} {H:List Ev} {W:List Int} (hi:i<n):bV n x i (H.take n) W=((bV n x i H W).1.take n,(bV n x i H W).2):=by unfold bV;rw [JF i H W hi];dsimp only;rw [EJ n _ _ _ (by omega)];dsimp only;rw [sq]
noncomputable def dJ (a:aH) (i:Nat):aH:=
 if i<aem a.ce-1 then ⟨eI a.ai (a.ce[i]!).2.2.2,(bV (aem a.ce-1) a.ce[aem a.ce-1]! i a.ce (a.ao.set (Ev.n a.ce[i]!) (-1))).1.take (aem a.ce-1),(bV (aem a.ce-1) a.ce[aem a.ce-1]! i a.ce (a.ao.set (Ev.n a.ce[i]!) (-1))).2⟩
 else ⟨eI a.ai (a.ce[i]!).2.2.2,a.ce.take (aem a.ce-1),a.ao.set (Ev.n a.ce[i]!) (-1)⟩
section
variable {a : aH} (ok : dT a) {i : Nat} (hi : i < (aem a.ce))
include ok hi
theorem tH {w:Nat} (hw:w<aem a.ce) (dC:w≠i):Ev.n a.ce[w]!≠Ev.n a.ce[i]!:=by have h1:=(ok.back hw).1;have h2:=(ok.back hi).1;exact agS h1 h2 fun h=>dC (ok.inj hw hi h)
theorem Gk:kD (aem a.ce-1) a.ce (a.ao.set (Ev.n a.ce[i]!) (-1)):=by have c:=ok.cells;refine ⟨by omega,c.hb,fun w hw=>?_⟩;rw [v6];exact c.ev w (by omega)
theorem RP (cY:i<aem a.ce-1):zh (aem a.ce-1) a.ce[aem a.ce-1]! (fun e=> ∃w,w<aem a.ce-1/\w≠i/\a.ce[w]! =e) a.ce (a.ao.set (Ev.n a.ce[i]!) (-1)) i:=by
 obtain ⟨b1,b2,b3,b4,b5⟩:=ok.back (show (aem a.ce)-1<(aem a.ce) by omega);refine ⟨cY,by omega,fun w hw Hn=>?_,b1,by rw [v6,ok.wl];exact b2,fun e=>ad7⟩;obtain ⟨c1,c2,c3,c4,c5⟩:=ok.back (show w<(aem a.ce) by omega);refine ⟨c1,by rw [v6,ok.wl];exact c2,?_,fun h=>?_⟩
 · rw [bc,sp (fun h=>tH ok hi (show w<(aem a.ce) by omega) Hn h.1)]
   exact c5
 have:=ok.inj (show w<(aem a.ce) by omega) (show (aem a.ce)-1<(aem a.ce) by omega) h
 omega
theorem WG:Ord (aem a.ce-1) a.ce i:=
 ⟨fun w hw=>(ok.ev w (by omega)).den,fun k k0 hk _ _=>ok.ord k k0 (by omega),fun i0 k k0 hk hp=>ok.Ju i0 k0 (by omega) hp⟩
theorem Cf (cY:i<aem a.ce-1):
 xG (aem a.ce-1) a.ce[aem a.ce-1]! (fun e=> ∃w,w<aem a.ce-1/\w≠i/\a.ce[w]! =e) (fun k=>k≠Ev.n a.ce[aem a.ce-1]!/\ ∀w,w<aem a.ce-1->w≠i->Ev.n a.ce[w]!≠k) a.ce (a.ao.set (Ev.n a.ce[i]!) (-1))
  (bV (aem a.ce-1) a.ce[aem a.ce-1]! i a.ce (a.ao.set (Ev.n a.ce[i]!) (-1))).1 (bV (aem a.ce-1) a.ce[aem a.ce-1]! i a.ce (a.ao.set (Ev.n a.ce[i]!) (-1))).2:=
 wR (ok.ev (aem a.ce-1) (by omega)).den (RP ok hi cY) (WG ok hi)
theorem Gl:dY (eI a.ai (a.ce[i]!).2.2.2):=RC ok.so (ok.handle hi).1
theorem wW {j:Nat} (hj:j<aem a.ai.aq):(eI a.ai (a.ce[i]!).2.2.2).bi[j]! =if j=Ev.n a.ce[i]! then aes else a.ai.bi[j]!:=by
 have _:=hi;show (a.ai.bi.set (Ev.n a.ce[i]!) aes)[j]! =_;rw [bc];have:=ok.so.ul
 by_cases e:j=Ev.n a.ce[i]!
 · rw [rc ⟨e,by omega⟩,rc e]
 rw [sp (fun k=>e k.1),sp e]
theorem BD:dT (dJ a i):=by
 have hb:=ok.back hi;have hl:(aem a.ce)-1+(eI a.ai (a.ce[i]!).2.2.2).bv.length=(aem a.ai.aq):=by show (aem a.ce)-1+(a.ai.bv++[_]).length=_;rw [ad3];have:=ok.hl;simp only [adW,adZ];omega
 have un: ∀j,j<aem a.ai.aq->(eI a.ai (a.ce[i]!).2.2.2).bi[j]! =aes->(a.ao.set (Ev.n a.ce[i]!) (-1))[j]! = -1:=by
  intro j hj hu;rw [wW ok hi hj] at hu;rw [bc]
  by_cases e:j=Ev.n a.ce[i]!
  · rw [rc ⟨e.symm▸rfl,by rw [ok.wl];omega⟩]
  rw [sp e] at hu
  rw [sp (fun k=>e k.1)];exact ok.un j hj hu
 unfold dJ
 by_cases cY:i<aem a.ce-1
 · rw [rc cY]
   have st:=Cf ok hi cY;refine sR (Gl ok hi) st (by omega) (by rw [v6];exact ok.wl) hl (fun j hj hu=>?_) (fun j hj hu=>⟨⟨?_,fun w hw Hn=>?_⟩,un j hj hu⟩) ?_ ?_
   · change j<(aem a.ai.aq) at hj
     rw [wW ok hi hj] at hu
     by_cases e:j=Ev.n a.ce[i]!
     · rw [rc e] at hu;cases hu
     rw [sp e] at hu
     obtain ⟨w,hw,e1,e2⟩:=ok.CV hj hu;refine ⟨a.ce[w]!,?_,e1,e2⟩
     by_cases jU:w=aem a.ce-1
     · left;rw [jU]
     refine .inr ⟨w,by omega,fun h=>e ?_,rfl⟩
     rw [<- h];show j=(Ev.ix a.ce[w]!).toNat;omega
   · change j<(aem a.ai.aq) at hj
     rw [wW ok hi hj] at hu
     by_cases e:j=Ev.n a.ce[i]!
     · rw [e];exact (tH ok hi (by omega) (by omega)).symm
     rw [sp e] at hu
     exact (ok.Gg hu (by omega)).symm
   · change j<(aem a.ai.aq) at hj
     rw [wW ok hi hj] at hu
     by_cases e:j=Ev.n a.ce[i]!
     · rw [e];exact tH ok hi (by omega) Hn
     rw [sp e] at hu
     exact ok.Gg hu (by omega)
   · rintro e (rfl|⟨w,hw,_,rfl⟩)
     · exact ok.ev _ (by omega)
     exact ok.ev w (by omega)
   rintro e f (rfl|⟨v,hv,hvi,rfl⟩) (rfl|⟨w,hw,Hn,rfl⟩) he
   · rfl
   · rw [ok.wV (by omega) (by omega) he]
   · rw [ok.wV (by omega) (by omega) he]
   rw [ok.wV (by omega) (by omega) he]
 rw [sp cY]
 have hie:i=aem a.ce-1:=by omega
 refine X8 (Gl ok hi) (fun e=> ∃w,w<aem a.ce-1/\a.ce[w]! =e) (by omega) (by rw [v6];exact ok.wl) hl (fun w hw=>?_) (fun e=>ad7) (fun k k0 hk=>ok.ord k k0 (by omega)) (fun j hj hu=>?_) un ?_ ?_
 · obtain ⟨c1,c2,c3,c4,c5⟩:=ok.back (show w<(aem a.ce) by omega)
   refine ⟨c1,by rw [v6,ok.wl];exact c2,?_⟩;rw [bc,sp (fun h=>tH ok hi (show w<(aem a.ce) by omega) (by omega) h.1)];exact c5
 · change j<(aem a.ai.aq) at hj
   rw [wW ok hi hj] at hu
   by_cases e:j=Ev.n a.ce[i]!
   · rw [rc e] at hu;cases hu
   rw [sp e] at hu
   obtain ⟨w,hw,e1,e2⟩:=ok.CV hj hu;refine ⟨a.ce[w]!,⟨w,?_,rfl⟩,e1,e2⟩;have:w≠i:=fun h=>e (by rw [<- h];show j=(Ev.ix a.ce[w]!).toNat;omega)
   omega
 · rintro e ⟨w,hw,rfl⟩
   exact ok.ev w (by omega)
 rintro e f ⟨v,hv,rfl⟩ ⟨w,hw,rfl⟩ he
 rw [ok.wV (by omega) (by omega) he]
theorem EK (e:Ev):e∈(dJ a i).ce↔(e∈a.ce/\e≠a.ce[i]!):=by
 have other: ∀w,w<aem a.ce->(a.ce[w]!≠a.ce[i]!↔w≠i):=fun w hw=>⟨fun h k=>h (by rw [k]),fun h k=>h (ok.inj hw hi (by rw [k]))⟩
 unfold dJ
 by_cases cY:i<aem a.ce-1
 · rw [rc cY]
   have st:=Cf ok hi cY;show e∈(_:List Ev).take _↔_;rw [yo (by rw [st.hl];omega)];refine (st.mem e).trans ?_;constructor
   · rintro (h|⟨w,hw,Hn,rfl⟩)
     · rw [h];exact ⟨aR (by omega),(other _ (by omega)).2 (by omega)⟩
     exact ⟨aR (by omega),(other _ (by omega)).2 Hn⟩
   rintro ⟨h,dC⟩
   obtain ⟨w,hw,rfl⟩:=aN.1 h
   by_cases c:w=aem a.ce-1
   · left;rw [c]
   exact .inr ⟨w,by omega,(other w hw).1 dC,rfl⟩
 rw [sp cY]
 show e∈a.ce.take _↔_;rw [yo (by omega)];constructor
 · rintro ⟨w,hw,rfl⟩
   exact ⟨aR (by omega),(other _ (by omega)).2 (by omega)⟩
 rintro ⟨h,dC⟩
 obtain ⟨w,hw,rfl⟩:=aN.1 h;have:=(other w hw).1 dC;exact ⟨w,by omega,rfl⟩
theorem BE:oF a (i:Int)=aen (dJ a i,a.ce[i]!,0):=by
 have bd:=ok.bd;obtain ⟨b1,b2,b3,b4,b5⟩:=ok.back hi;obtain ⟨c1,c2,c3,c4,c5⟩:=ok.back (show (aem a.ce)-1<(aem a.ce) by omega);unfold oF;have e1:aj .i64 (((aem a.ce):Int) -1)=((aem a.ce-1:Nat):Int):=si (by omega) (by omega);have g1:aC a.ao (a.ce[i]!).2.2.2.1=aen a.ao[(a.ce[i]!).2.2.2.1.toNat]!:=cZ b1 (by rw [ok.wl];exact b2);have ws:bP a.ao (a.ce[i]!).2.2.2.1 (-1)=a.ao.set (Ev.n a.ce[i]!) (-1):=rfl;simp only [au a.ce i hi,ar,Hm ok.so (ok.handle hi).1,show ((0:Int) !=0)=aes from rfl,pp,bo (show (aem a.ce)<=1048576 by omega),bo (show (aem a.ao)<=1048576 by omega),aB,e1,au a.ce (aem a.ce-1) (by omega),mq a.ce (aem a.ce-1) (by omega),g1,ws,AC];unfold dJ
 by_cases cY:i<aem a.ce-1
 · rw [aK (by omega),rc cY]
   have se:=LJ (cap:=aem a.ce) (u:=(eI a.ai (a.ce[i]!).2.2.2).aq) (us:=(eI a.ai (a.ce[i]!).2.2.2).bi) (fr:=(eI a.ai (a.ce[i]!).2.2.2).bv) (ok.ev (aem a.ce-1) (by omega)) (show 0<=Ev.ix a.ce[aem a.ce-1]! from c1) (Gk ok hi) cY (show Ev.ix a.ce[aem a.ce-1]!<_ by rw [v6,ok.wl];exact c2);rw [se];rfl
 rw [aG (by omega),sp cY]
 rfl
theorem tI (fit:wT a) {h:Int×Int} (hh:(a.ce[i]!).2.2.2=h):jH a h=aen (dJ a i,a.ce[i]!,0):=by unfold jH;rw [JC ok fit hi hh];simp only [ar,show ((0:Int) !=0)=aes from rfl,pp,BE ok hi]
theorem tJ {h:Int×Int} (hh:(a.ce[i]!).2.2.2=h):jJ a h=aen (dJ a i):=by
 have bd:=ok.bd;subst hh;obtain ⟨b1,b2,b3,b4,b5⟩:=ok.back hi;obtain ⟨c1,c2,c3,c4,c5⟩:=ok.back (show (aem a.ce)-1<(aem a.ce) by omega);unfold jJ;rw [oO ok];have e1:aj .i64 (((aem a.ce):Int) -1)=((aem a.ce-1:Nat):Int):=si (by omega) (by omega);have g1:aC a.ao (a.ce[i]!).2.2.2.1=aen (i:Int):=by rw [cZ (l:=a.ao) b1 (by rw [ok.wl];exact b2)];exact congrArg aen b5
 have gv:=Ew ok.so (ok.handle hi).1;simp only [ar,g1,aB,e1,AC];unfold dJ
 by_cases cY:i<aem a.ce-1
 · rw [dS (show (i:Int)≠((aem a.ce-1:Nat):Int) by omega),rc cY]
   have dC:(aem a.ce)-1≠i:=by omega
   have nn:Ev.n a.ce[aem a.ce-1]!≠Ev.n a.ce[i]!:=tH ok hi (by omega) dC;have sw:=Aw (n:=aem a.ce) (x:=a.ce[i]!) (u:=a.ai.aq) (us:=a.ai.bi) (fr:=a.ai.bv) (H:=a.ce) (W:=a.ao) hi (show (aem a.ce)-1<(aem a.ce) by omega) dC rfl b1 (by rw [ok.wl];exact b2) c1 (by rw [ok.wl];exact c2);rw [ez (l:=a.ce) rfl,ez (l:=a.ao) b5] at sw;have hs:(a.ce.set i a.ce[aem a.ce-1]!).set (aem a.ce-1) a.ce[i]! =(a.ce.set (aem a.ce-1) a.ce[i]!).set i a.ce[aem a.ce-1]!:=aee _ _ (by omega);have ws:bP ((a.ao.set (Ev.n a.ce[aem a.ce-1]!) (i:Int)).set (Ev.n a.ce[i]!) ((aem a.ce-1:Nat):Int)) (a.ce[i]!).2.2.2.1 (-1)=(a.ao.set (Ev.n a.ce[i]!) (-1)).set (Ev.n a.ce[aem a.ce-1]!) (i:Int):=by
    show ((a.ao.set (Ev.n a.ce[aem a.ce-1]!) (i:Int)).set (Ev.n a.ce[i]!) ((aem a.ce-1:Nat):Int)).set (Ev.n a.ce[i]!) (-1)=_;rw [List.set_set,aee _ _ nn]
   have g2:aC ((a.ao.set (Ev.n a.ce[aem a.ce-1]!) (i:Int)).set (Ev.n a.ce[i]!) ((aem a.ce-1:Nat):Int)) (a.ce[i]!).2.2.2.1=aen _:=cZ b1 (by rw [v6,v6,ok.wl];exact b2);have cells:kD (aem a.ce-1) (a.ce.set (aem a.ce-1) a.ce[i]!) (a.ao.set (Ev.n a.ce[i]!) (-1)):=by refine ⟨by rw [v6];omega,by rw [v6];omega,fun w hw=>?_⟩;rw [bc,sp (by omega)];exact (Gk ok hi).ev w hw
   have x1:Ev.ix a.ce[aem a.ce-1]!<(a.ao.set (Ev.n a.ce[i]!) (-1)).length:=by rw [v6,ok.wl];exact c2
   have hx:=ok.ev (aem a.ce-1) (by omega);have gv':py (aU.mk a.ai.aq a.ai.bi a.ai.bv) (a.ce[i]!).2.2.2=aen (eI a.ai (a.ce[i]!).2.2.2):=gv;have tk:(a.ce.set (aem a.ce-1) a.ce[i]!).take (aem a.ce-1)=a.ce.take (aem a.ce-1):=by rw [sq];exact ad5 (by rw [If];omega)
   have U:np ((eI a.ai (a.ce[i]!).2.2.2).aq,(eI a.ai (a.ce[i]!).2.2.2).bi,(eI a.ai (a.ce[i]!).2.2.2).bv,aem a.ce-1,((a.ce.set (aem a.ce-1) a.ce[i]!).set i a.ce[aem a.ce-1]!).length,(i:Int),(a.ce.set (aem a.ce-1) a.ce[i]!).set i a.ce[aem a.ce-1]!,(a.ao.set (Ev.n a.ce[i]!) (-1)).set (Ev.n a.ce[aem a.ce-1]!) (i:Int))=
    aen (((gN a.ce[aem a.ce-1]! i (a.ce.set (aem a.ce-1) a.ce[i]!) (a.ao.set (Ev.n a.ce[i]!) (-1))).1:Int),(gN a.ce[aem a.ce-1]! i (a.ce.set (aem a.ce-1) a.ce[i]!) (a.ao.set (Ev.n a.ce[i]!) (-1))).2.1.set (gN a.ce[aem a.ce-1]! i (a.ce.set (aem a.ce-1) a.ce[i]!) (a.ao.set (Ev.n a.ce[i]!) (-1))).1 a.ce[aem a.ce-1]!,(gN a.ce[aem a.ce-1]! i (a.ce.set (aem a.ce-1) a.ce[i]!) (a.ao.set (Ev.n a.ce[i]!) (-1))).2.2.set (Ev.n a.ce[aem a.ce-1]!) ((gN a.ce[aem a.ce-1]! i (a.ce.set (aem a.ce-1) a.ce[i]!) (a.ao.set (Ev.n a.ce[i]!) (-1))).1:Int)):=by
    unfold np;exact RF (n:=aem a.ce-1) (c0:=((eI a.ai (a.ce[i]!).2.2.2).aq,(eI a.ai (a.ce[i]!).2.2.2).bi,(eI a.ai (a.ce[i]!).2.2.2).bv,aem a.ce-1,((a.ce.set (aem a.ce-1) a.ce[i]!).set i a.ce[aem a.ce-1]!).length,(i:Int),(a.ce.set (aem a.ce-1) a.ce[i]!).set i a.ce[aem a.ce-1]!,(a.ao.set (Ev.n a.ce[i]!) (-1)).set (Ev.n a.ce[aem a.ce-1]!) (i:Int))) hx c1 i _ _ cells cY x1 v6 v6
   have ul:=RO (x:=a.ce[aem a.ce-1]!) i (a.ce.set (aem a.ce-1) a.ce[i]!) (a.ao.set (Ev.n a.ce[i]!) (-1));have un:=M6 (x:=a.ce[aem a.ce-1]!) i (a.ce.set (aem a.ce-1) a.ce[i]!) (a.ao.set (Ev.n a.ce[i]!) (-1));have uc:=fun w hw=>wS (x:=a.ce[aem a.ce-1]!) cells cY (i:=i) rfl w hw
   have LL:kD (aem a.ce-1) (gN a.ce[aem a.ce-1]! i (a.ce.set (aem a.ce-1) a.ce[i]!) (a.ao.set (Ev.n a.ce[i]!) (-1))).2.1 (gN a.ce[aem a.ce-1]! i (a.ce.set (aem a.ce-1) a.ce[i]!) (a.ao.set (Ev.n a.ce[i]!) (-1))).2.2:=by refine ⟨by rw [un.1,v6];omega,by rw [un.1,v6];omega,fun w hw=>?_⟩;rw [un.2];exact uc w hw
   have D:kO ((eI a.ai (a.ce[i]!).2.2.2).aq,(eI a.ai (a.ce[i]!).2.2.2).bi,(eI a.ai (a.ce[i]!).2.2.2).bv,aem a.ce-1,((a.ce.set (aem a.ce-1) a.ce[i]!).set i a.ce[aem a.ce-1]!).length,((gN a.ce[aem a.ce-1]! i (a.ce.set (aem a.ce-1) a.ce[i]!) (a.ao.set (Ev.n a.ce[i]!) (-1))).1:Int),(gN a.ce[aem a.ce-1]! i (a.ce.set (aem a.ce-1) a.ce[i]!) (a.ao.set (Ev.n a.ce[i]!) (-1))).2.1.set (gN a.ce[aem a.ce-1]! i (a.ce.set (aem a.ce-1) a.ce[i]!) (a.ao.set (Ev.n a.ce[i]!) (-1))).1 a.ce[aem a.ce-1]!,(gN a.ce[aem a.ce-1]! i (a.ce.set (aem a.ce-1) a.ce[i]!) (a.ao.set (Ev.n a.ce[i]!) (-1))).2.2.set (Ev.n a.ce[aem a.ce-1]!) ((gN a.ce[aem a.ce-1]! i (a.ce.set (aem a.ce-1) a.ce[i]!) (a.ao.set (Ev.n a.ce[i]!) (-1))).1:Int))=
    aen (bV (aem a.ce-1) a.ce[aem a.ce-1]! i (a.ce.set (aem a.ce-1) a.ce[i]!) (a.ao.set (Ev.n a.ce[i]!) (-1))):=by
    unfold kO
    exact Jw (n:=aem a.ce-1) (c0:=((eI a.ai (a.ce[i]!).2.2.2).aq,(eI a.ai (a.ce[i]!).2.2.2).bi,(eI a.ai (a.ce[i]!).2.2.2).bv,aem a.ce-1,((a.ce.set (aem a.ce-1) a.ce[i]!).set i a.ce[aem a.ce-1]!).length,((gN a.ce[aem a.ce-1]! i (a.ce.set (aem a.ce-1) a.ce[i]!) (a.ao.set (Ev.n a.ce[i]!) (-1))).1:Int),(gN a.ce[aem a.ce-1]! i (a.ce.set (aem a.ce-1) a.ce[i]!) (a.ao.set (Ev.n a.ce[i]!) (-1))).2.1.set (gN a.ce[aem a.ce-1]! i (a.ce.set (aem a.ce-1) a.ce[i]!) (a.ao.set (Ev.n a.ce[i]!) (-1))).1 a.ce[aem a.ce-1]!,(gN a.ce[aem a.ce-1]! i (a.ce.set (aem a.ce-1) a.ce[i]!) (a.ao.set (Ev.n a.ce[i]!) (-1))).2.2.set (Ev.n a.ce[aem a.ce-1]!) ((gN a.ce[aem a.ce-1]! i (a.ce.set (aem a.ce-1) a.ce[i]!) (a.ao.set (Ev.n a.ce[i]!) (-1))).1:Int))) hx c1 (aem a.ce) (gN a.ce[aem a.ce-1]! i (a.ce.set (aem a.ce-1) a.ce[i]!) (a.ao.set (Ev.n a.ce[i]!) (-1))).1 (gN a.ce[aem a.ce-1]! i (a.ce.set (aem a.ce-1) a.ce[i]!) (a.ao.set (Ev.n a.ce[i]!) (-1))).2.1 (gN a.ce[aem a.ce-1]! i (a.ce.set (aem a.ce-1) a.ce[i]!) (a.ao.set (Ev.n a.ce[i]!) (-1))).2.2 (by omega) LL (by omega) (by rw [un.2];exact x1) v6 v6
   have st:=AA (n:=(aem a.ce-1)) (x:=a.ce[aem a.ce-1]!) (i:=i) (H:=(a.ce.set (aem a.ce-1) a.ce[i]!)) (W:=(a.ao.set (Ev.n a.ce[i]!) (-1))) cY;have st2:=AA (n:=(aem a.ce-1)) (x:=a.ce[aem a.ce-1]!) (i:=i) (H:=a.ce) (W:=(a.ao.set (Ev.n a.ce[i]!) (-1))) cY;rw [tk,st2] at st;injection st with st1 K1;simp only [lw,sw,ar,mq _ (aem a.ce-1) (show (aem a.ce)-1<=((a.ce.set (aem a.ce-1) a.ce[i]!).set i a.ce[aem a.ce-1]!).length by rw [v6,v6];omega),g2,gv',ws,hs,U,D,<- st1,<- K1]
 rw [cK (show (i:Int)=((aem a.ce-1:Nat):Int) by omega),sp cY]
 have ws:bP a.ao (a.ce[i]!).2.2.2.1 (-1)=a.ao.set (Ev.n a.ce[i]!) (-1):=rfl;simp only [pp,mq a.ce (aem a.ce-1) (by omega),ar,gv,ws]
end
abbrev pz:=Int×Int×Int
theorem dT.fit {a:aH} (ok:dT a):wT a:=by have bd:=ok.bd;have:=ok.so.fl;have:=ok.so.n2;exact ⟨by omega,by omega,by omega,fun w hw=>(ok.ev w hw).2.1⟩
theorem CW (l:List pz) (id:Int) (hl:(aem l)<=1000000) (hs: ∀i j,i<j->j<aem l->(l[i]!).1<(l[j]!).1):
 (∀k,k<aem l->(l[k]!).1=id->aS l id ()=aen ((k:Int),aeo))/\
 ((∀k,k<aem l->(l[k]!).1≠id)-> ∃m,m<=aem l/\(∀i,i<m->(l[i]!).1<id)/\(∀i,m<=i->i<aem l->id<(l[i]!).1)/\aS l id ()=aen ((m:Int),aes)):=by
 obtain ⟨m,m1,m2,m3⟩:=Jt (fun i=>(l[i]!).1) id (aem l) hs;have run:aS l id ()=aD aQ (l,id,((aem l):Int),(m:Int),(m:Int)):=by
  unfold aS;refine xC (body:=aQ) (fun lo hi=>(l,id,((aem l):Int),(lo:Int),(hi:Int))) (aem l) m (fun i=>(l[i]!).1<id) (fun lo hi h1 h2=>?_) m2 (fun i h1 h2 h3=>by have:=m3 i h1 h2;omega) (aem l) 0 (aem l) (by omega) (by omega) m1 (Do _);have e1:aev ((lo:Int)<(hi:Int))=aeo:=aK (by omega);have hh:=MY (a:=lo) (b:=hi) (by omega) (by omega);unfold aQ o3;simp only [e1,lw,hh,au l ((lo+hi) / 2) (by omega),gM,ar,bk (show (lo+hi) / 2<1000000000 by omega)];constructor
  · intro h
    have:aev (gU (l[(lo+hi) / 2]!).1 id<0)=aeo:=by rcases cH (l[(lo+hi) / 2]!).1 id with ⟨a,e⟩|⟨a,e⟩|⟨a,e⟩<;>rw [e]<;>first|rfl|omega
    rw [this];rfl
  intro h
  have:aev (gU (l[(lo+hi) / 2]!).1 id<0)=aes:=by rcases cH (l[(lo+hi) / 2]!).1 id with ⟨a,e⟩|⟨a,e⟩|⟨a,e⟩<;>rw [e]<;>first|rfl|omega
  rw [this];rfl
 have fin:aD aQ (l,id,((aem l):Int),(m:Int),(m:Int))=if m<aem l/\(l[m]!).1=id then aen ((m:Int),aeo) else aen ((m:Int),aes):=by
  have e1:aev ((m:Int)<(m:Int))=aes:=aG (by omega)
  by_cases hm:m<aem l
  · have e2:aev ((m:Int)<((aem l):Int))=aeo:=aK (by omega)
    have body:aQ (l,id,((aem l):Int),(m:Int),(m:Int))=aen (.done ((m:Int),gU (l[m]!).1 id==0)):=by unfold aQ o3;simp only [e1,e2,lw,pp,au l m hm,gM,ar]
    rw [aJ body];rcases cH (l[m]!).1 id with ⟨a,e⟩|⟨a,e⟩|⟨a,e⟩
    · rw [e,sp (fun h=>by omega)];rfl
    · rw [e,rc ⟨hm,a⟩];rfl
    rw [e,sp (fun h=>by omega)];rfl
  have e2:aev ((m:Int)<((aem l):Int))=aes:=aG (by omega)
  have body:aQ (l,id,((aem l):Int),(m:Int),(m:Int))=aen (.done ((m:Int),aes)):=by unfold aQ;simp only [e1,e2,pp]
  rw [aJ body,sp (fun h=>hm h.1)]
 rw [run,fin];constructor
 · intro k hk he
   have hkm:k=m:=by
    rcases ad4 k m with h|h|h
    · have:=m2 k h;omega
    · exact h
    have h1:=m3 m (Do _) (by omega)
    have h2:=hs m k h hk;omega
   subst hkm;rw [rc ⟨hk,he⟩]
 intro h
 refine ⟨m,m1,m2,fun i h1 h2=>?_,?_⟩
 · have:=m3 i h1 h2
   have:=h i h2;omega
 rw [sp (fun k=>h m k.1 k.2)]
theorem adr:cE=aS:=rfl
theorem RQ:cy=aS:=rfl
theorem WH:cB=aS:=rfl
theorem qV {α:Type} (l:List α) (k:Nat):l.eraseIdx k=l.take k++l.drop (k+1):=List.eraseIdx_eq_take_drop_succ l k
theorem Cg (l:List pz) (k:Nat) (hk:k<aem l): ∃L:List pz,eC ((k:Int),((k+1:Nat):Int),l)=aen (aem l-1,aem l,L)/\L.take (aem l-1)=l.eraseIdx k:=by
 unfold eC;have e1:aev ((0:Int)<=(k:Int))=aeo:=aK (by omega);have e2:aev ((k:Int)<=((k+1:Nat):Int))=aeo:=aK (by omega);have e3:aev (((k+1:Nat):Int)<=((aem l):Int))=aeo:=aK (by omega);have e4:aev (((aem l):Int)<=((aem l):Int))=aeo:=aK (by omega);have e5:((k:Int)==((k+1:Nat):Int))=aes:=dL (by omega);have e6:aev ((0:Int)<=((k+1:Nat):Int))=aeo:=aK (by omega);have e7:aev ((k:Int)<=((aem l):Int))=aeo:=aK (by omega);have dr:(l.drop (k+1)).take (aem l- (k+1))=l.drop (k+1):=M2 (by rw [ad6];exact Do _);have dl:(l.drop (k+1)).length=aem l- (k+1):=ad6;simp only [aB,e1,e2,e3,e4,e5,e6,e7,aef,lw,pp,mq l k (by omega),ar,AC,Nat.zero_add,dr,dl,ac6,Bool.and_true]
 by_cases h:k+1=aem l
 · have em:(l.drop (k+1)).isEmpty=aeo:=by rw [adX,ad2];omega
   have n1:aeh (aem l-k) 0=aes:=by
    cases hb:aeh (aem l-k) 0 with
    |false=>rfl
    |true=>have:=ads hb;omega
   have n2:Nat.ble (k+(aem l-k)) (aem l)=aeo:=ad0 (by omega);have ll:(fV l k (aea (aem l-k) ((0:Int),(0:Int),(0:Int)))).length=(aem l):=by unfold fV;simp;omega
   simp only [em,lw,n1,pp,n2,ll,beq_self_eq_true];refine ⟨_,by rw [show k=aem l-1 by omega],?_⟩;rw [qV,show (aem l)-1=k by omega];unfold fV;rw [acl,NE (by rw [If];omega),aeb,ael];rw [ad9 (by omega),ae6]
 have em:(l.drop (k+1)).isEmpty=aes:=by
  cases hb:(l.drop (k+1)).isEmpty with
  |false=>rfl
  |true=>rw [adX,ad2] at hb;omega
 have n1:Nat.ble (k+(aem l- (k+1))) (aem l)=aeo:=ad0 (by omega);have n2:aev ((0:Int)<=((k+(aem l- (k+1)):Nat):Int))=aeo:=aK (by omega);have n3:aev (((k+(aem l- (k+1)):Nat):Int)<=((aem l):Int))=aeo:=aK (by omega);have n4:aeh (aem l- (k+(aem l- (k+1)))) 0=aes:=by
  cases hb:aeh (aem l- (k+(aem l- (k+1)))) 0 with
  |false=>rfl
  |true=>have:=ads hb;omega
 have l1:(fV l k (l.drop (k+1))).length=(aem l):=by unfold fV;simp;omega
 have n5:Nat.ble (k+(aem l- (k+1))+(aem l- (k+(aem l- (k+1))))) (aem l)=aeo:=ad0 (by omega);have l2:(fV (fV l k (l.drop (k+1))) (k+(aem l- (k+1))) (aea (aem l- (k+(aem l- (k+1)))) ((0:Int),(0:Int),(0:Int)))).length=(aem l):=by unfold fV;simp;omega
 simp only [em,pp,n1,lw,n2,n3,aef,n4,l1,n5,l2,beq_self_eq_true];refine ⟨_,by rw [show k+(aem l- (k+1))=aem l-1 by omega],?_⟩;rw [qV];have:k+(aem l- (k+1))=aem l-1:=by omega
 unfold fV;rw [acl,NE (by simp;omega),aeb,ael,acl];rw [show (l.take k++(l.drop (k+1)++l.drop (k+(l.drop (k+1)).length)))=(l.take k++l.drop (k+1))++l.drop (k+(l.drop (k+1)).length) by rw [acl]];rw [NE (by simp;omega),M2 (by simp;omega)]
theorem LM:jk=eC:=rfl
theorem EL {α:Type} [Inhabited α] {l:List α} {k i:Nat}:(l.eraseIdx k)[i]! =if i<k then l[i]! else l[i+1]!:=by
 rw [qV]
 by_cases hk:k<aem l
 · by_cases h:i<k
   · rw [rc h,eM (by rw [If];omega),jK h]
   rw [sp h,fC (by rw [If];omega),qy,If]
   congr 1;omega
 have e1:l.take k=l:=M2 (by omega)
 have e2:l.drop (k+1)=[]:=ad9 (by omega);rw [e1,e2,ae6];split
 · rfl
 rw [getElem!_neg l i (by omega),getElem!_neg l (i+1) (by omega)]
def gV (x:Int×Int):Prop:=0<=x.1/\x.1<=65535/\0<=x.2/\x.2<=65535/\x.1≠x.2
theorem yp (x:Int×Int):qJ x=aen (aev (gV x)):=by
 obtain ⟨a,b⟩:=x;unfold qJ;dsimp only
 by_cases h1:0<=a
 · by_cases h3:0<=b
   · have e1:aev (0<=if b<a then b else a)=aeo:=aK (by split<;>omega)
     rw [e1]
     by_cases h2:a<=65535
     · by_cases h4:b<=65535
       · have e2:aev ((if b>a then b else a)<=65535)=aeo:=aK (by split<;>omega)
         rw [e2]
         by_cases h5:a=b
         · rw [cK h5,aG (p:=gV (a,b)) (fun h=>h.2.2.2.2 h5)];rfl
         rw [dS h5,aK (p:=gV (a,b)) ⟨h1,h2,h3,h4,h5⟩];rfl
       have e2:aev ((if b>a then b else a)<=65535)=aes:=aG (by split<;>omega)
       rw [e2,aG (p:=gV (a,b)) (fun h=>h4 h.2.2.2.1)];rfl
     have e2:aev ((if b>a then b else a)<=65535)=aes:=aG (by split<;>omega)
     rw [e2,aG (p:=gV (a,b)) (fun h=>h2 h.2.1)];rfl
   have e1:aev (0<=if b<a then b else a)=aes:=aG (by split<;>omega)
   rw [e1,aG (p:=gV (a,b)) (fun h=>h3 h.2.2.1)];rfl
 have e1:aev (0<=if b<a then b else a)=aes:=aG (by split<;>omega)
 rw [e1,aG (p:=gV (a,b)) (fun h=>h1 h.1)];rfl
theorem yq (x:Int×Int):qM x=aen (aev (gV x)):=by
 obtain ⟨a,b⟩:=x;unfold qM;dsimp only
 by_cases h1:0<=a
 · by_cases h2:a<=65535
   · by_cases h3:0<=b
     · by_cases h4:b<=65535
       · by_cases h5:a=b
         · rw [cK h5,aK h1,aK h2,aK h3,aK h4,aG (p:=gV (a,b)) (fun h=>h.2.2.2.2 h5)];rfl
         rw [dS h5,aK h1,aK h2,aK h3,aK h4,aK (p:=gV (a,b)) ⟨h1,h2,h3,h4,h5⟩];rfl
       rw [aK h1,aK h2,aK h3,aG h4,aG (p:=gV (a,b)) (fun h=>h4 h.2.2.2.1)];rfl
     rw [aK h1,aK h2,aG h3,aG (p:=gV (a,b)) (fun h=>h3 h.2.2.1)];rfl
   rw [aK h1,aG h2,aG (p:=gV (a,b)) (fun h=>h2 h.2.1)];rfl
 rw [aG h1,aG (p:=gV (a,b)) (fun h=>h1 h.1)];rfl
structure dQ (c:bj):Prop where
 len:(aem c.ci)<=200
 n0:0<=c.aM
 n1:c.aM<=1000000
 cv: ∀i,i<aem c.ci->gV (c.ci[i]!).2
 nr: ∀i,i<aem c.ci->0<=(c.ci[i]!).1/\(c.ci[i]!).1<c.aM
 up: ∀i j,i<j->j<aem c.ci->(c.ci[i]!).1<(c.ci[j]!).1
 nd: ∀i j,i<j->j<aem c.ci->(c.ci[i]!).2≠(c.ci[j]!).2
def wX (l:List pz) (i:Nat):Int:=if i=0 then -1 else (l[i-1]!).1
def LN (c:bj) (i:Nat):Prop:=gV (c.ci[i]!).2/\(∀j,j<i->(c.ci[j]!).2≠(c.ci[i]!).2)/\wX c.ci i<(c.ci[i]!).1/\(c.ci[i]!).1<c.aM
theorem dQ.iff {c:bj} (h1:(aem c.ci)<=200) (h2:0<=c.aM) (h3:c.aM<=1000000):dQ c↔ ∀i,i<aem c.ci->LN c i:=by
 constructor
 · intro ok i hi
   refine ⟨ok.cv i hi,fun j hj=>ok.nd j i hj hi,?_,(ok.nr i hi).2⟩;unfold wX;split
   · have:=(ok.nr i hi).1;omega
   exact ok.up (i-1) i (by omega) hi
 intro h
 have low: ∀i,i<aem c.ci->0<=(c.ci[i]!).1:=by
  intro i
  induction i with
  |zero=>intro hi;have:=(h 0 hi).2.2.1;unfold wX at this;rw [rc rfl] at this;omega
  |succ i ih=>intro hi;have h1:=(h (i+1) hi).2.2.1;unfold wX at h1;rw [sp (by omega),show i+1-1=i by omega] at h1;have:=ih (by omega);omega
 have up: ∀i j,i<j->j<aem c.ci->(c.ci[i]!).1<(c.ci[j]!).1:=by
  intro i j
  induction j with
  |zero=>intro h;omega
  |succ j ih=>
   intro kH hj;have h1:=(h (j+1) hj).2.2.1;unfold wX at h1;rw [sp (by omega),show j+1-1=j by omega] at h1
   by_cases e:i=j
   · subst e;exact h1
   have:=ih (by omega) (by omega)
   omega
 exact ⟨h1,h2,h3,fun i hi=>(h i hi).1,fun i hi=>⟨low i hi,(h i hi).2.2.2⟩,up,fun i j kH hj=>(h j hj).2.1 i kH⟩
theorem EM (l:List pz) (k:Nat) (a b:Int):mL [a,b] ((l.take k).map fun x=>[x.2.1,x.2.2])=aeo:=by unfold mL;rw [List.all_eq_true];intro x hx;obtain ⟨y,hy,rfl⟩:=UV.1 hx;rfl
theorem EN (l:List pz) (k:Nat) (x:Int×Int):Ct ((l.take k).map fun y=>[y.2.1,y.2.2]) [x.1,x.2]=aev (∃j,j<k/\j<aem l/\(l[j]!).2=x):=by
 unfold Ct;rw [adc,List.any_eq_true,decide_eq_true_iff];constructor
 · rintro ⟨y,hy,he⟩
   obtain ⟨z,hz,rfl⟩:=UV.1 hy;obtain ⟨j,h1,h2,rfl⟩:=cI.1 hz;have:[x.1,x.2]=[(l[j]!).2.1,(l[j]!).2.2]:=by simpa using he
   injection this with e1 e2;injection e2 with e2 _;exact ⟨j,h1,h2,PP e1.symm e2.symm⟩
 rintro ⟨j,h1,h2,h3⟩
 refine ⟨[(l[j]!).2.1,(l[j]!).2.2],UV.2 ⟨l[j]!,cI.2 ⟨j,h1,h2,rfl⟩,rfl⟩,?_⟩;rw [h3];simp
theorem sS (c:bj):nV c=aen (if dQ c then 0 else 8):=by
 unfold nV;simp only [aB]
 by_cases h1:200<aem c.ci
 · rw [aK (show (200:Int)<((aem c.ci):Int) by omega),sp (fun h=>by have:=h.len;omega)];rfl
 rw [aG (show¬(200:Int)<((aem c.ci):Int) by omega)]
 by_cases h2:c.aM<0
 · rw [aK h2,sp (fun h=>by have:=h.n0;omega)];rfl
 rw [aG h2]
 by_cases h3:1000000<c.aM
 · rw [aK h3,sp (fun h=>by have:=h.n1;omega)];rfl
 rw [aG h3];simp only [pp];have key:=cJ (body:=oD) (fun i=>(wX c.ci i,c.ci,((aem c.ci):Int),(i:Int),c.aM,c.ci,(c.ci.take i).map fun x=>[x.2.1,x.2.2])) (aem c.ci) (fun i=> ¬LN c i) (r:=8) (e:=0) (fun i hi=>by
  have e1:aev ((i:Int)<((aem c.ci):Int))=aeo:=aK (by omega);have has:IH ((c.ci.take i).map fun x=>[x.2.1,x.2.2]) [(c.ci[i]!).2.1,(c.ci[i]!).2.2]=aen (aev (∃j,j<i/\j<aem c.ci/\(c.ci[j]!).2=(c.ci[i]!).2)):=by unfold IH;rw [EM,EN];rfl
  have nx:(c.ci.take (i+1)).map (fun x=>[x.2.1,x.2.2])=((c.ci.take i).map fun x=>[x.2.1,x.2.2])++[[(c.ci[i]!).2.1,(c.ci[i]!).2.2]]:=by rw [ja hi,List.map_append];rfl
  have ln:wX c.ci (i+1)=(c.ci[i]!).1:=by unfold wX;rw [sp (by omega),show i+1-1=i by omega]
  unfold oD;simp only [e1,lw,au c.ci i hi,ar,yp,has,nx,ln,bk (show i<1000000000 by omega)];unfold LN
  by_cases b1:gV (c.ci[i]!).2
  case neg=>rw [aG b1];exact ⟨fun _=>rfl,fun h=>absurd (ut.1 h).1 b1⟩
  rw [aK b1]
  by_cases b2: ∃j,j<i/\j<aem c.ci/\(c.ci[j]!).2=(c.ci[i]!).2
  · rw [aK b2]
    refine ⟨fun _=>rfl,fun h=>?_⟩;obtain ⟨j,j1,j2,j3⟩:=b2;exact absurd j3 ((ut.1 h).2.1 j j1)
  rw [aG b2];have b2': ∀j,j<i->(c.ci[j]!).2≠(c.ci[i]!).2:=fun j hj he=>b2 ⟨j,hj,by omega,he⟩
  by_cases b3:(c.ci[i]!).1<=wX c.ci i
  · rw [aK b3]
    exact ⟨fun _=>rfl,fun h=>absurd (ut.1 h).2.2.1 (by omega)⟩
  rw [aG b3]
  by_cases b4:c.aM<=(c.ci[i]!).1
  · rw [aK b4]
    exact ⟨fun _=>rfl,fun h=>absurd (ut.1 h).2.2.2 (by omega)⟩
  rw [aG b4];have ins:II ((c.ci.take i).map fun x=>[x.2.1,x.2.2]) [(c.ci[i]!).2.1,(c.ci[i]!).2.2]=aen (((c.ci.take i).map fun x=>[x.2.1,x.2.2])++[[(c.ci[i]!).2.1,(c.ci[i]!).2.2]]):=by unfold II KR;rw [EM,EN,aG b2];rfl
  rw [ins];exact ⟨fun h=>absurd ⟨b1,b2',by omega,by omega⟩ h,fun _=>rfl⟩) (by
  unfold oD;have:aev (((aem c.ci):Int)<((aem c.ci):Int))=aes:=aG (by omega);simp only [this,pp])
 have h0:wX c.ci 0= -1:=rfl;rw [h0] at key
 by_cases ok:dQ c
 · rw [rc ok]
   exact key.2 fun i hi=>ut.2 ((dQ.iff (by omega) (by omega) (by omega)).1 ok i hi)
 rw [sp ok]
 rw [dQ.iff (by omega) (by omega) (by omega)] at ok;obtain ⟨i,h⟩:=EQ.1 ok;obtain ⟨hi,hx⟩:=IR.1 h;exact key.1 ⟨i,hi,hx⟩
theorem JH (c:bj) (i:Nat) (hi:i<aem c.ci) (hl:(aem c.ci)<=200):
 ((∃j,j<i/\(c.ci[j]!).2=(c.ci[i]!).2)->aD eV ((i:Int),0,c.aM,c.ci,c.ci[i]!)=aen (.done 8))/\
 ((∀j,j<i-> ¬(c.ci[j]!).2=(c.ci[i]!).2)->aD eV ((i:Int),0,c.aM,c.ci,c.ci[i]!)=aen (.next (((i+1:Nat):Int),c.aM,c.ci))):=by
 refine cJ (body:=eV) (fun j=>((i:Int),(j:Int),c.aM,c.ci,c.ci[i]!)) i (fun j=>(c.ci[j]!).2=(c.ci[i]!).2) (r:= .done 8) (e:= .next (((i+1:Nat):Int),c.aM,c.ci)) (fun j hj=>?_) ?_
 · have e1:aev ((j:Int)<(i:Int))=aeo:=aK (by omega)
   unfold eV;simp only [e1,lw,au c.ci j (by omega),ar,bk (show j<1000000000 by omega)];generalize c.ci[j]! =x;generalize c.ci[i]! =y;constructor
   · intro h;rw [dB (congrArg aec h),dB (congrArg aed h)];rfl
   intro h
   by_cases h1:x.2.1=y.2.1
   · rw [dB h1,dL (fun h2=>h (PP h1 h2))];rfl
   rw [dL h1];rfl
 unfold eV
 have:aev ((i:Int)<(i:Int))=aes:=aG (by omega);simp only [this,pp,bk (show i<1000000000 by omega)]
theorem wY (c:bj):pf c=aen (if dQ c then 0 else 8):=by
 unfold pf;simp only [aB]
 by_cases h1:200<aem c.ci
 · rw [aK (show (200:Int)<((aem c.ci):Int) by omega),sp (fun h=>by have:=h.len;omega)];rfl
 rw [aG (show¬(200:Int)<((aem c.ci):Int) by omega)]
 by_cases h2:c.aM<0
 · rw [aK h2,sp (fun h=>by have:=h.n0;omega)];rfl
 rw [aG h2]
 by_cases h3:1000000<c.aM
 · rw [aK h3,sp (fun h=>by have:=h.n1;omega)];rfl
 rw [aG h3];simp only [pp];have key:=cJ (body:=mZ) (fun i=>((i:Int),c.aM,c.ci)) (aem c.ci) (fun i=> ¬(gV (c.ci[i]!).2/\0<=(c.ci[i]!).1/\(c.ci[i]!).1<c.aM/\(0<i->(c.ci[i-1]!).1<(c.ci[i]!).1)/\ ∀j,j<i-> ¬(c.ci[j]!).2=(c.ci[i]!).2)) (r:=8) (e:=0) (fun i hi=>by
  have e1:aev ((i:Int)<((aem c.ci):Int))=aeo:=aK (by omega);have l1:=JH c i hi (by omega);unfold mZ;simp only [aB,e1,lw,au c.ci i hi,ar,yq]
  by_cases b1:gV (c.ci[i]!).2
  case neg=>rw [aG b1];exact ⟨fun _=>rfl,fun h=>absurd (ut.1 h).1 b1⟩
  rw [aK b1]
  by_cases b2:(c.ci[i]!).1<0
  · rw [aK b2]
    exact ⟨fun _=>rfl,fun h=>absurd (ut.1 h).2.1 (by omega)⟩
  rw [aG b2]
  by_cases b3:c.aM<=(c.ci[i]!).1
  · rw [aK b3]
    exact ⟨fun _=>rfl,fun h=>absurd (ut.1 h).2.2.1 (by omega)⟩
  rw [aG b3];simp only [ww,pp];have go:(0<i->(c.ci[i-1]!).1<(c.ci[i]!).1)->(¬(gV (c.ci[i]!).2/\0<=(c.ci[i]!).1/\(c.ci[i]!).1<c.aM/\(0<i->(c.ci[i-1]!).1<(c.ci[i]!).1)/\ ∀j,j<i-> ¬(c.ci[j]!).2=(c.ci[i]!).2)->aD eV ((i:Int),0,c.aM,c.ci,c.ci[i]!)=aen (.done 8))/\
   (¬¬(gV (c.ci[i]!).2/\0<=(c.ci[i]!).1/\(c.ci[i]!).1<c.aM/\(0<i->(c.ci[i-1]!).1<(c.ci[i]!).1)/\ ∀j,j<i-> ¬(c.ci[j]!).2=(c.ci[i]!).2)->aD eV ((i:Int),0,c.aM,c.ci,c.ci[i]!)=aen (.next (((i+1:Nat):Int),c.aM,c.ci))):=by
   intro hp;constructor
   · intro h
     refine l1.1 (Classical.byContradiction fun hx=>h ⟨b1,by omega,by omega,hp,fun j hj he=>hx ⟨j,hj,he⟩⟩)
   intro h
   exact l1.2 (ut.1 h).2.2.2.2
  by_cases b4:0<i
  · have f1:aev ((0:Int)<(i:Int))=aeo:=aK (by omega)
    simp only [f1,lw,si (show i<1000000000 by omega) b4,au c.ci (i-1) (by omega),ar]
    by_cases b5:(c.ci[i]!).1<=(c.ci[i-1]!).1
    · rw [aK b5]
      exact ⟨fun _=>rfl,fun h=>absurd ((ut.1 h).2.2.2.1 b4) (by omega)⟩
    rw [aG b5]
    exact go fun _=>by omega
  · have f1:aev ((0:Int)<(i:Int))=aes:=aG (by omega)
    rw [f1];exact go fun h=>absurd h b4) (by
  unfold mZ;have:aev (((aem c.ci):Int)<((aem c.ci):Int))=aes:=aG (by omega);simp only [aB,this,pp])
 have same:dQ c↔ ∀i,i<aem c.ci->(gV (c.ci[i]!).2/\0<=(c.ci[i]!).1/\(c.ci[i]!).1<c.aM/\(0<i->(c.ci[i-1]!).1<(c.ci[i]!).1)/\ ∀j,j<i-> ¬(c.ci[j]!).2=(c.ci[i]!).2):=by
  constructor
  · intro ok i hi
    exact ⟨ok.cv i hi,(ok.nr i hi).1,(ok.nr i hi).2,fun h=>ok.up (i-1) i (by omega) hi,fun j hj=>ok.nd j i hj hi⟩
  intro h
  rw [dQ.iff (by omega) (by omega) (by omega)];intro i hi;obtain ⟨a1,a2,a3,a4,a5⟩:=h i hi;refine ⟨a1,a5,?_,a3⟩;unfold wX;split
  · omega
  exact a4 (by omega)
 by_cases ok:dQ c
 · rw [rc ok]
   exact key.2 fun i hi=>ut.2 (same.1 ok i hi)
 rw [sp ok]
 rw [same] at ok;obtain ⟨i,h⟩:=EQ.1 ok;obtain ⟨hi,hx⟩:=IR.1 h;exact key.1 ⟨i,hi,hx⟩
def qW (l:List pz) (x:Int×Int):Prop:= ∃i,i<aem l/\(l[i]!).2=x
theorem JI (l:List pz) (x:Int×Int) (hl:(aem l)<=1000000):bR l x=aen (aev (qW l x)):=by
 unfold bR eH;have key:=ik (body:=cO) (fun i=>(l,x.1,x.2,((aem l):Int),(i:Int))) (aem l) (fun i=>(l[i]!).2=x) (fun i=>(i:Int)) (e:= -1) (fun i hi=>by
  have e1:aev ((i:Int)<((aem l):Int))=aeo:=aK (by omega);unfold cO y8;simp only [e1,lw,au l i hi,ar,bk (show i<1000000000 by omega)];generalize l[i]! =y;constructor
  · intro h;rw [dB (congrArg aec h),dB (congrArg aed h)];rfl
  · intro h
    by_cases h1:y.2.1=x.1
    · rw [dB h1,dL (fun h2=>h (PP h1 h2))];rfl
    rw [dL h1];rfl) (by
  unfold cO;have:aev (((aem l):Int)<((aem l):Int))=aes:=aG (by omega);simp only [this,pp])
 rw [aB]
 by_cases hx:qW l x
 · obtain ⟨k,h1,h2,h3⟩:=least hx
   have:=key.1 k h1 h2 h3;rw [show ((0:Nat):Int)=0 from rfl] at this;rw [this,aK hx];simp only [ar,aK (show (0:Int)<=(k:Int) by omega)]
 have:=key.2 fun i hi he=>hx ⟨i,hi,he⟩
 rw [show ((0:Nat):Int)=0 from rfl] at this;rw [this,aG hx];rfl
theorem BF:dD=bR:=rfl
theorem uX (c:bj) (x:Int×Int) (hl:(aem c.ci)<=1000000):qx c x=aen (aev (qW c.ci x)):=by
 unfold qx;have key:=cJ (body:=qn) (fun i=>((i:Int),c.aM,c.ci,x)) (aem c.ci) (fun i=>(c.ci[i]!).2=x) (r:=aeo) (e:=aes) (fun i hi=>by
  have e1:aev ((i:Int)<((aem c.ci):Int))=aeo:=aK (by omega);unfold qn;simp only [aB,e1,lw,au c.ci i hi,ar,bk (show i<1000000000 by omega)];generalize c.ci[i]! =y;constructor
  · intro h;rw [dB (congrArg aec h),dB (congrArg aed h)];rfl
  · intro h
    by_cases h1:y.2.1=x.1
    · rw [dB h1,dL (fun h2=>h (PP h1 h2))];rfl
    rw [dL h1];rfl) (by
  unfold qn;have:aev (((aem c.ci):Int)<((aem c.ci):Int))=aes:=aG (by omega);simp only [aB,this,pp])
 by_cases hx:qW c.ci x
 · rw [aK hx];exact key.1 hx
 rw [aG hx];exact key.2 fun i hi he=>hx ⟨i,hi,he⟩
def lE (c:bj) (x:Int×Int):bj:=⟨c.aM+1,c.ci++[(c.aM,x)]⟩
def yr (c:bj):Prop:=aem c.ci=200\/c.aM=1000000
theorem JJ {c:bj} (ok:dQ c) {x:Int×Int} (hx:gV x):Am c x=aen (if qW c.ci x then (⟨0,[]⟩,0,14) else if yr c then (⟨0,[]⟩,0,18) else (lE c x,c.aM,0)):=by
 have:=ok.len;have:=ok.n0;have:=ok.n1;unfold Am;rw [sS,rc ok,yp,aK hx,JI _ _ (by omega)];simp only [ar,show ((0:Int) !=0)=aes from rfl,pp,ww,aB]
 by_cases h1:qW c.ci x
 · rw [aK h1,rc h1];rfl
 rw [aG h1,sp h1];unfold yr
 by_cases h2:(aem c.ci)=200
 · rw [dB (show ((aem c.ci):Int)=200 by omega),rc (.inl h2)];rfl
 rw [dL (show¬((aem c.ci):Int)=200 by omega)]
 by_cases h3:c.aM=1000000
 · rw [dB h3,rc (.inr h3)];rfl
 rw [dL h3,sp (by omega)];have e:aj .i64 (c.aM+1)=c.aM+1:=by rw [wi];omega
 simp only [pp,bo (show (aem c.ci)<=1048576 by omega),ar,eW (show (aem c.ci)+[(c.aM,x)].length<=1048576 by simp;omega),e];rfl
theorem Hv {c:bj} (ok:dQ c) {x:Int×Int} (hx:gV x):Bx c x=aen (if qW c.ci x then (⟨0,[]⟩,0,14) else if yr c then (⟨0,[]⟩,0,18) else (lE c x,c.aM,0)):=by
 have:=ok.len;have:=ok.n0;have:=ok.n1;unfold Bx uP;rw [wY,rc ok,yq,aK hx,uX _ _ (by omega)];simp only [ar,show ((0:Int) !=0)=aes from rfl,pp,ww,aB]
 by_cases h1:qW c.ci x
 · rw [aK h1,rc h1];rfl
 rw [aG h1,sp h1];unfold yr
 by_cases h2:(aem c.ci)=200
 · rw [dB (show ((aem c.ci):Int)=200 by omega),rc (.inl h2)];rfl
 rw [dL (show¬((aem c.ci):Int)=200 by omega)]
 by_cases h3:c.aM=1000000
 · rw [dB h3,rc (.inr h3)];rfl
 rw [dL h3,sp (by omega)];have e:aj .i64 (c.aM+1)=c.aM+1:=by rw [wi];omega
 simp only [pp,bo (show (aem c.ci)<=1048576 by omega),ar,eW (show (aem c.ci)+[(c.aM,x)].length<=1048576 by simp;omega),e];rfl
theorem qX {c:bj} {x:Int×Int} {i:Nat}:(lE c x).ci[i]! =if i<(aem c.ci) then c.ci[i]! else if i=(aem c.ci) then (c.aM,x) else default:=by
 show (c.ci++[(c.aM,x)])[i]! =_
 by_cases h:i<aem c.ci
 · rw [rc h,eM h]
 rw [sp h,fC (by omega)]
 by_cases e:i=aem c.ci
 · rw [rc e,e,ad8];rfl
 rw [sp e,getElem!_neg _ _ (by simp;omega)]
theorem xJ {c:bj} {x:Int×Int}:(lE c x).ci.length=aem c.ci+1:=by show (c.ci++[(c.aM,x)]).length=_;simp
theorem LO {c:bj} (ok:dQ c) {x:Int×Int} (hx:gV x) (hn: ¬qW c.ci x) (hf: ¬yr c):dQ (lE c x):=by
 have h1:=ok.len;have h2:=ok.n0;have h3:=ok.n1;unfold yr at hf;refine ⟨by rw [xJ];omega,by show 0<=c.aM+1;omega,by show c.aM+1<=1000000;omega,?_,?_,?_,?_⟩
 · intro i hi
   rw [xJ] at hi;rw [qX]
   by_cases h:i<aem c.ci
   · rw [rc h];exact ok.cv i h
   rw [sp h,rc (by omega)];exact hx
 · intro i hi
   rw [xJ] at hi;rw [qX];show 0<=_/\_<c.aM+1
   by_cases h:i<aem c.ci
   · rw [rc h];have:=ok.nr i h;omega
   rw [sp h,rc (by omega)];dsimp only;omega
 · intro i j kH hj
   rw [xJ] at hj;rw [qX,qX,rc (by omega)]
   by_cases h:j<aem c.ci
   · rw [rc h];exact ok.up i j kH h
   rw [sp h,rc (by omega)]
   exact (ok.nr i (by omega)).2
 intro i j kH hj
 rw [xJ] at hj;rw [qX,qX,rc (by omega)]
 by_cases h:j<aem c.ci
 · rw [rc h];exact ok.nd i j kH h
 rw [sp h,rc (by omega)]
 exact fun he=>hn ⟨i,by omega,he⟩
def kS (c:bj) (k:Nat):bj:=⟨c.aM,c.ci.eraseIdx k⟩
theorem M7 {α:Type} {l:List α} {k:Nat} (hk:k<aem l):(l.eraseIdx k).length=aem l-1:=by rw [List.length_eraseIdx,rc hk]
theorem EO {c:bj} (ok:dQ c) {k:Nat} (hk:k<aem c.ci):dQ (kS c k):=by
 have h1:=ok.len;have len:(kS c k).ci.length=aem c.ci-1:=M7 hk;have cell: ∀i,∃j,i<=j/\j<=i+1/\(i<aem c.ci-1->j<aem c.ci)/\(kS c k).ci[i]! =c.ci[j]!/\(i<k->j=i)/\(k<=i->j=i+1):=by
  intro i
  by_cases h:i<k
  · exact ⟨i,by omega,by omega,by omega,by show (c.ci.eraseIdx k)[i]! =_;rw [EL,rc h],fun _=>rfl,by omega⟩
  exact ⟨i+1,by omega,by omega,by omega,by show (c.ci.eraseIdx k)[i]! =_;rw [EL,sp h],by omega,fun _=>rfl⟩
 refine ⟨by omega,ok.n0,ok.n1,?_,?_,?_,?_⟩
 · intro i hi
   obtain ⟨j,j1,j2,j3,j4,j5,j6⟩:=cell i;rw [j4];exact ok.cv j (j3 (by omega))
 · intro i hi
   obtain ⟨j,j1,j2,j3,j4,j5,j6⟩:=cell i;rw [j4];exact ok.nr j (j3 (by omega))
 · intro i i' kH hi
   obtain ⟨j,j1,j2,j3,j4,j5,j6⟩:=cell i;obtain ⟨m,m1,m2,m3,m4,m5,m6⟩:=cell i';rw [j4,m4];exact ok.up j m (by omega) (m3 (by omega))
 intro i i' kH hi
 obtain ⟨j,j1,j2,j3,j4,j5,j6⟩:=cell i;obtain ⟨m,m1,m2,m3,m4,m5,m6⟩:=cell i';rw [j4,m4];exact ok.nd j m (by omega) (m3 (by omega))
theorem EP {c:bj} (ok:dQ c) {k:Nat} (hk:k<aem c.ci) {n:Int} (hn:(c.ci[k]!).1=n):rT c n=aen (kS c k,(c.ci[k]!).2,0):=by have h1:=ok.len;unfold rT Bu;obtain ⟨L,d1,d2⟩:=Cg c.ci k hk;rw [sS,rc ok,(CW c.ci n (by omega) ok.up).1 k hk hn];simp only [ar,show ((0:Int) !=0)=aes from rfl,pp,ww,bo (show (aem c.ci)<=1048576 by omega),bk (show k<1000000000 by omega),d1,au c.ci k hk,d2];rfl
theorem Hw {l:List pz} {k:Nat} (hk:k<aem l) (hs: ∀i j,i<j->j<aem l->(l[i]!).1<(l[j]!).1) {n:Int} (hn:(l[k]!).1=n):l.filter (fun x=>x.1 !=n)=l.eraseIdx k:=by
 rw [qV];have e:l.filter (fun x=>x.1 !=n)=(l.take k++l[k]!::l.drop (k+1)).filter (fun x=>x.1 !=n):=congrArg _ (Rv hk);rw [e,adG,List.filter_cons_of_neg (by rw [hn];simp)]
 congr 1
 · rw [adz]
   intro x hx;obtain ⟨i,h1,h2,rfl⟩:=cI.1 hx;have:=hs i k h1 hk;exact dS (by omega)
 rw [adz]
 intro x hx;obtain ⟨i,h1,rfl⟩:=aN.1 hx;rw [ad6] at h1;rw [qy];have:=hs k (k+1+i) (by omega) (by omega);exact dS (by omega)
theorem BG {c:bj} (ok:dQ c) {k:Nat} (hk:k<aem c.ci) {n:Int} (hn:(c.ci[k]!).1=n):sK c n=aen (kS c k):=by
 have h1:=ok.len;unfold sK;have key:=gr (body:=iZ) (fun i=>(n,(i:Int),c.aM,c.ci,0,c.aM,(c.ci.take i).filter (fun x=>x.1 !=n))) (aem c.ci) (fun i hi=>by
  have e1:aev ((i:Int)<((aem c.ci):Int))=aeo:=aK (by omega);have nx:(c.ci.take (i+1)).filter (fun x=>x.1 !=n)=(c.ci.take i).filter (fun x=>x.1 !=n)++(if (c.ci[i]!).1 !=n then [c.ci[i]!] else []):=by rw [ja hi,adG,List.filter_cons,List.filter_nil]
  have fl:((c.ci.take i).filter (fun x=>x.1 !=n)).length<=200:=aeg (List.length_filter_le _ _) (by rw [If];omega);unfold iZ;simp only [aB,e1,lw,au c.ci i hi,ar,bk (show i<1000000000 by omega),nx]
  by_cases h:(c.ci[i]!).1=n
  · rw [cK h];simp
  rw [dS h]
  simp only [lw,if_true,eW (show ((c.ci.take i).filter (fun x=>x.1 !=n)).length+[c.ci[i]!].length<=1048576 by simp only [adW,adZ];omega),ar])
 have fin:iZ (n,((aem c.ci):Int),c.aM,c.ci,0,c.aM,(c.ci.take (aem c.ci)).filter (fun x=>x.1 !=n))=aen (.done (kS c k)):=by unfold iZ;have:aev (((aem c.ci):Int)<((aem c.ci):Int))=aes:=aG (by omega);simp only [aB,this,pp,List.take_length];rw [Hw hk ok.up hn];rfl
 refine Eq.trans ?_ (aJ fin);exact key
def oq (l:List Pt) (id:Int):Prop:= ∃k,k<aem l/\(l[k]!).1=id
noncomputable def bJ (l:List Pt) (id:Int):Pt:=if h:oq l id then l[h.choose]! else (-1,0,0)
theorem AB {l:List Pt} (hs:gb l) {k:Nat} (hk:k<aem l) {id:Int} (h:(l[k]!).1=id):bJ l id=l[k]!:=by have hp:oq l id:=⟨k,hk,h⟩;unfold bJ;rw [dif_pos hp];have:=hp.choose_spec;rw [zf hs this.1 hk (by rw [this.2,h])]
theorem dz {l:List Pt} (ok:cV l) {id:Int} (h:oq l id):ek (bJ l id)/\(bJ l id).1=id:=by obtain ⟨k,hk,he⟩:=h;rw [AB ok.2.2 hk he];exact ⟨ok.2.1 _ (aR hk),he⟩
theorem BH {l:List Pt} {id:Int} (h: ¬oq l id):bJ l id=(-1,0,0):=by unfold bJ;rw [dif_neg h]
theorem kE {l:List Pt} (ok:cV l) (id:Int):ig ⟨l⟩ id=aen (bJ l id):=by
 have h1:=ok.1;have bs:=CW l id (by omega) (fun i j=>qz ok.2.2);unfold ig;dsimp only;rw [RQ]
 by_cases h:oq l id
 · obtain ⟨k,hk,he⟩:=h
   rw [bs.1 k hk he];simp only [ar,ww,pp,au l k hk,AB ok.2.2 hk he]
 obtain ⟨m,m1,m2,m3,e⟩:=bs.2 (fun k hk he=>h ⟨k,hk,he⟩)
 rw [e,BH h];rfl
theorem zj {l:List Pt} (ok:cV l) {id:Int} (h:oq l id): ∃k,k<aem l/\gJ ⟨l⟩ id=aen (k:Int)/\l[k]! =bJ l id:=by have h1:=ok.1;obtain ⟨k,hk,he⟩:=h;exact ⟨k,hk,OE ok.2.2 (by omega) hk he,(AB ok.2.2 hk he).symm⟩
theorem LQ {l:List Pt} (ok:cV l) {id:Int} (h: ¬oq l id):gJ ⟨l⟩ id=aen (-1):=by have h1:=ok.1;exact WD (by omega) fun k hk he=>h ⟨k,hk,he⟩
def js (l:List Pt) (x:Int×Int):Prop:=oq l x.1/\oq l x.2
noncomputable def bm (l:List Pt) (x t:Int×Int):(Int×Int)×Bool:=fu (bJ l x.2) (bJ l x.1) t
theorem sT {l:List Pt} (ok:cV l) {x t:Int×Int} (hx:gV x) (ht:aZ t) (h64:jP t):
 nX ⟨l⟩ x t=aen (if js l x then ((bm l x t).1,(bm l x t).2,0) else ((0,0),aes,8)):=by
 unfold nX;rw [kE ok,kE ok];simp only [ar,Cz h64];have bad: ¬ek (-1,0,0):=by unfold ek;dsimp only;omega
 by_cases h1:oq l x.1
 · by_cases h2:oq l x.2
   · obtain ⟨p1,p2⟩:=dz ok h1
     obtain ⟨q1,q2⟩:=dz ok h2;rw [rc ⟨q1,p1,ht,by rw [p2,q2];exact fun h=>hx.2.2.2.2 h.symm⟩,rc ⟨h1,h2⟩];rfl
   rw [BH h2,sp (fun h=>bad h.1),sp (fun h=>bad h.1),sp (fun h=>h2 h.2)]
 rw [BH h1,sp (fun h=>bad h.2.1),sp (fun h=>bad h.2.1),sp (fun h=>h1 h.1)]
theorem sU {l:List Pt} (ok:cV l) {x t:Int×Int} (h64:jP t) (hb:js l x):oc ⟨l⟩ x t=aen (bm l x t):=by obtain ⟨h1,h2⟩:=hb;obtain ⟨j,j1,j2,j3⟩:=zj ok h1;obtain ⟨k,k1,k2,k3⟩:=zj ok h2;unfold oc;simp only [j2,k2,ar,au l j j1,au l k k1,j3,k3,LB (dz ok h2).1 (dz ok h1).1 h64];rfl
theorem RR (c:bj) {l:List Pt} (ok:cV l) (hl:(aem c.ci)<=200):rW c ⟨l⟩=aen (aev (∀i,i<aem c.ci->js l (c.ci[i]!).2)):=by
 unfold rW;have key:=cJ (body:=na) (fun i=>((i:Int),c.aM,c.ci,l)) (aem c.ci) (fun i=> ¬js l (c.ci[i]!).2) (r:=aes) (e:=aeo) (fun i hi=>by
  have e1:aev ((i:Int)<((aem c.ci):Int))=aeo:=aK (by omega);unfold na js;simp only [aB,e1,lw,au c.ci i hi,ar,bk (show i<1000000000 by omega)]
  by_cases h1:oq l (c.ci[i]!).2.1
  · obtain ⟨k,k1,k2,_⟩:=zj ok h1
    rw [k2];simp only [ar,aG (show¬(k:Int)<0 by omega),pp]
    by_cases h2:oq l (c.ci[i]!).2.2
    · obtain ⟨j,j1,j2,_⟩:=zj ok h2
      rw [j2];simp only [ar,aG (show¬(j:Int)<0 by omega),pp];exact ⟨fun h=>absurd ⟨h1,h2⟩ h,fun _=>trivial⟩
    rw [LQ ok h2]
    exact ⟨fun _=>rfl,fun h=>absurd (ut.1 h).2 h2⟩
  · rw [LQ ok h1]
    exact ⟨fun _=>rfl,fun h=>absurd (ut.1 h).1 h1⟩) (by
  unfold na;have:aev (((aem c.ci):Int)<((aem c.ci):Int))=aes:=aG (by omega);simp only [aB,this,pp])
 by_cases hx: ∀i,i<aem c.ci->js l (c.ci[i]!).2
 · rw [aK hx];exact key.2 fun i hi=>ut.2 (hx i hi)
 rw [aG hx]
 obtain ⟨i,h⟩:=EQ.1 hx;obtain ⟨hi,hx⟩:=IR.1 h;exact key.1 ⟨i,hi,hx⟩
def aT (l:List Pt) (t:Int×Int) (H:List Ev):List pz->List pz->Prop
 | [],ds=>ds=[]
 |x::cs,ds=>((bm l x.2 t).2=aeo-> ∃d wb,ds=d::wb/\d.1=x.1/\((bm l x.2 t).1.1,(bm l x.2 t).1.2,x.1,d.2)∈H/\aT l t H cs wb)/\((bm l x.2 t).2=aes->aT l t H cs ds)
structure aV (c:aI):Prop where
 jQ:aZ c.ii
 jb:jP c.ii
 iq:cV c.io.be
 pT:dQ c.af
 kF:dT c.aa
 CB:(aem c.aa.ao)=200
 hd:(aem c.aa.ce)=aem c.jp
 known: ∀i,i<aem c.af.ci->js c.io.be (c.af.ci[i]!).2
 xV:aT c.io.be c.ii c.aa.ce c.af.ci c.jp
structure qY (c:aI):Prop where
 jb:jP c.ii
 ag:wT c.aa
 du:(aem c.jp)<=1000000
theorem X9 {a:aH} (ok:dT a) (w2:(aem a.ao)=200) (t:Int×Int) (n:Int) (h:Int×Int):
 (0<=h.1/\h.1<200/\0<=a.ao[h.1.toNat]!/\a.ce[(a.ao[h.1.toNat]!).toNat]! =(t.1,t.2,n,h))↔((t.1,t.2,n,h):Ev)∈a.ce:=by
 have wl:=ok.wl;have hu:=ok.so.ul;constructor
 · rintro ⟨h1,h2,h3,h4⟩
   cases hb:a.ai.bi[h.1.toNat]! with
   |false=>have:=ok.un h.1.toNat (by omega) hb;omega
   |true=>have:=ok.fwd h.1.toNat (by omega) hb;rw [<- h4];exact aR (by omega)
 intro hm
 obtain ⟨w,hw,he⟩:=aN.1 hm;obtain ⟨b1,b2,b3,b4,b5⟩:=ok.back hw;have e:Ev.ix a.ce[w]! =h.1:=by rw [he]
 have e2:Ev.n a.ce[w]! =h.1.toNat:=by rw [he]
 rw [e] at b1 b2;rw [e2] at b5;refine ⟨b1,by omega,by omega,?_⟩;rw [b5,AC,he]
theorem RS {a:aH} (ok:dT a) {i:Nat} (hi:i<aem a.ai.aq) (h:0<=a.ao[i]!):a.ao[i]!<(aem a.ce):=by
 cases hb:a.ai.bi[i]! with
 |false=>have:=ok.un i hi hb;omega
 |true=>exact (ok.fwd i hi hb).2.1
theorem qA {α:Type} [Inhabited α] {l:List α} {i:Nat} (h:i<aem l):l.drop i=l[i]!::l.drop (i+1):=by rw [getElem!_pos l i h];exact List.drop_eq_getElem_cons h
theorem JK {c:aI} (jQ:aZ c.ii) (jb:jP c.ii) (iq:cV c.io.be) (pT:dQ c.af) (kF:dT c.aa) (w2:(aem c.aa.ao)=200):
 ∀(d i:Nat) (ds:List pz),aem c.af.ci-i<=d->i<=aem c.af.ci->aem ds<=1000000->
  aD cd (ds,c.af.ci,((aem c.af.ci):Int),(i:Int),c.ii.1,c.ii.2,c.io.be,c.af.aM,c.af.ci,c.aa.ai.aq,c.aa.ai.bi,c.aa.ai.bv,c.aa.ce,c.aa.ao,c.jp)=
   aen (.done (if (∀j,i<=j->j<aem c.af.ci->js c.io.be (c.af.ci[j]!).2)/\aT c.io.be c.ii c.aa.ce (c.af.ci.drop i) ds then 0 else 8)):=by
 have hl:=pT.len;have wl:=kF.wl;have fin: ∀(ds:List pz),aD cd (ds,c.af.ci,((aem c.af.ci):Int),((aem c.af.ci):Int),c.ii.1,c.ii.2,c.io.be,c.af.aM,c.af.ci,c.aa.ai.aq,c.aa.ai.bi,c.aa.ai.bv,c.aa.ce,c.aa.ao,c.jp)=aen (.done (if ds=[] then 0 else 8)):=by
  intro ds;refine aJ ?_;unfold cd;have e1:aev (((aem c.af.ci):Int)<((aem c.af.ci):Int))=aes:=aG (by omega);simp only [aB,e1,pp];cases ds with
  |nil=>rw [aG (by simp),rc rfl];rfl
  |cons d ds=>rw [aK (by simp),sp (by simp)];rfl
 intro d
 induction d with
 |zero=>
  intro i ds hd hi SU;have:i=(aem c.af.ci):=by omega
  subst this;rw [fin ds,ad1];have:((∀j,aem c.af.ci<=j->j<aem c.af.ci->js c.io.be (c.af.ci[j]!).2)/\aT c.io.be c.ii c.aa.ce [] ds)↔ds=[]:=⟨fun h=>h.2,fun h=>⟨fun j h1 h2=>by omega,h⟩⟩
  by_cases h:ds=[]
  · rw [rc h,rc (this.2 h)]
  rw [sp h,sp (fun k=>h (this.1 k))]
 |succ d ih=>
  intro i ds hd hi SU
  by_cases he:i=aem c.af.ci
  · subst he
    rw [fin ds,ad1];have:((∀j,aem c.af.ci<=j->j<aem c.af.ci->js c.io.be (c.af.ci[j]!).2)/\aT c.io.be c.ii c.aa.ce [] ds)↔ds=[]:=⟨fun h=>h.2,fun h=>⟨fun j h1 h2=>by omega,h⟩⟩
    by_cases h:ds=[]
    · rw [rc h,rc (this.2 h)]
    rw [sp h,sp (fun k=>h (this.1 k))]
  have qG:i<(aem c.af.ci):=by omega
  have e1:aev ((i:Int)<((aem c.af.ci):Int))=aeo:=aK (by omega);have hw:=sT iq (x:=(c.af.ci[i]!).2) (t:=(c.ii.1,c.ii.2)) (pT.cv i qG) jQ jb;have dr:=qA qG;have all:(∀j,i<=j->j<aem c.af.ci->js c.io.be (c.af.ci[j]!).2)↔(js c.io.be (c.af.ci[i]!).2/\ ∀j,i+1<=j->j<aem c.af.ci->js c.io.be (c.af.ci[j]!).2):=by
   constructor
   · intro h;exact ⟨h i (Do _) qG,fun j h1 h2=>h j (by omega) h2⟩
   rintro ⟨h1,h2⟩ j h3 h4
   by_cases e:j=i
   · rw [e];exact h1
   exact h2 j (by omega) h4
  have sc:=bk (show i<1000000000 by omega)
  by_cases hb:js c.io.be (c.af.ci[i]!).2
  case neg=>rw [sp (fun h=>hb (all.1 h.1).1)];refine aJ ?_;unfold cd;simp only [e1,lw,au c.af.ci i qG,ar,hw,sp hb];rfl
  rw [rc hb] at hw
  by_cases is:(bm c.io.be (c.af.ci[i]!).2 c.ii).2=aeo
  case neg=>
   have is':(bm c.io.be (c.af.ci[i]!).2 c.ii).2=aes:=by simpa using is
   rw [aX (y:=(ds,c.af.ci,((aem c.af.ci):Int),((i+1:Nat):Int),c.ii.1,c.ii.2,c.io.be,c.af.aM,c.af.ci,c.aa.ai.aq,c.aa.ai.bi,c.aa.ai.bv,c.aa.ce,c.aa.ao,c.jp)) (by unfold cd;simp only [e1,lw,au c.af.ci i qG,ar,hw,sc,is',show ((0:Int) !=0)=aes from rfl,pp,ac6]),ih (i+1) ds (by omega) (by omega) SU];have same:((∀j,i<=j->j<aem c.af.ci->js c.io.be (c.af.ci[j]!).2)/\aT c.io.be c.ii c.aa.ce (c.af.ci.drop i) ds)↔((∀j,i+1<=j->j<aem c.af.ci->js c.io.be (c.af.ci[j]!).2)/\aT c.io.be c.ii c.aa.ce (c.af.ci.drop (i+1)) ds):=by
    rw [dr,all];constructor
    · rintro ⟨⟨_,h1⟩,h2⟩;exact ⟨h1,h2.2 is'⟩
    rintro ⟨h1,h2⟩;exact ⟨⟨hb,h1⟩,fun h=>absurd h is,fun _=>h2⟩
   simp only [same]
  have stop:(¬((∀j,i<=j->j<aem c.af.ci->js c.io.be (c.af.ci[j]!).2)/\aT c.io.be c.ii c.aa.ce (c.af.ci.drop i) ds))->cd (ds,c.af.ci,((aem c.af.ci):Int),(i:Int),c.ii.1,c.ii.2,c.io.be,c.af.aM,c.af.ci,c.aa.ai.aq,c.aa.ai.bi,c.aa.ai.bv,c.aa.ce,c.aa.ao,c.jp)=aen (.done (.done 8))->aD cd (ds,c.af.ci,((aem c.af.ci):Int),(i:Int),c.ii.1,c.ii.2,c.io.be,c.af.aM,c.af.ci,c.aa.ai.aq,c.aa.ai.bi,c.aa.ai.bv,c.aa.ce,c.aa.ao,c.jp)=
   aen (.done (if (∀j,i<=j->j<aem c.af.ci->js c.io.be (c.af.ci[j]!).2)/\aT c.io.be c.ii c.aa.ce (c.af.ci.drop i) ds then 0 else 8)):=by
   intro h1 h2;rw [sp h1];exact aJ h2
  cases ds with
  |nil=>
   refine stop (fun h=>?_) ?_
   · rw [dr] at h
     obtain ⟨d,wb,h1,_⟩:=h.2.1 is;cases h1
   unfold cd
   simp only [e1,lw,au c.af.ci i qG,ar,hw,is,show ((0:Int) !=0)=aes from rfl,pp,ww];rfl
  |cons d0 ds=>
   have l0:((((d0::ds).length:Nat):Int)==0)=aes:=dL (by simp;omega);have g0:aC (d0::ds) 0=aen d0:=rfl;have xV: ∀P:Prop,(P↔d0.1=(c.af.ci[i]!).1/\(((bm c.io.be (c.af.ci[i]!).2 c.ii).1.1,(bm c.io.be (c.af.ci[i]!).2 c.ii).1.2,(c.af.ci[i]!).1,d0.2):Ev)∈c.aa.ce)-> ¬P-> ¬((∀j,i<=j->j<aem c.af.ci->js c.io.be (c.af.ci[j]!).2)/\aT c.io.be c.ii c.aa.ce (c.af.ci.drop i) (d0::ds)):=by intro P hP hn h;rw [dr] at h;obtain ⟨d,wb,h1,h2,h3,_⟩:=h.2.1 is;injection h1 with h1 _;subst h1;exact hn (hP.2 ⟨h2,h3⟩)
   by_cases b1:d0.1=(c.af.ci[i]!).1
   case neg=>refine stop (xV (d0.1=(c.af.ci[i]!).1/\_) ad7 (fun h=>b1 h.1)) ?_;unfold cd;simp only [aB,e1,lw,au c.af.ci i qG,ar,hw,is,show ((0:Int) !=0)=aes from rfl,pp,ww,l0,g0,dS b1]
   have ea:=X9 kF w2 (bm c.io.be (c.af.ci[i]!).2 c.ii).1 (c.af.ci[i]!).1 d0.2
   by_cases b2:d0.2.1<0
   · refine stop (xV (d0.1=(c.af.ci[i]!).1/\_) ad7 (fun h=>by have:=(ea.2 h.2).1;omega)) ?_
     unfold cd;simp only [aB,e1,lw,au c.af.ci i qG,ar,hw,is,show ((0:Int) !=0)=aes from rfl,pp,ww,l0,g0,cK b1,aK b2]
   by_cases b3:200<=d0.2.1
   · refine stop (xV (d0.1=(c.af.ci[i]!).1/\_) ad7 (fun h=>by have:=(ea.2 h.2).2.1;omega)) ?_
     unfold cd;simp only [aB,e1,lw,au c.af.ci i qG,ar,hw,is,show ((0:Int) !=0)=aes from rfl,pp,ww,l0,g0,cK b1,aG b2,aK b3]
   have gw:=cZ (l:=c.aa.ao) (i:=d0.2.1) (by omega) (by omega)
   by_cases b4:c.aa.ao[d0.2.1.toNat]!<0
   · refine stop (xV (d0.1=(c.af.ci[i]!).1/\_) ad7 (fun h=>by have:=(ea.2 h.2).2.2.1;omega)) ?_
     unfold cd;simp only [aB,e1,lw,au c.af.ci i qG,ar,hw,is,show ((0:Int) !=0)=aes from rfl,pp,ww,l0,g0,cK b1,aG b2,aG b3,gw,aK b4]
   have gh:=cZ (l:=c.aa.ce) (i:=c.aa.ao[d0.2.1.toNat]!) (by omega) (RS kF (by omega) (by omega));have sl:gD (d0::ds) 1 ((((d0::ds).length:Nat):Int))=aen ds:=by unfold gD;rw [rc ⟨by omega,by simp;omega,by omega⟩];simp
   have evq: ∀(e:Ev) (p:Int×Int) (n:Int) (h:Int×Int),((e.1==p.1)&&((e.2.1==p.2)&&((e.2.2.1==n)&&((e.2.2.2.1==h.1)&&(e.2.2.2.2==h.2)))))=aev (e=(p.1,p.2,n,h)):=by
    intro e p n h;rw [adc,decide_eq_true_iff];simp only [adY,beq_iff_eq];constructor
    · rintro ⟨h1,h2,h3,h4,h5⟩
      exact PP h1 (PP h2 (PP h3 (PP h4 h5)))
    intro h;rw [h];exact ⟨rfl,rfl,rfl,rfl,rfl⟩
   have agV:=evq c.aa.ce[(c.aa.ao[d0.2.1.toNat]!).toNat]! (bm c.io.be (c.af.ci[i]!).2 c.ii).1 (c.af.ci[i]!).1 d0.2
   by_cases b5:c.aa.ce[(c.aa.ao[d0.2.1.toNat]!).toNat]! =((bm c.io.be (c.af.ci[i]!).2 c.ii).1.1,(bm c.io.be (c.af.ci[i]!).2 c.ii).1.2,(c.af.ci[i]!).1,d0.2)
   case neg=>refine stop (xV (d0.1=(c.af.ci[i]!).1/\_) ad7 (fun h=>b5 (ea.2 h.2).2.2.2)) ?_;unfold cd;simp only [aB,e1,lw,au c.af.ci i qG,ar,hw,is,show ((0:Int) !=0)=aes from rfl,pp,ww,l0,g0,cK b1,aG b2,aG b3,gw,aG b4,gh];rw [agV,aG b5];rfl
   have xR:=ea.1 ⟨by omega,by omega,by omega,b5⟩;rw [aX (y:=(ds,c.af.ci,((aem c.af.ci):Int),((i+1:Nat):Int),c.ii.1,c.ii.2,c.io.be,c.af.aM,c.af.ci,c.aa.ai.aq,c.aa.ai.bi,c.aa.ai.bv,c.aa.ce,c.aa.ao,c.jp)) (by unfold cd;simp only [aB,e1,lw,au c.af.ci i qG,ar,hw,is,show ((0:Int) !=0)=aes from rfl,pp,ww,l0,g0,cK b1,aG b2,aG b3,gw,aG b4,gh,sl,sc];rw [agV,aK b5];rfl),ih (i+1) ds (by omega) (by omega) (by simp at SU;omega)];have same:((∀j,i<=j->j<aem c.af.ci->js c.io.be (c.af.ci[j]!).2)/\aT c.io.be c.ii c.aa.ce (c.af.ci.drop i) (d0::ds))↔((∀j,i+1<=j->j<aem c.af.ci->js c.io.be (c.af.ci[j]!).2)/\aT c.io.be c.ii c.aa.ce (c.af.ci.drop (i+1)) ds):=by
    rw [dr,all];constructor
    · rintro ⟨⟨_,h1⟩,h2⟩
      obtain ⟨d,wb,k1,k2,k3,k4⟩:=h2.1 is;injection k1 with k1 k5;subst k5;exact ⟨h1,k4⟩
    rintro ⟨h1,h2⟩
    exact ⟨⟨hb,h1⟩,fun _=>⟨d0,ds,rfl,b1,xR,h2⟩,fun h=>by rw [is] at h;cases h⟩
   simp only [same]
theorem aV.iff {c:aI} (fit:qY c):aV c↔aZ c.ii/\cV c.io.be/\dQ c.af/\dT c.aa/\aem c.aa.ao=200/\aem c.aa.ce=aem c.jp/\(∀i,i<aem c.af.ci->js c.io.be (c.af.ci[i]!).2)/\aT c.io.be c.ii c.aa.ce c.af.ci c.jp:=
 ⟨fun h=>⟨h.jQ,h.iq,h.pT,h.kF,h.CB,h.hd,h.known,h.xV⟩,fun ⟨h1,h2,h3,h4,h5,h6,h7,h8⟩=>⟨h1,fit.jb,h2,h3,h4,h5,h6,h7,h8⟩⟩
theorem aV.fit {c:aI} (ok:aV c):qY c:=⟨ok.jb,ok.kF.fit,by have:=ok.hd;have:=ok.kF.bd;omega⟩
theorem JL {c:aI} {n0 n1 n2 n3:Int}:
 aD eb (4,0,c.ii.1,c.ii.2,c.io.be,c.af.aM,c.af.ci,c.aa.ai.aq,c.aa.ai.bi,c.aa.ai.bv,c.aa.ce,c.aa.ao,c.jp,[n0,n1,n2,n3])=
  if n0=0/\n1=0/\n2=0/\n3=0 then aD eb (4,4,c.ii.1,c.ii.2,c.io.be,c.af.aM,c.af.ci,c.aa.ai.aq,c.aa.ai.bi,c.aa.ai.bv,c.aa.ce,c.aa.ao,c.jp,[n0,n1,n2,n3]) else aen 8:=by
 have st: ∀(i:Nat) (n:Int),i<4->aC [n0,n1,n2,n3] (i:Int)=aen n->aD eb (4,(i:Int),c.ii.1,c.ii.2,c.io.be,c.af.aM,c.af.ci,c.aa.ai.aq,c.aa.ai.bi,c.aa.ai.bv,c.aa.ce,c.aa.ao,c.jp,[n0,n1,n2,n3])=
  if n=0 then aD eb (4,((i+1:Nat):Int),c.ii.1,c.ii.2,c.io.be,c.af.aM,c.af.ci,c.aa.ai.aq,c.aa.ai.bi,c.aa.ai.bv,c.aa.ce,c.aa.ao,c.jp,[n0,n1,n2,n3]) else aen 8:=by
  intro i n hi hg;have e1:aev ((i:Int)<4)=aeo:=aK (by omega)
  by_cases h:n=0
  · rw [rc h]
    refine aX ?_;unfold eb;simp only [e1,lw,hg,ar,cK h,pp,bk (show i<1000000000 by omega)]
  rw [sp h]
  refine aJ ?_;unfold eb;simp only [e1,lw,hg,ar,dS h]
 have s0:=st 0 n0 (by omega) rfl;have s1:=st 1 n1 (by omega) rfl;have s2:=st 2 n2 (by omega) rfl;have s3:=st 3 n3 (by omega) rfl;have c0:((0:Nat):Int)=0:=rfl;have c4:((3+1:Nat):Int)=4:=rfl;rw [c0] at s0;rw [c4] at s3;rw [s0]
 by_cases h0:n0=0
 · rw [rc h0,show ((0+1:Nat):Int)=((1:Nat):Int) from rfl,s1]
   by_cases h1:n1=0
   · rw [rc h1,show ((1+1:Nat):Int)=((2:Nat):Int) from rfl,s2]
     by_cases h2:n2=0
     · rw [rc h2,show ((2+1:Nat):Int)=((3:Nat):Int) from rfl,s3]
       by_cases h3:n3=0
       · rw [rc h3,rc ⟨h0,h1,h2,h3⟩]
       rw [sp h3,sp (fun h=>h3 h.2.2.2)]
     rw [sp h2,sp (fun h=>h2 h.2.2.1)]
   rw [sp h1,sp (fun h=>h1 h.2.1)]
 rw [sp h0,sp (fun h=>h0 h.1)]
theorem kG {c:aI} (fit:qY c):gm c=aen (if aV c then 0 else 8):=by
 unfold gm;rw [df fit.jb,nv,sS,gZ _ fit.ag];simp only [ar];have h4:Int.ofNat [if aZ c.ii then (0:Int) else 8,qU c.io.be,if dQ c.af then (0:Int) else 8,if dT c.aa then (0:Int) else 8].length=4:=rfl;rw [h4,JL];have z: ∀(p:Prop) [Decidable p],(if p then (0:Int) else 8)=0↔p:=fun p _=>by by_cases h:p<;>simp [h]
 simp only [z,mj];have f1:=aV.iff fit
 by_cases ok:aZ c.ii/\cV c.io.be/\dQ c.af/\dT c.aa
 case neg=>rw [sp ok,sp (c:=aV c) (fun h=>ok ⟨h.jQ,h.iq,h.pT,h.kF⟩)]
 obtain ⟨jQ,iq,pT,kF⟩:=ok;rw [rc ⟨jQ,iq,pT,kF⟩]
 by_cases w2:(aem c.aa.ao)=200
 case neg=>rw [sp (c:=aV c) (fun h=>w2 h.CB)];refine aJ ?_;unfold eb;simp only [aB,aG (show¬(4:Int)<4 by omega),pp,dS (show¬((aem c.aa.ao):Int)=200 by omega),lw]
 by_cases hd:(aem c.aa.ce)=aem c.jp
 case neg=>rw [sp (c:=aV c) (fun h=>hd h.hd)];refine aJ ?_;unfold eb;simp only [aB,aG (show¬(4:Int)<4 by omega),pp,cK (show ((aem c.aa.ao):Int)=200 by omega),dS (show¬((aem c.aa.ce):Int)=((aem c.jp):Int) by omega),lw]
 have run:=JK jQ fit.jb iq pT kF w2 (aem c.af.ci) 0 c.jp (by omega) (by omega) fit.du;rw [adu] at run;have same:((∀j,0<=j->j<aem c.af.ci->js c.io.be (c.af.ci[j]!).2)/\aT c.io.be c.ii c.aa.ce c.af.ci c.jp)↔aV c:=by
  rw [f1];constructor
  · rintro ⟨h1,h2⟩;exact ⟨jQ,iq,pT,kF,w2,hd,fun i hi=>h1 i (by omega) hi,h2⟩
  rintro ⟨_,_,_,_,_,_,h1,h2⟩;exact ⟨fun j _ hj=>h1 j hj,h2⟩
 simp only [same] at run;refine aJ ?_;unfold eb;simp only [aB,aG (show¬(4:Int)<4 by omega),pp,cK (show ((aem c.aa.ao):Int)=200 by omega),cK (show ((aem c.aa.ce):Int)=((aem c.jp):Int) by omega)];exact run
theorem WI {a:aH} (ok:dT a) (h:Int×Int):qO a h=aen (if sj a.ai h then (a.ce[(a.ao[h.1.toNat]!).toNat]!,0) else ((0,0,0,0,0),6)):=by
 unfold qO;rw [wU a ok.fit,rc ok,M4 ok.so];simp only [ar,show ((0:Int) !=0)=aes from rfl,pp]
 by_cases lv:sj a.ai h
 · obtain ⟨i,hi,hw,hh⟩:=ok.live lv
   have:=lv.1;have:=lv.2.1;have:=ok.wl;rw [aK lv,rc lv,cZ (l:=a.ao) lv.1 (by omega),hw];simp only [ww,pp,ar,au a.ce i hi,AC]
 rw [aG lv,sp lv];rfl
theorem JM {c:aI} (jb:jP c.ii) (iq:cV c.io.be) (pT:dQ c.af) (kF:dT c.aa) (w2:(aem c.aa.ao)=200) (hdu:(aem c.jp)<=1000000)
 (kn: ∀i,i<aem c.af.ci->js c.io.be (c.af.ci[i]!).2):
 ∀(d i k:Nat),aem c.af.ci-i<=d->i<=aem c.af.ci->k<=aem c.jp->
  aD cS ((k:Int),(i:Int),c.ii.1,c.ii.2,c.io.be,c.af.aM,c.af.ci,c.aa.ai.aq,c.aa.ai.bi,c.aa.ai.bv,c.aa.ce,c.aa.ao,c.jp)=
   aen (if aT c.io.be c.ii c.aa.ce (c.af.ci.drop i) (c.jp.drop k) then 0 else 8):=by
 have hl:=pT.len;have wl:=kF.wl;have fin: ∀k:Nat,k<=aem c.jp->aD cS ((k:Int),((aem c.af.ci):Int),c.ii.1,c.ii.2,c.io.be,c.af.aM,c.af.ci,c.aa.ai.aq,c.aa.ai.bi,c.aa.ai.bv,c.aa.ce,c.aa.ao,c.jp)=aen (if aT c.io.be c.ii c.aa.ce (c.af.ci.drop (aem c.af.ci)) (c.jp.drop k) then 0 else 8):=by
  intro k hk;rw [ad1];refine aJ ?_;unfold cS;have e1:aev (((aem c.af.ci):Int)<((aem c.af.ci):Int))=aes:=aG (by omega);simp only [aB,e1,pp];have:aT c.io.be c.ii c.aa.ce [] (c.jp.drop k)↔k=(aem c.jp):=by show c.jp.drop k=[]↔_;rw [ad2];omega
  by_cases h:k=aem c.jp
  · rw [rc (this.2 h),cK (by omega)];rfl
  rw [sp (fun x=>h (this.1 x)),dS (by omega)];rfl
 intro d
 induction d with
 |zero=>
  intro i k hd hi hk;have:i=(aem c.af.ci):=by omega
  subst this;exact fin k hk
 |succ d ih=>
  intro i k hd hi hk
  by_cases he:i=aem c.af.ci
  · subst he;exact fin k hk
  have qG:i<(aem c.af.ci):=by omega
  have e1:aev ((i:Int)<((aem c.af.ci):Int))=aeo:=aK (by omega);have hw:=sU iq (x:=(c.af.ci[i]!).2) (t:=(c.ii.1,c.ii.2)) jb (kn i qG);have dr:=qA qG;have sc:=bk (show i<1000000000 by omega);have sk:=bk (show k<1000000000 by omega)
  by_cases is:(bm c.io.be (c.af.ci[i]!).2 c.ii).2=aeo
  case neg=>
   have is':(bm c.io.be (c.af.ci[i]!).2 c.ii).2=aes:=by simpa using is
   rw [aX (y:=((k:Int),((i+1:Nat):Int),c.ii.1,c.ii.2,c.io.be,c.af.aM,c.af.ci,c.aa.ai.aq,c.aa.ai.bi,c.aa.ai.bv,c.aa.ce,c.aa.ao,c.jp)) (by unfold cS;simp only [aB,e1,lw,au c.af.ci i qG,ar,hw,sc,is',ac6]),ih (i+1) k (by omega) (by omega) hk];have same:aT c.io.be c.ii c.aa.ce (c.af.ci.drop i) (c.jp.drop k)↔aT c.io.be c.ii c.aa.ce (c.af.ci.drop (i+1)) (c.jp.drop k):=by rw [dr];exact ⟨fun h=>h.2 is',fun h=>⟨fun h'=>absurd h' is,fun _=>h⟩⟩
   simp only [same]
  have stop:(¬aT c.io.be c.ii c.aa.ce (c.af.ci.drop i) (c.jp.drop k))->cS ((k:Int),(i:Int),c.ii.1,c.ii.2,c.io.be,c.af.aM,c.af.ci,c.aa.ai.aq,c.aa.ai.bi,c.aa.ai.bv,c.aa.ce,c.aa.ao,c.jp)=aen (.done 8)->
   aD cS ((k:Int),(i:Int),c.ii.1,c.ii.2,c.io.be,c.af.aM,c.af.ci,c.aa.ai.aq,c.aa.ai.bi,c.aa.ai.bv,c.aa.ce,c.aa.ao,c.jp)=aen (if aT c.io.be c.ii c.aa.ce (c.af.ci.drop i) (c.jp.drop k) then 0 else 8):=by
   intro h1 h2;rw [sp h1];exact aJ h2
  by_cases O0:k=aem c.jp
  · refine stop (fun h=>?_) ?_
    · rw [dr] at h
      obtain ⟨d,wb,h1,_⟩:=h.1 is;rw [O0,ad1] at h1;cases h1
    unfold cS
    simp only [aB,e1,lw,au c.af.ci i qG,ar,hw,is,ww,pp,aK (show ((aem c.jp):Int)<=(k:Int) by omega)]
  have IA:k<(aem c.jp):=by omega
  have dk:=qA IA;have e2:aev (((aem c.jp):Int)<=(k:Int))=aes:=aG (by omega);have xV: ¬((c.jp[k]!).1=(c.af.ci[i]!).1/\(((bm c.io.be (c.af.ci[i]!).2 c.ii).1.1,(bm c.io.be (c.af.ci[i]!).2 c.ii).1.2,(c.af.ci[i]!).1,(c.jp[k]!).2):Ev)∈c.aa.ce)-> ¬aT c.io.be c.ii c.aa.ce (c.af.ci.drop i) (c.jp.drop k):=by intro hn h;rw [dr,dk] at h;obtain ⟨d,wb,h1,h2,h3,_⟩:=h.1 is;injection h1 with h1 _;subst h1;exact hn ⟨h2,h3⟩
  by_cases b1:(c.jp[k]!).1=(c.af.ci[i]!).1
  case neg=>refine stop (xV (fun h=>b1 h.1)) ?_;unfold cS;simp only [aB,e1,lw,au c.af.ci i qG,ar,hw,is,ww,pp,e2,au c.jp k IA,dS b1]
  have fi:=WI kF (c.jp[k]!).2;have ea:=X9 kF w2 (bm c.io.be (c.af.ci[i]!).2 c.ii).1 (c.af.ci[i]!).1 (c.jp[k]!).2;have fi':qO (aH.mk (aU.mk c.aa.ai.aq c.aa.ai.bi c.aa.ai.bv) c.aa.ce c.aa.ao) (c.jp[k]!).2=_:=fi
  by_cases lv:sj c.aa.ai (c.jp[k]!).2
  case neg=>
   rw [sp lv] at fi';refine stop (xV (fun h=>lv ?_)) ?_
   · obtain ⟨w,Sy,fT⟩:=aN.1 h.2
     have:=(kF.handle Sy).1
     rwa [fT] at this
   unfold cS
   simp only [aB,e1,lw,au c.af.ci i qG,ar,hw,is,ww,pp,e2,au c.jp k IA,cK b1,fi',show ((6:Int) !=0)=aeo from rfl]
  rw [rc lv] at fi';obtain ⟨w,hw1,SX,hw3⟩:=kF.live lv;rw [SX,AC] at fi';have q1:(0<=(c.jp[k]!).2.1/\(c.jp[k]!).2.1<200/\0<=c.aa.ao[(c.jp[k]!).2.1.toNat]!):=⟨lv.1,by have:=lv.2.1;omega,by rw [SX];omega⟩
  by_cases b2:(c.aa.ce[w]!).2.2.1=(c.af.ci[i]!).1
  case neg=>
   refine stop (xV (fun h=>b2 ?_)) ?_
   · have:=(ea.2 h.2).2.2.2
     rw [SX,AC] at this;rw [this]
   unfold cS
   simp only [aB,e1,lw,au c.af.ci i qG,ar,hw,is,ww,pp,e2,au c.jp k IA,cK b1,fi',show ((0:Int) !=0)=aes from rfl,dS b2]
  have teq:((c.aa.ce[w]!).1==(bm c.io.be (c.af.ci[i]!).2 c.ii).1.1&&(c.aa.ce[w]!).2.1==(bm c.io.be (c.af.ci[i]!).2 c.ii).1.2)=aev (((c.aa.ce[w]!).1,(c.aa.ce[w]!).2.1)=(bm c.io.be (c.af.ci[i]!).2 c.ii).1):=by
   rw [adc,decide_eq_true_iff];simp only [adY,beq_iff_eq];constructor
   · rintro ⟨h1,h2⟩;exact PP h1 h2
   intro h;rw [<- h];exact ⟨rfl,rfl⟩
  by_cases b3:((c.aa.ce[w]!).1,(c.aa.ce[w]!).2.1)=(bm c.io.be (c.af.ci[i]!).2 c.ii).1
  case neg=>
   refine stop (xV (fun h=>b3 ?_)) ?_
   · have:=(ea.2 h.2).2.2.2
     rw [SX,AC] at this;rw [this]
   unfold cS
   simp only [aB,e1,lw,au c.af.ci i qG,ar,hw,is,ww,pp,e2,au c.jp k IA,cK b1,fi',show ((0:Int) !=0)=aes from rfl,cK b2];rw [teq,aG b3];rfl
  have xR:=ea.1 ⟨q1.1,q1.2.1,q1.2.2,by rw [SX,AC];have t1:=congrArg aec b3;have t2:=congrArg aed b3;exact PP t1 (PP t2 (PP b2 hw3))⟩;rw [aX (y:=(((k+1:Nat):Int),((i+1:Nat):Int),c.ii.1,c.ii.2,c.io.be,c.af.aM,c.af.ci,c.aa.ai.aq,c.aa.ai.bi,c.aa.ai.bv,c.aa.ce,c.aa.ao,c.jp)) (by unfold cS;simp only [aB,e1,lw,au c.af.ci i qG,ar,hw,is,ww,pp,e2,au c.jp k IA,cK b1,fi',show ((0:Int) !=0)=aes from rfl,cK b2,sc,sk];rw [teq,aK b3];rfl),ih (i+1) (k+1) (by omega) (by omega) (by omega)];have same:aT c.io.be c.ii c.aa.ce (c.af.ci.drop i) (c.jp.drop k)↔aT c.io.be c.ii c.aa.ce (c.af.ci.drop (i+1)) (c.jp.drop (k+1)):=by
   rw [dr,dk];constructor
   · intro h2
     obtain ⟨d,wb,k1,k2,k3,k4⟩:=h2.1 is;injection k1 with k1 k5;subst k5;exact k4
   intro h2
   exact ⟨fun _=>⟨_,_,rfl,b1,xR,h2⟩,fun h=>by rw [is] at h;cases h⟩
  simp only [same]
theorem ES {c:aI} (fit:qY c):rY c=aen (if aV c then 0 else 8):=by
 unfold rY;rw [qS fit.jb,Et,wY,wU _ fit.ag];simp only [ar]
 by_cases jQ:aZ c.ii
 case neg=>rw [sp jQ,sp (c:=aV c) (fun h=>jQ h.jQ)];rfl
 rw [rc jQ]
 by_cases iq:cV c.io.be
 case neg=>rw [dS (fun h=>iq (mj.1 h)),sp (c:=aV c) (fun h=>iq h.iq)];rfl
 rw [cK (mj.2 iq)]
 by_cases pT:dQ c.af
 case neg=>rw [sp pT,sp (c:=aV c) (fun h=>pT h.pT)];rfl
 rw [rc pT];have kn:=RR c.af iq pT.len;simp only [show ((0:Int) !=0)=aes from rfl,pp,kn,ar]
 by_cases known: ∀i,i<aem c.af.ci->js c.io.be (c.af.ci[i]!).2
 case neg=>rw [aG known,sp (c:=aV c) (fun h=>known h.known)];rfl
 rw [aK known]
 by_cases kF:dT c.aa
 case neg=>rw [sp kF,sp (c:=aV c) (fun h=>kF h.kF)];rfl
 rw [rc kF];simp only [aB,show ((0:Int) !=0)=aes from rfl,pp,ww]
 by_cases w2:(aem c.aa.ao)=200
 case neg=>rw [dS (by omega),sp (c:=aV c) (fun h=>w2 h.CB)];rfl
 rw [cK (by omega)]
 by_cases hd:(aem c.aa.ce)=aem c.jp
 case neg=>rw [dS (by omega),sp (c:=aV c) (fun h=>hd h.hd)];rfl
 rw [cK (by omega)];have run:=JM fit.jb iq pT kF w2 fit.du known (aem c.af.ci) 0 0 (by omega) (by omega) (by omega);rw [adu,adu] at run;have same:aT c.io.be c.ii c.aa.ce c.af.ci c.jp↔aV c:=by rw [aV.iff fit];exact ⟨fun h=>⟨jQ,iq,pT,kF,w2,hd,known,h⟩,fun h=>h.2.2.2.2.2.2.2⟩
 simp only [same] at run;simp only [pp];exact run
section
variable {l : List Pt} {t : Int × Int}
theorem aT.gy {H:List Ev} {x:pz} {cs ds:List pz} (h:(bm l x.2 t).2=aeo):aT l t H (x::cs) ds↔ ∃d wb,ds=d::wb/\d.1=x.1/\(((bm l x.2 t).1.1,(bm l x.2 t).1.2,x.1,d.2):Ev)∈H/\aT l t H cs wb:=
 ⟨fun k=>k.1 h,fun k=>⟨fun _=>k,fun k'=>(by rw [h] at k';cases k')⟩⟩
theorem aT.ft {H:List Ev} {x:pz} {cs ds:List pz} (h:(bm l x.2 t).2=aes):aT l t H (x::cs) ds↔aT l t H cs ds:=
 ⟨fun k=>k.2 h,fun k=>⟨fun k'=>(by rw [h] at k';cases k'),fun _=>k⟩⟩
theorem aT.mono {H H':List Ev}: ∀{cs ds:List pz},(∀x∈cs,∀e:Ev,e.num=x.1->e∈H->e∈H')->aT l t H cs ds->aT l t H' cs ds
 | [],_,_,h=>h
 |x::cs,ds,hm,h=>by
  have zq: ∀y∈cs,∀e:Ev,e.num=y.1->e∈H->e∈H':=fun y hy=>hm y (by simp [hy])
  cases hx:(bm l x.2 t).2 with
  |true=>rw [aT.gy hx] at h ⊢;obtain ⟨d,wb,h1,h2,h3,h4⟩:=h;exact ⟨d,wb,h1,h2,hm x (by simp) _ rfl h3,aT.mono zq h4⟩
  |false=>rw [aT.ft hx] at h ⊢;exact aT.mono zq h
theorem aT.jp {H:List Ev}: ∀{cs ds:List pz},aT l t H cs ds-> ∀d∈ds,∃x∈cs,d.1=x.1/\(bm l x.2 t).2=aeo/\(((bm l x.2 t).1.1,(bm l x.2 t).1.2,x.1,d.2):Ev)∈H
 | [],ds,h,d,hd=>by have:ds=[]:=h;subst this;cases hd
 |x::cs,ds,h,d,hd=>by
  cases hx:(bm l x.2 t).2 with
  |true=>
   rw [aT.gy hx] at h;obtain ⟨e,wb,h1,h2,h3,h4⟩:=h;subst h1;rcases adB.1 hd with rfl|hd
   · exact ⟨x,by simp,h2,hx,h3⟩
   obtain ⟨y,hy,k⟩:=aT.jp h4 d hd
   exact ⟨y,by simp [hy],k⟩
  |false=>rw [aT.ft hx] at h;obtain ⟨y,hy,k⟩:=aT.jp h d hd;exact ⟨y,by simp [hy],k⟩
theorem aT.has {H:List Ev}: ∀{cs ds:List pz},aT l t H cs ds-> ∀x∈cs,(bm l x.2 t).2=aeo-> ∃d∈ds,d.1=x.1/\(((bm l x.2 t).1.1,(bm l x.2 t).1.2,x.1,d.2):Ev)∈H
 | [],_,_,x,hx,_=>by cases hx
 |y::cs,ds,h,x,hx,hf=>by
  cases hy:(bm l y.2 t).2 with
  |true=>
   rw [aT.gy hy] at h;obtain ⟨e,wb,h1,h2,h3,h4⟩:=h;subst h1;rcases adB.1 hx with rfl|hx
   · exact ⟨e,by simp,h2,h3⟩
   obtain ⟨d,hd,k⟩:=aT.has h4 x hx hf
   exact ⟨d,by simp [hd],k⟩
  |false=>
   rw [aT.ft hy] at h;rcases adB.1 hx with rfl|hx
   · rw [hf] at hy;cases hy
   exact aT.has h x hx hf
def Up (cs:List pz):Prop:=cs.Pairwise fun x y=>x.1<y.1
theorem qp {cs:List pz}:Up cs↔ ∀i j,i<j->j<aem cs->(cs[i]!).1<(cs[j]!).1:=by
 unfold Up;rw [List.pairwise_iff_getElem];constructor
 · intro h i j kH hj
   rw [getElem!_pos cs i (by omega),getElem!_pos cs j hj];exact h i j (by omega) hj kH
 intro h i j hi hj kH
 have:=h i j kH hj
 rwa [getElem!_pos cs i hi,getElem!_pos cs j hj] at this
theorem aT.up {H:List Ev}: ∀{cs ds:List pz},aT l t H cs ds->Up cs->Up ds
 | [],ds,h,_=>by have:ds=[]:=h;subst this;exact List.Pairwise.nil
 |x::cs,ds,h,hu=>by
  have AN:=adU.1 hu;cases hx:(bm l x.2 t).2 with
  |true=>rw [aT.gy hx] at h;obtain ⟨e,wb,h1,h2,h3,h4⟩:=h;subst h1;refine adU.2 ⟨fun d hd=>?_,aT.up h4 AN.2⟩;obtain ⟨y,hy,k,_⟩:=aT.jp h4 d hd;have:=AN.1 y hy;omega
  |false=>rw [aT.ft hx] at h;exact aT.up h AN.2
theorem aT.snoc {H:List Ev}: ∀{cs ds:List pz} {x:pz},aT l t H cs ds->((bm l x.2 t).2=aes->aT l t H (cs++[x]) ds)/\
 (∀d:pz,(bm l x.2 t).2=aeo->d.1=x.1->(((bm l x.2 t).1.1,(bm l x.2 t).1.2,x.1,d.2):Ev)∈H->aT l t H (cs++[x]) (ds++[d]))
 | [],ds,x,h=>by have:ds=[]:=h;subst this;refine ⟨fun hx=>(aT.ft hx).2 rfl,fun d hx h1 h2=>(aT.gy hx).2 ⟨d,[],rfl,h1,h2,rfl⟩⟩
 |y::cs,ds,x,h=>by
  cases hy:(bm l y.2 t).2 with
  |true=>rw [aT.gy hy] at h;obtain ⟨e,wb,h1,h2,h3,h4⟩:=h;subst h1;have ih:=aT.snoc (x:=x) h4;refine ⟨fun hx=>(aT.gy hy).2 ⟨e,wb,rfl,h2,h3,ih.1 hx⟩,fun d hx k1 k2=>(aT.gy hy).2 ⟨e,wb++[d],rfl,h2,h3,ih.2 d hx k1 k2⟩⟩
  |false=>rw [aT.ft hy] at h;have ih:=aT.snoc (x:=x) h;exact ⟨fun hx=>(aT.ft hy).2 (ih.1 hx),fun d hx k1 k2=>(aT.ft hy).2 (ih.2 d hx k1 k2)⟩
theorem aT.erase {H:List Ev}: ∀{cs ds:List pz} {i:Nat},aT l t H cs ds->i<aem cs->((bm l (cs[i]!).2 t).2=aes->aT l t H (cs.eraseIdx i) ds)/\
 ((bm l (cs[i]!).2 t).2=aeo-> ∃k,k<aem ds/\(ds[k]!).1=(cs[i]!).1/\(((bm l (cs[i]!).2 t).1.1,(bm l (cs[i]!).2 t).1.2,(cs[i]!).1,(ds[k]!).2):Ev)∈H/\aT l t H (cs.eraseIdx i) (ds.eraseIdx k))
 | [],_,i,_,hi=>by cases hi
 |y::cs,ds,0,h,_=>by show ((bm l y.2 t).2=aes->aT l t H cs ds)/\((bm l y.2 t).2=aeo-> ∃k,k<aem ds/\(ds[k]!).1=y.1/\(((bm l y.2 t).1.1,(bm l y.2 t).1.2,y.1,(ds[k]!).2):Ev)∈H/\aT l t H cs (ds.eraseIdx k));refine ⟨fun hy=>(aT.ft hy).1 h,fun hy=>?_⟩;obtain ⟨e,wb,h1,h2,h3,h4⟩:=(aT.gy hy).1 h;subst h1;exact ⟨0,by simp,h2,h3,h4⟩
 |y::cs,ds,i+1,h,hi=>by
  have qG:i<(aem cs):=by simpa using hi
  show ((bm l (cs[i]!).2 t).2=aes->aT l t H (y::cs.eraseIdx i) ds)/\((bm l (cs[i]!).2 t).2=aeo-> ∃k,k<aem ds/\(ds[k]!).1=(cs[i]!).1/\(((bm l (cs[i]!).2 t).1.1,(bm l (cs[i]!).2 t).1.2,(cs[i]!).1,(ds[k]!).2):Ev)∈H/\aT l t H (y::cs.eraseIdx i) (ds.eraseIdx k));cases hy:(bm l y.2 t).2 with
  |true=>obtain ⟨e,wb,h1,h2,h3,h4⟩:=(aT.gy hy).1 h;subst h1;have ih:=aT.erase (i:=i) h4 qG;refine ⟨fun hx=>(aT.gy hy).2 ⟨e,wb,rfl,h2,h3,ih.1 hx⟩,fun hx=>?_⟩;obtain ⟨k,k1,k2,k3,k4⟩:=ih.2 hx;exact ⟨k+1,by simp;omega,k2,k3,(aT.gy hy).2 ⟨e,wb.eraseIdx k,rfl,h2,h3,k4⟩⟩
  |false=>have h:=(aT.ft hy).1 h;have ih:=aT.erase (i:=i) h qG;refine ⟨fun hx=>(aT.ft hy).2 (ih.1 hx),fun hx=>?_⟩;obtain ⟨k,k1,k2,k3,k4⟩:=ih.2 hx;exact ⟨k,k1,k2,k3,(aT.ft hy).2 k4⟩
end
theorem Ch {H:List Ev} {ns:List Int} (hd:ns.Nodup) (hl:(aem H)<=aem ns) (he: ∀n∈ns,∃e∈H,Ev.num e=n): ∀e∈H,Ev.num e∈ns:=by
 have pos: ∀n,n∈ns-> ∃w,w<aem H/\Ev.num H[w]! =n:=fun n hn=>by obtain ⟨e,he,h2⟩:=he n hn;obtain ⟨w,hw,rfl⟩:=aN.1 he;exact ⟨w,hw,h2⟩
 let f:Int->Nat:=fun n=>if h: ∃w,w<aem H/\Ev.num H[w]! =n then h.choose else 0
 have hf: ∀n∈ns,f n<aem H/\Ev.num H[f n]! =n:=fun n hn=>by have h:=pos n hn;show (if h: ∃w,w<aem H/\Ev.num H[w]! =n then h.choose else 0)<_/\Ev.num H[(if h: ∃w,w<aem H/\Ev.num H[w]! =n then h.choose else 0)]! =n;rw [dif_pos h];exact h.choose_spec
 have full:=Ca (n:=aem H) (l:=ns.map f) (xI hd fun x hx y hy h=>by
  have h1:=(hf x hx).2;have h2:=(hf y hy).2;rw [h] at h1;omega) (fun x hx=>by
  obtain ⟨n,hn,rfl⟩:=UV.1 hx;exact (hf n hn).1) (by rw [ae9];exact hl)
 intro e hm;obtain ⟨w,hw,rfl⟩:=aN.1 hm;obtain ⟨n,hn,h⟩:=UV.1 (full w hw);rw [<- h,(hf n hn).2];exact hn
theorem JN {cs:List pz} (h:Up cs):(cs.map fun x=>x.1).Nodup:=by
 refine xI ?_ ?_
 · unfold Up at h
   exact h.imp fun Ny he=>by rw [he] at Ny;omega
 intro x hx y hy he
 obtain ⟨i,hi,rfl⟩:=aN.1 hx;obtain ⟨j,hj,rfl⟩:=aN.1 hy;rcases ad4 i j with h1|h1|h1
 · have:=qp.1 h i j h1 hj;omega
 · rw [h1]
 have:=qp.1 h j i h1 hi;omega
theorem aV.qZ {c:aI} (ok:aV c):Up c.af.ci:=qp.2 ok.pT.up
theorem aV.ET {c:aI} (ok:aV c):Up c.jp:=ok.xV.up ok.qZ
theorem aV.wV {c:aI} (ok:aV c): ∀e∈c.aa.ce,∃d∈c.jp,d.1=Ev.num e:=by have:=Ch (H:=c.aa.ce) (JN ok.ET) (by rw [ae9,ok.hd];exact Do _) (fun n hn=>by obtain ⟨d,hd,rfl⟩:=UV.1 hn;obtain ⟨x,hx,h1,h2,h3⟩:=ok.xV.jp d hd;exact ⟨_,h3,h1.symm⟩);intro e he;obtain ⟨d,hd,h⟩:=UV.1 (this e he);exact ⟨d,hd,h⟩
end Go.Proofs.YtmikolhhnhndkaaGreat
