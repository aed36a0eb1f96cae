/- Plain laws (2). -/
import Derived.Test.YtbgoiokedpjgbaaGreatAQM1
open Classical renaming not_not->pp,not_forall->AC,not_imp->EQ
open List renaming length_set->rc,length_take->Do,take_of_length_le->If,take_append_of_le_length->IR,mem_map->NE,append_assoc->UV,drop_length->ad5,drop_eq_nil_iff->ad6,length_append->ad9,set_eq_of_length_le->ady,length_drop->adz,drop_eq_nil_of_le->adC,drop_zero->adH,filter_eq_self->adI,mem_cons->adK,getElem?_take->adL,filter_append->adN,pairwise_cons->adP,getElem?_set->adQ,length_cons->ae7,isEmpty_iff->ae8,length_nil->aeh,append_nil->aei,length_map->aej,replicate->ael,take_take->aem,set_comm->aex,length->aeF
open Bool renaming not_true->ut,not_false->PP,eq_iff_iff->adF,and_eq_true->aeb,and_self->aey,true->aeS,false->aeU
open Int renaming toNat_natCast->v6,lt_irrefl->adJ
open Nat renaming le_refl->ww,ble_eq_true_of_le->acl,lt_trichotomy->adc,sub_self->adB,eq_of_beq_eq_true->adG,le_trans->aez,beq->aeD,min_self->aeE
open Prod renaming ext->M2,fst->aet,snd->aev
open Iff renaming rfl->adA
open Option renaming some->aeK
open Decidable renaming decide->aeY
namespace Go.Proofs.YtbgoiokedpjgbaaGreat
open Go.Vm Classical
theorem Ke (a:aJ) (fit:yT a) (so:fj a.af) (wl:(aeF a.ar)=aeF a.af.aB):
 ay k7 (a.ar,((aeF a.ar):Int),0,a.af.aB,a.af.be,a.af.bi,a.bv,a.ar)=aeK (if (∀i,i<aeF a.af.aB->Gz a i)/\(∀k,k<aeF a.bv->HG a.bv k) then 0 else 8):=by
 have hu:=so.ul;have hn:=so.n2;have hh:=fit.hp;have Gn:=Kc a.bv a.af.aB a.af.bi a.ar a.af.be fit.hp fit.OK;have key:=dy (body:=k7) (fun i=>(a.ar,((aeF a.ar):Int),(i:Int),a.af.aB,a.af.be,a.af.bi,a.bv,a.ar)) (aeF a.ar) (fun i=> ¬Gz a i) (r:=8) (e:=if (∀k,k<aeF a.bv->HG a.bv k) then 0 else 8) (fun i hi=>by
  have e1:aeY ((i:Int)<((aeF a.ar):Int))=aeS:=aE (by omega);unfold k7;simp only [aA,e1,lc,ax a.ar i hi,ax a.af.be i (by omega),ax a.af.aB i (by omega),aj,aV (show i<1000000000 by omega)];unfold Gz;generalize a.ar[i]! =w at*;cases hb:a.af.be[i]! with
  |false=>
   simp only [PP,lc]
   by_cases hw:w= -1
   · rw [bB hw]
     exact ⟨fun h=>absurd ⟨fun h=>(by cases h),fun _=>hw⟩ h,fun _=>rfl⟩
   rw [cS hw]
   exact ⟨fun _=>rfl,fun h=>absurd ((pp.1 h).2 trivial) hw⟩
  |true=>
   simp only [ut,lm]
   by_cases b1:w<0
   · rw [aE b1]
     exact ⟨fun _=>rfl,fun h=>absurd ((pp.1 h).1 trivial).1 (by omega)⟩
   by_cases b2:((aeF a.bv):Int)<=w
   · rw [aC b1,aE b2]
     exact ⟨fun _=>rfl,fun h=>absurd ((pp.1 h).1 trivial).2.1 (by omega)⟩
   rw [aC b1,aC b2];simp only [lm,dS (l:=a.bv) (i:=w) (by omega) (by omega),aj]
   by_cases b3:(a.bv[w.toNat]!).2.2.2.1=i
   · by_cases b4:(a.bv[w.toNat]!).2.2.2.2=a.af.aB[i]!
     · rw [dp b3,dp b4]
       exact ⟨fun h=>absurd ⟨fun _=>⟨by omega,by omega,b3,b4⟩,fun h=>(by cases h)⟩ h,fun _=>rfl⟩
     rw [dp b3,dR b4]
     exact ⟨fun _=>rfl,fun h=>absurd ((pp.1 h).1 trivial).2.2.2 b4⟩
   rw [dR b3]
   exact ⟨fun _=>rfl,fun h=>absurd ((pp.1 h).1 trivial).2.2.1 b3⟩) (by
  unfold k7;have:aeY (((aeF a.ar):Int)<((aeF a.ar):Int))=aeU:=aC (by omega);simp only [aA,this,lm]
  by_cases hx: ∀k,k<aeF a.bv->HG a.bv k
  · rw [ls hx];exact Gn.1 hx
  rw [lw hx];exact Gn.2 hx)
 by_cases hw: ∀i,i<aeF a.af.aB->Gz a i
 · refine (key.2 fun i hi=>pp.2 (hw i (by omega))).trans ?_
   by_cases hx: ∀k,k<aeF a.bv->HG a.bv k
   · rw [ls hx,ls ⟨hw,hx⟩]
   rw [lw hx,lw (fun h=>hx h.2)]
 rw [lw (fun h=>hw h.1)]
 obtain ⟨i,h⟩:=AC.1 hw;obtain ⟨hi,hx⟩:=EQ.1 h;exact key.1 ⟨i,by omega,hx⟩
theorem jf (a:aJ) (fit:yT a):jn a=aeK (if eZ a then 0 else 8):=by
 have hh:=fit.hp;unfold jn;rw [vn _ fit.fr];simp only [aA]
 by_cases so:fj a.af
 case neg=>rw [lw so,lw (fun h=>so h.so)];rfl
 have hu:=so.ul;have hn:=so.n2;have hf:=so.fl;rw [ls so];simp only [aj,show ((0:Int) !=0)=aeU from rfl,lm]
 by_cases wl:(aeF a.ar)=aeF a.af.aB
 case neg=>rw [cS (by omega),lw (fun h=>wl h.wl)];rfl
 rw [bB (by omega)];have e:aa .i64 (((aeF a.af.be):Int) - ((aeF a.af.bi):Int))=((aeF a.af.aB-(aeF a.af.bi):Nat):Int):=by rw [wi];omega
 rw [e]
 by_cases hl:(aeF a.bv)+aeF a.af.bi=aeF a.af.aB
 case neg=>rw [cS (by omega),lw (fun h=>hl h.hl)];rfl
 rw [bB (by omega)];simp only [lm];rw [Ke a fit so wl]
 by_cases ok:eZ a
 · rw [ls ok,ls ok.to]
 rw [lw ok,lw]
 intro h;exact ok (eZ.of fit so wl hl h.1 h.2)
theorem Vn {x y:Ev} (hx:lM (x.1,x.2.1)) (hy:lM (y.1,y.2.1)):eC x y=aeK (aeY (less x y)):=by
 unfold eC less;rw [A8 hx hy];simp only [aj];generalize kO (x.1,x.2.1) (y.1,y.2.1)=c
 by_cases h1:c<0
 · simp [h1]
 by_cases h2:c=0
 · subst h2;simp
 simp only [h1,dR h2,h2,decide_false,lm,false_or,false_and]
theorem Qj {s:bj} (ok:fj s) (h:Int×Int):tg s h=aeK (aeY (uL s h)):=by
 have hu:=ok.ul;unfold tg uL;simp only [aA]
 by_cases a1:0<=h.1
 · by_cases a2:h.1<aeF s.aB
   · simp only [a1,a2,decide_true,lc,dS (l:=s.be) a1 (by omega),dS (l:=s.aB) a1 a2,aj,true_and]
     generalize s.aB[h.1.toNat]! =u;cases s.be[h.1.toNat]!<;>simp [Qf]
   simp [a1,a2]
 simp [a1]
theorem RR (a:aJ) (so:fj a.af):sx a=aeK (aeY (aeF a.ar=aeF a.af.aB/\aeF a.bv+aeF a.af.bi=aeF a.af.aB/\ ∀i,i<aeF a.af.aB->Gz a i)):=by
 have hu:=so.ul;have hn:=so.n2;have hf:=so.fl;unfold sx;simp only [aA]
 by_cases wl:(aeF a.ar)=aeF a.af.aB
 case neg=>rw [cS (by omega),aC (fun h=>wl h.1)];rfl
 rw [bB (by omega)];have e:aa .i64 (((aeF a.af.aB):Int) - ((aeF a.af.bi):Int))=((aeF a.af.aB-(aeF a.af.bi):Nat):Int):=by rw [wi];omega
 rw [e]
 by_cases hl:(aeF a.bv)+aeF a.af.bi=aeF a.af.aB
 case neg=>rw [cS (by omega),aC (fun h=>hl h.2.1)];rfl
 rw [bB (by omega)];simp only [lm];have key:=dy (body:=np) (fun i=>(((aeF a.af.aB):Int),(i:Int),a.af.aB,a.af.be,a.af.bi,a.bv,a.ar)) (aeF a.af.aB) (fun i=> ¬Gz a i) (r:=aeU) (e:=aeS) (fun i hi=>by
  have e1:aeY ((i:Int)<((aeF a.af.aB):Int))=aeS:=aE (by omega);unfold np;simp only [aA,e1,lc,ax a.ar i (by omega),ax a.af.be i (by omega),aj,aV (show i<1000000000 by omega)];unfold Gz;generalize a.ar[i]! =w at*;cases hb:a.af.be[i]! with
  |false=>
   simp only [PP,lc]
   by_cases hw:w= -1
   · rw [bB hw]
     exact ⟨fun h=>absurd ⟨fun h=>(by cases h),fun _=>hw⟩ h,fun _=>rfl⟩
   rw [cS hw]
   exact ⟨fun _=>rfl,fun h=>absurd ((pp.1 h).2 trivial) hw⟩
  |true=>
   simp only [ut,lm]
   by_cases b1:w<0
   · rw [aE b1]
     exact ⟨fun _=>rfl,fun h=>absurd ((pp.1 h).1 trivial).1 (by omega)⟩
   by_cases b2:((aeF a.bv):Int)<=w
   · rw [aC b1,aE b2]
     exact ⟨fun _=>rfl,fun h=>absurd ((pp.1 h).1 trivial).2.1 (by omega)⟩
   rw [aC b1,aC b2];simp only [lm,dS (l:=a.bv) (i:=w) (by omega) (by omega),aj]
   by_cases b3:(a.bv[w.toNat]!).2.2.2.1=i
   · rw [bB b3]
     simp only [lm];rw [Qj (s:=⟨a.af.aB,a.af.be,a.af.bi⟩) so];have lv:uL ⟨a.af.aB,a.af.be,a.af.bi⟩ (a.bv[w.toNat]!).2.2.2↔(a.bv[w.toNat]!).2.2.2.2=a.af.aB[i]!:=by
      unfold uL;dsimp only;rw [b3];constructor
      · intro h;exact h.2.2.2.symm
      intro h;exact ⟨by omega,by omega,by rw [v6];exact hb,by rw [v6];exact h.symm⟩
     simp only [aj,lv]
     by_cases b4:(a.bv[w.toNat]!).2.2.2.2=a.af.aB[i]!
     · rw [aE b4]
       exact ⟨fun h=>absurd ⟨fun _=>⟨by omega,by omega,b3,b4⟩,fun h=>(by cases h)⟩ h,fun _=>rfl⟩
     rw [aC b4]
     exact ⟨fun _=>rfl,fun h=>absurd ((pp.1 h).1 trivial).2.2.2 b4⟩
   rw [cS b3]
   exact ⟨fun _=>rfl,fun h=>absurd ((pp.1 h).1 trivial).2.2.1 b3⟩) (by
  unfold np;have:aeY (((aeF a.af.aB):Int)<((aeF a.af.aB):Int))=aeU:=aC (by omega);simp only [this,lm])
 by_cases hw: ∀i,i<aeF a.af.aB->Gz a i
 · rw [aE ⟨wl,hl,hw⟩]
   exact key.2 fun i hi=>pp.2 (hw i hi)
 rw [aC (fun h=>hw h.2.2)]
 obtain ⟨i,h⟩:=AC.1 hw;obtain ⟨hi,hx⟩:=EQ.1 h;exact key.1 ⟨i,hi,hx⟩
theorem Ml (H:List Ev) (u fr W:List Int) (us:List Bool) (k:Nat) (hk:k<aeF H) (hl:(aeF H)<=1000000) (x:Ev):
 ((∃j,j<k/\(H[j]!).2.2.1=x.2.2.1)->ay ke ((k:Int),0,u,us,fr,H,W,x)=aeK (.done 8))/\
 ((∀j,j<k-> ¬(H[j]!).2.2.1=x.2.2.1)->ay ke ((k:Int),0,u,us,fr,H,W,x)=aeK (.next (((k+1:Nat):Int),u,us,fr,H,W))):=by
 refine dy (body:=ke) (fun j=>((k:Int),(j:Int),u,us,fr,H,W,x)) k (fun j=>(H[j]!).2.2.1=x.2.2.1) (r:= .done 8) (e:= .next (((k+1:Nat):Int),u,us,fr,H,W)) (fun j hj=>?_) ?_
 · have e1:aeY ((j:Int)<(k:Int))=aeS:=aE (by omega)
   unfold ke;simp only [e1,lc,ax H j (by omega),aj,aV (show j<1000000000 by omega)];constructor
   · intro h;rw [dp h];rfl
   intro h;rw [dR h];rfl
 unfold ke
 have:aeY ((k:Int)<(k:Int))=aeU:=aC (by omega);simp only [this,lm,aV (show k<1000000000 by omega)]
theorem Mm (H:List Ev) (u fr W:List Int) (us:List Bool) (hl:(aeF H)<=1000000) (kS: ∀w,w<aeF H->lM ((H[w]!).1,(H[w]!).2.1)):
 ay kf (1,u,us,fr,H,W)=aeK (.done (if∀k,0<k->k<aeF H-> ¬less H[k]! H[(k-1) / 2]! then 0 else 8)):=by
 by_cases h0:(aeF H)=0
 · rw [ls (fun k _ hk=>by omega)]
   refine aI ?_;unfold kf;have:aeY ((1:Int)<((aeF H):Int))=aeU:=aC (by omega);simp only [aA,this,lm]
 have key:=dy (body:=kf) (fun i=>(((i+1:Nat):Int),u,us,fr,H,W)) (aeF H-1) (fun i=>less H[i+1]! H[i / 2]!) (r:= .done 8) (e:= .done 0) (fun i hi=>by
  have e1:aeY (((i+1:Nat):Int)<((aeF H):Int))=aeS:=aE (by omega);unfold kf;simp only [aA,e1,lc,rF (show i<1000000000 by omega),ax H (i+1) (by omega),ax H (i / 2) (by omega),aj,Vn (kS (i+1) (by omega)) (kS (i / 2) (by omega)),aV (show i+1<1000000000 by omega)];constructor
  · intro h;rw [aE h];rfl
  · intro h;rw [aC h];rfl) (by
  unfold kf;have:aeY (((aeF H-1+1:Nat):Int)<((aeF H):Int))=aeU:=aC (by omega);simp only [aA,this,lm])
 by_cases ho: ∀k,0<k->k<aeF H-> ¬less H[k]! H[(k-1) / 2]!
 · rw [ls ho]
   refine key.2 fun i hi hc=>ho (i+1) (by omega) (by omega) ?_
   rwa [show (i+1-1) / 2=i / 2 by omega]
 rw [lw ho]
 obtain ⟨k,h⟩:=AC.1 ho;obtain ⟨k0,h⟩:=EQ.1 h;obtain ⟨hk,hx⟩:=EQ.1 h;refine key.1 ⟨k-1,by omega,?_⟩;rw [show k-1+1=k by omega];exact pp.1 hx
def Kf (H:List Ev) (k:Nat):Prop:=bK ((H[k]!).1,(H[k]!).2.1)/\0<=(H[k]!).2.2.1/\(H[k]!).2.2.1<=1000000/\(∀j,j<k-> ¬(H[j]!).2.2.1=(H[k]!).2.2.1)
theorem yU (a:aJ) (fit:yT a):qT a=aeK (if eZ a then 0 else 8):=by
 have hh:=fit.hp;unfold qT;rw [Gy _ fit.fr]
 by_cases so:fj a.af
 case neg=>rw [lw so,lw (fun h=>so h.so)];rfl
 rw [ls so];simp only [aj,show ((0:Int) !=0)=aeU from rfl,lm,RR a so]
 by_cases pl:(aeF a.ar)=aeF a.af.aB/\aeF a.bv+aeF a.af.bi=aeF a.af.aB/\ ∀i,i<aeF a.af.aB->Gz a i
 case neg=>rw [aC pl,lw (fun h=>pl ⟨h.wl,h.hl,h.to.1⟩)];rfl
 rw [aE pl];obtain ⟨wl,hl,hw⟩:=pl;simp only [ut,lm];have key:=dy (body:=oV) (fun k=>((k:Int),a.af.aB,a.af.be,a.af.bi,a.bv,a.ar)) (aeF a.bv) (fun k=> ¬Kf a.bv k) (r:=8) (e:=if∀k,0<k->k<aeF a.bv-> ¬less a.bv[k]! a.bv[(k-1) / 2]! then 0 else 8) (fun k hk=>by
  have e1:aeY ((k:Int)<((aeF a.bv):Int))=aeS:=aE (by omega);have l1:=Ml a.bv a.af.aB a.af.bi a.ar a.af.be k hk hh a.bv[k]!;unfold oV;simp only [aA,e1,lc,ax a.bv k hk,aj,tq (fit.OK k hk)];unfold Kf
  by_cases b1:bK ((a.bv[k]!).1,(a.bv[k]!).2.1)
  case neg=>rw [lw b1];exact ⟨fun _=>rfl,fun h=>absurd (pp.1 h).1 b1⟩
  rw [ls b1]
  by_cases b2:(a.bv[k]!).2.2.1<0
  · rw [aE b2]
    exact ⟨fun _=>rfl,fun h=>absurd (pp.1 h).2.1 (by omega)⟩
  by_cases b3:1000000<(a.bv[k]!).2.2.1
  · rw [aC b2,aE b3]
    exact ⟨fun _=>rfl,fun h=>absurd (pp.1 h).2.2.1 (by omega)⟩
  rw [aC b2,aC b3];simp only [show ((0:Int) !=0)=aeU from rfl,lm]
  by_cases b4: ∃j,j<k/\(a.bv[j]!).2.2.1=(a.bv[k]!).2.2.1
  · refine ⟨fun _=>l1.1 b4,fun h=>?_⟩
    obtain ⟨j,j1,j2⟩:=b4;exact absurd j2 ((pp.1 h).2.2.2 j j1)
  · have b4': ∀j,j<k-> ¬(a.bv[j]!).2.2.1=(a.bv[k]!).2.2.1:=fun j h1 h2=>b4 ⟨j,h1,h2⟩
    exact ⟨fun h=>absurd ⟨b1,by omega,by omega,b4'⟩ h,fun _=>l1.2 b4'⟩) (by
  unfold oV;have:aeY (((aeF a.bv):Int)<((aeF a.bv):Int))=aeU:=aC (by omega);simp only [aA,this,lm];exact Mm a.bv _ _ _ _ hh fit.OK)
 have same:eZ a↔(∀k,k<aeF a.bv->Kf a.bv k)/\ ∀k,0<k->k<aeF a.bv-> ¬less a.bv[k]! a.bv[(k-1) / 2]!:=by
  constructor
  · intro ok
    refine ⟨fun k hk=>?_,ok.ord⟩;have:=ok.to.2 k hk;exact ⟨this.1,this.2.1,this.2.2.1,this.2.2.2.1⟩
  rintro ⟨h1,h2⟩
  refine eZ.of fit so wl hl hw fun k hk=>?_
  obtain ⟨c1,c2,c3,c4⟩:=h1 k hk;refine ⟨c1,c2,c3,c4,fun k0=>?_⟩;unfold OL;rw [ls ⟨c1,(h1 ((k-1) / 2) (by omega)).1⟩,Cf];exact h2 k k0 hk
 by_cases he: ∀k,k<aeF a.bv->Kf a.bv k
 · refine (key.2 fun i hi=>pp.2 (he i hi)).trans ?_
   by_cases ho: ∀k,0<k->k<aeF a.bv-> ¬less a.bv[k]! a.bv[(k-1) / 2]!
   · rw [ls ho,ls (same.2 ⟨he,ho⟩)]
   rw [lw ho,lw (fun h=>ho (same.1 h).2)]
 rw [lw (fun h=>he (same.1 h).1)]
 obtain ⟨i,h⟩:=AC.1 he;obtain ⟨hi,hx⟩:=EQ.1 h;exact key.1 ⟨i,hi,hx⟩
theorem Am {l:List Ev} {n:Nat} {e:Ev} (hn:n<=aeF l):e∈l.take n↔ ∃w,w<n/\l[w]! =e:=by
 rw [cw];constructor
 · rintro ⟨i,h1,_,h3⟩;exact ⟨i,h1,h3⟩
 rintro ⟨i,h1,h3⟩;exact ⟨i,h1,by omega,h3⟩
theorem aer {s:bj} (so:fj s) {n:Nat} {H:List Ev} {W:List Int} (E:Ev->Prop) (hn:n<=aeF H) (wl:(aeF W)=aeF s.aB) (hl:n+aeF s.bi=aeF s.aB)
 (ix: ∀w,w<n->0<=(H[w]!).ix/\(H[w]!).ix<aeF W/\W[(H[w]!).n]! =(w:Int)) (mem: ∀e,(∃w,w<n/\H[w]! =e)↔E e) (ord: ∀k,0<k->k<n-> ¬less H[k]! H[(k-1) / 2]!)
 (ue: ∀i,i<aeF s.aB->s.be[i]! =aeS-> ∃e:Ev,E e/\e.ix=i/\e.2.2.2.2=s.aB[i]!) (un: ∀i,i<aeF s.aB->s.be[i]! =aeU->W[i]! = -1)
 (ev: ∀e,E e->pQ e) (Bc: ∀e f:Ev,E e->E f->e.num=f.num->e.ix=f.ix):eZ ⟨s,H.take n,W⟩:=by
 have len:(H.take n).length=n:=by rw [Do];omega
 have cell: ∀w,w<n->(H.take n)[w]! =H[w]!:=fun w hw=>je hw
 refine ⟨so,wl,by show (H.take n).length+_=_;rw [len];exact hl,?_,un,?_,?_,?_⟩
 · intro i hi hu
   dsimp only at hi hu ⊢;rw [len];obtain ⟨e,he,e1,e2⟩:=ue i hi hu;obtain ⟨w,hw,rfl⟩:=(mem e).2 he;obtain ⟨a1,a2,a3⟩:=ix w hw;have hn':(H[w]!).n=i:=by show ((H[w]!).ix).toNat=i;omega
   rw [hn'] at a3;rw [a3,v6,cell w hw];exact ⟨by omega,by omega,e1,e2⟩
 · intro w hw
   dsimp only at hw ⊢;rw [len] at hw;rw [cell w hw];exact ev _ ((mem _).1 ⟨w,hw,rfl⟩)
 · intro v w hv hw
   dsimp only at hw ⊢;rw [len] at hw;rw [cell v (by omega),cell w hw];intro hc;have:=Bc _ _ ((mem _).1 ⟨v,by omega,rfl⟩) ((mem _).1 ⟨w,hw,rfl⟩) hc;obtain ⟨a1,a2,a3⟩:=ix v (by omega);obtain ⟨b1,b2,b3⟩:=ix w hw;have hn':(H[v]!).n=(H[w]!).n:=by show ((H[v]!).ix).toNat=((H[w]!).ix).toNat;rw [this]
   rw [hn'] at a3;omega
 intro k k0 hk
 dsimp only at hk ⊢;rw [len] at hk;rw [cell k hk,cell _ (by omega)];exact ord k k0 hk
theorem vt {s:bj} (so:fj s) {n:Nat} {x:Ev} {M:Ev->Prop} {K:Nat->Prop} {H H1:List Ev} {W W1:List Int} (st:zI n x M K H W H1 W1) (hn:n<=aeF H) (wl:(aeF W)=aeF s.aB) (hl:n+aeF s.bi=aeF s.aB)
 (ue: ∀i,i<aeF s.aB->s.be[i]! =aeS-> ∃e:Ev,(e=x\/M e)/\e.ix=i/\e.2.2.2.2=s.aB[i]!) (un: ∀i,i<aeF s.aB->s.be[i]! =aeU->K i/\W[i]! = -1)
 (ev: ∀e,(e=x\/M e)->pQ e) (Bc: ∀e f:Ev,(e=x\/M e)->(f=x\/M f)->e.num=f.num->e.ix=f.ix):eZ ⟨s,H1.take n,W1⟩:=by
 refine aer so (fun e=>e=x\/M e) (by rw [st.hl];exact hn) (by rw [st.wl];exact wl) hl (by rw [st.wl];exact st.ix) st.mem st.ord ue ?_ ev Bc;intro i hi hu;rw [st.out i (un i hi hu).1];exact (un i hi hu).2
theorem eZ.bd {a:aJ} (ok:eZ a):(aeF a.bv)<=200/\aeF a.ar<=200:=by have:=ok.hl;have:=ok.wl;have:=ok.so.n2;omega
theorem eZ.cells {a:aJ} (ok:eZ a):mr (aeF a.bv) a.bv a.ar:=by have:=ok.bd;refine ⟨ww _,by omega,fun w hw=>?_⟩;obtain ⟨b1,b2,b3,b4,b5⟩:=ok.back hw;exact ⟨ok.ev w hw,b1,by rw [ok.wl];exact b2⟩
theorem eZ.inj {a:aJ} (ok:eZ a) {v w:Nat} (hv:v<aeF a.bv) (hw:w<aeF a.bv) (h:Ev.ix a.bv[v]! =Ev.ix a.bv[w]!):v=w:=by
 have h1:=(ok.back hv).2.2.2.2;have h2:=(ok.back hw).2.2.2.2;have:Ev.n a.bv[v]! =Ev.n a.bv[w]!:=by show (Ev.ix a.bv[v]!).toNat=(Ev.ix a.bv[w]!).toNat;rw [h]
 rw [this] at h1;omega
theorem eZ.Mg {a:aJ} (ok:eZ a) {i k:Nat} (i0:0<i) (k0:0<k) (hk:k<aeF a.bv) (hp:(k-1) / 2=i): ¬less a.bv[k]! a.bv[(i-1) / 2]!:=by have h1:=ok.ord k k0 hk;rw [hp] at h1;exact wc (ok.ev _ (by omega)).den (ok.ev _ (by omega)).den (ok.ev _ hk).den (ok.ord i i0 (by omega)) h1
theorem eZ.live {a:aJ} (ok:eZ a) {h:Int×Int} (lv:uL a.af h): ∃i,i<aeF a.bv/\a.ar[h.1.toNat]! =(i:Int)/\(a.bv[i]!).2.2.2=h:=by
 obtain ⟨l1,l2,l3,l4⟩:=lv;obtain ⟨f1,f2,f3,f4⟩:=ok.fwd h.1.toNat (by omega) l3;refine ⟨(a.ar[h.1.toNat]!).toNat,by omega,by omega,?_⟩;have e1:(a.bv[(a.ar[h.1.toNat]!).toNat]!).2.2.2.1=h.1:=by have:Ev.ix a.bv[(a.ar[h.1.toNat]!).toNat]! =(h.1.toNat:Int):=f3;have h2:Ev.ix a.bv[(a.ar[h.1.toNat]!).toNat]! =(a.bv[(a.ar[h.1.toNat]!).toNat]!).2.2.2.1:=rfl;omega
 exact M2 e1 (by rw [f4,l4])
theorem eZ.handle {a:aJ} (ok:eZ a) {i:Nat} (hi:i<aeF a.bv):uL a.af (a.bv[i]!).2.2.2/\a.ar[((a.bv[i]!).2.2.2.1).toNat]! =(i:Int):=by obtain ⟨b1,b2,b3,b4,b5⟩:=ok.back hi;exact ⟨⟨b1,b2,b3,b4⟩,b5⟩
theorem eZ.EE {a:aJ} (ok:eZ a) {i:Nat} (hi:i<aeF a.af.aB) (hu:a.af.be[i]! =aeS): ∃w,w<aeF a.bv/\Ev.ix a.bv[w]! =i/\(a.bv[w]!).2.2.2.2=a.af.aB[i]!:=by obtain ⟨f1,f2,f3,f4⟩:=ok.fwd i hi hu;exact ⟨(a.ar[i]!).toNat,by omega,f3,f4⟩
theorem eZ.IJ {a:aJ} (ok:eZ a) {i:Nat} (hu:a.af.be[i]! =aeU) {w:Nat} (hw:w<aeF a.bv):Ev.n a.bv[w]!≠i:=by intro h;have:=(ok.back hw).2.2.1;rw [h,hu] at this;cases this
theorem eZ.Bc {a:aJ} (ok:eZ a) {v w:Nat} (hv:v<aeF a.bv) (hw:w<aeF a.bv) (h:Ev.num a.bv[v]! =Ev.num a.bv[w]!):v=w:=by
 rcases adc v w with h1|h1|h1
 · exact absurd h (ok.nd v w h1 hw)
 · exact h1
 exact absurd h.symm (ok.nd w v h1 hv)
theorem fo {α:Type} [Inhabited α] {l:List α} {k:Nat} {v:α} (h:l[k]! =v):l.set k v=l:=by
 by_cases hk:k<aeF l
 · apply qW (by rw [rc])
   intro i hi;rw [aU];split
   · rename_i e;rw [e.1];exact h.symm
   rfl
 exact ady (by omega)
def pR (x:Ev) (t:Int×Int):Ev:=(t.1,t.2,x.2.2)
noncomputable def jQ (a:aJ) (i:Nat) (t:Int×Int):aJ:=⟨a.af,(cJ (aeF a.bv) (pR a.bv[i]! t) i a.bv a.ar).1,(cJ (aeF a.bv) (pR a.bv[i]! t) i a.bv a.ar).2⟩
theorem GA {a:aJ} (ok:eZ a) {i:Nat} (hi:i<aeF a.bv) {t:Int×Int} (ht:bK t) (h64:lM t):pQ (pR a.bv[i]! t):=by have:=ok.ev i hi;exact ⟨ht,h64,this.2.2.1,this.2.2.2⟩
theorem GB {a:aJ} (ok:eZ a) {i:Nat} (hi:i<aeF a.bv) (t:Int×Int):A' (aeF a.bv) (pR a.bv[i]! t) (fun e=> ∃w,w<aeF a.bv/\w≠i/\a.bv[w]! =e) a.bv a.ar i:=by obtain ⟨b1,b2,b3,b4,b5⟩:=ok.back hi;refine ⟨hi,ww _,fun w hw J'=>?_,b1,by rw [ok.wl];exact b2,fun e=>adA⟩;obtain ⟨c1,c2,c3,c4,c5⟩:=ok.back hw;exact ⟨c1,by rw [ok.wl];exact c2,c5,fun h=>J' (ok.inj hw hi h)⟩
theorem IK {a:aJ} (ok:eZ a) (i:Nat):Ord (aeF a.bv) a.bv i:=
 ⟨fun w hw=>(ok.ev w hw).den,fun k k0 hk _ _=>ok.ord k k0 hk,fun i0 _k k0 hk hp=>ok.Mg i0 k0 hk hp⟩
theorem m8 {a:aJ} (ok:eZ a) {i:Nat} (hi:i<aeF a.bv) {t:Int×Int} (ht:bK t):
 zI (aeF a.bv) (pR a.bv[i]! t) (fun e=> ∃w,w<aeF a.bv/\w≠i/\a.bv[w]! =e) (fun k=>k≠Ev.n (pR a.bv[i]! t)/\ ∀w,w<aeF a.bv->w≠i->Ev.n a.bv[w]!≠k) a.bv a.ar (jQ a i t).bv (jQ a i t).ar:=
 yR (x:=pR a.bv[i]! t) ht.1 (GB ok hi t) (IK ok i)
theorem Dp {a:aJ} (ok:eZ a) {i:Nat} (hi:i<aeF a.bv) {t:Int×Int} (ht:bK t):(jQ a i t).bv.length=aeF a.bv/\(jQ a i t).ar.length=(aeF a.ar):=
 ⟨(m8 ok hi ht).hl,(m8 ok hi ht).wl⟩
theorem RS {a:aJ} (ok:eZ a) {i:Nat} (hi:i<aeF a.bv) {t:Int×Int} (ht:bK t) (e:Ev):e∈(jQ a i t).bv↔(e=pR a.bv[i]! t\/(e∈a.bv/\e≠a.bv[i]!)):=by
 have st:=m8 ok hi ht;have h1:e∈(jQ a i t).bv↔ ∃w,w<aeF a.bv/\((jQ a i t).bv)[w]! =e:=by rw [aO,(Dp ok hi ht).1]
 rw [h1];refine (st.mem e).trans ?_;constructor
 · rintro (h|⟨w,hw,J',rfl⟩)
   · exact .inl h
   exact .inr ⟨bn hw,fun h=>J' (ok.inj hw hi (by rw [h]))⟩
 rintro (h|⟨h,dW⟩)
 · exact .inl h
 obtain ⟨w,hw,rfl⟩:=aO.1 h
 exact .inr ⟨w,hw,fun h=>dW (by rw [h]),rfl⟩
theorem Vo {a:aJ} (ok:eZ a) {i:Nat} (hi:i<aeF a.bv) {t:Int×Int} (ht:bK t) (h64:lM t):eZ (jQ a i t):=by
 have st:=m8 ok hi ht;have len:=(Dp ok hi ht).1;have hx:Ev.ix (pR a.bv[i]! t)=Ev.ix a.bv[i]!:=rfl;have key:=vt ok.so st (ww _) ok.wl ok.hl (fun j hj hu=>by
  obtain ⟨w,hw,e1,e2⟩:=ok.EE hj hu
  by_cases e:w=i
  · subst e;exact ⟨pR a.bv[w]! t,.inl rfl,e1,e2⟩
  · exact ⟨a.bv[w]!,.inr ⟨w,hw,e,rfl⟩,e1,e2⟩) (fun j hj hu=>⟨⟨(ok.IJ hu hi).symm,fun w hw _=>ok.IJ hu hw⟩,ok.un j hj hu⟩) (by
  rintro e (rfl|⟨w,hw,_,rfl⟩)
  · exact GA ok hi ht h64
  · exact ok.ev w hw) (by
  rintro e f (rfl|⟨v,hv,hvi,rfl⟩) (rfl|⟨w,hw,J',rfl⟩) he
  · rfl
  · exact absurd (ok.Bc hi hw he).symm J'
  · exact absurd (ok.Bc hv hi he) hvi
  rw [ok.Bc hv hw he])
 have:(jQ a i t).bv.take (aeF a.bv)=(jQ a i t).bv:=If (by rw [len];exact ww _);show eZ ⟨a.af,(jQ a i t).bv,(jQ a i t).ar⟩;rw [<- this];exact key
theorem Mn {a:aJ} (ok:eZ a) (fit:yT a) {h:Int×Int} {i:Nat} (hi:i<aeF a.bv) (hh:(a.bv[i]!).2.2.2=h):oS a h=aeK ((i:Int),0):=by
 obtain ⟨lv,wv⟩:=ok.handle hi;rw [hh] at lv;unfold oS;rw [jf a fit,ls ok];simp only [aj,show ((0:Int) !=0)=aeU from rfl,lm,D5 ok.so,aE lv,ut];have:=lv.2.1;have:=lv.1;have:=ok.wl;have e:(a.bv[i]!).2.2.2.1=h.1:=by rw [hh]
 rw [dS (l:=a.ar) lv.1 (by omega),<- e,wv];rfl
theorem Em {a:aJ} (ok:eZ a) (fit:yT a) {h t:Int×Int} {i:Nat} (hi:i<aeF a.bv) (hh:(a.bv[i]!).2.2.2=h) (ht:bK t) (h64:lM t):ss a h t=aeK (jQ a i t,0):=by
 have bd:=ok.bd;obtain ⟨b1,b2,b3,b4,b5⟩:=ok.back hi;unfold ss;rw [jf a fit,ls ok,dZ h64,ls ht];have pl:=Mn ok fit hi hh;have se:=Gu (u:=a.af.aB) (us:=a.af.be) (fr:=a.af.bi) (GA ok hi ht h64) (show 0<=Ev.ix (pR a.bv[i]! t) from b1) ok.cells rfl hi (show Ev.ix (pR a.bv[i]! t)<(aeF a.ar) by rw [ok.wl];exact b2);have se':fb (a.af.aB,a.af.be,a.af.bi,(i:Int),t.1,t.2,(a.bv[i]!).2.2.1,(a.bv[i]!).2.2.2.1,(a.bv[i]!).2.2.2.2,a.bv,a.ar)=aeK (cJ (aeF a.bv) (pR a.bv[i]! t) i a.bv a.ar):=se;simp only [aj,gt_iff_lt,adJ,if_false,show ((0:Int) !=0)=aeU from rfl,lm,pl,bm (show (aeF a.bv)<=1048576 by omega),bm (show (aeF a.ar)<=1048576 by omega),ax a.bv i hi,se'];rfl
theorem qo {a:aJ} (ok:eZ a):lZ a=aeK a:=by have bd:=ok.bd;unfold lZ;simp only [vo ok.so,aj,bm (show (aeF a.bv)<=1048576 by omega),bm (show (aeF a.ar)<=1048576 by omega)]
theorem Dq {a:aJ} (ok:eZ a) {h t:Int×Int} {i:Nat} (hi:i<aeF a.bv) (hh:(a.bv[i]!).2.2.2=h) (ht:bK t) (h64:lM t):qc a h t=aeK (jQ a i t):=by
 have bd:=ok.bd;obtain ⟨b1,b2,b3,b4,b5⟩:=ok.back hi;obtain ⟨lv,wv⟩:=ok.handle hi;have hx:=GA ok hi ht h64;have x1:Ev.ix (pR a.bv[i]! t)<(aeF a.ar):=by rw [ok.wl];exact b2
 have st:=m8 ok hi ht;obtain ⟨j,H1,W1,e1,e3,e4,e5,e6,e7,e8,e9,e10⟩:=EB (x:=pR a.bv[i]! t) ht.1 i a.bv a.ar (GB ok hi t) (IK ok i);have w1:a.ar.set (Ev.n (pR a.bv[i]! t)) (i:Int)=a.ar:=fo b5;unfold qc;rw [qo ok];have g1:aH a.ar h.1=aeK (i:Int):=by
  have e:(a.bv[i]!).2.2.2.1=h.1:=by rw [hh]
  rw [dS (l:=a.ar) (i:=h.1) (by rw [<- e];exact b1) (by rw [<- e,ok.wl];exact b2),<- e,wv]
 have u1:oL ((i:Int),a.af.aB,a.af.be,a.af.bi,a.bv.set i (pR a.bv[i]! t),a.ar)=aeK ((j:Int),a.af.aB,a.af.be,a.af.bi,H1.set j (pR a.bv[i]! t),W1.set (Ev.n (pR a.bv[i]! t)) (j:Int)):=by unfold oL;have:=Vj (c0:=((i:Int),a.af.aB,a.af.be,a.af.bi,a.bv.set i (pR a.bv[i]! t),a.ar)) (u:=a.af.aB) (us:=a.af.be) (fr:=a.af.bi) hx b1 rfl rfl rfl i a.bv a.ar ok.cells hi rfl x1 rc rfl;rw [w1,e1] at this;exact this
 have OM:mr (aeF a.bv) H1 W1:=by refine ⟨by rw [e5];exact ww _,by omega,fun w hw=>?_⟩;exact ⟨(yS ok.cells hi e1 w hw).1,(yS ok.cells hi e1 w hw).2.1,by rw [e6];exact (yS ok.cells hi e1 w hw).2.2⟩
 have d1:mC ((j:Int),a.af.aB,a.af.be,a.af.bi,H1.set j (pR a.bv[i]! t),W1.set (Ev.n (pR a.bv[i]! t)) (j:Int))=aeK (a.af.aB,a.af.be,a.af.bi,(cJ (aeF a.bv) (pR a.bv[i]! t) i a.bv a.ar).1,(cJ (aeF a.bv) (pR a.bv[i]! t) i a.bv a.ar).2):=by
  unfold mC;have:=Mj (c0:=((j:Int),a.af.aB,a.af.be,a.af.bi,H1.set j (pR a.bv[i]! t),W1.set (Ev.n (pR a.bv[i]! t)) (j:Int))) (n:=aeF a.bv) (u:=a.af.aB) (us:=a.af.be) (fr:=a.af.bi) hx b1 rfl rfl rfl (aeF a.bv) j H1 W1 (by omega) OM e3.lt e5 (by rw [e6];exact x1) rc rc;rw [this];unfold cJ;rw [e1]
 have s1:cd a.bv (i:Int) (t.1,t.2,(a.bv[i]!).2.2)=a.bv.set i (pR a.bv[i]! t):=rfl;simp only [aj,g1,ax a.bv i hi,s1,u1,d1];rfl
theorem IL (H:List Ev) (n:Int) (hl:(aeF H)<=1000000):cX H n=aeK (aeY (∃w,w<aeF H/\(H[w]!).2.2.1=n)):=by
 unfold cX eU;have key:=iD (body:=cW) (fun i=>(H,n,((aeF H):Int),(i:Int))) (aeF H) (fun i=>(H[i]!).2.2.1=n) (fun i=>(i:Int)) (e:= -1) (fun i hi=>by
  have e1:aeY ((i:Int)<((aeF H):Int))=aeS:=aE (by omega);unfold cW vf;simp only [e1,lc,ax H i hi,aj,aV (show i<1000000000 by omega)];constructor
  · intro h;rw [dp h];rfl
  · intro h;rw [dR h];rfl) (by
  unfold cW;have:aeY (((aeF H):Int)<((aeF H):Int))=aeU:=aC (by omega);simp only [this,lm])
 rw [aA]
 by_cases hx: ∃w,w<aeF H/\(H[w]!).2.2.1=n
 · obtain ⟨k,h1,h2,h3⟩:=least hx
   have:=key.1 k h1 h2 h3;rw [show ((0:Nat):Int)=0 from rfl] at this;rw [this,aE hx];simp only [aj,aE (show (0:Int)<=(k:Int) by omega)]
 have:=key.2 fun i hi he=>hx ⟨i,hi,he⟩
 rw [show ((0:Nat):Int)=0 from rfl] at this;rw [this,aC hx];rfl
noncomputable def dC (a:aJ) (t:Int×Int) (n:Int):Ev:=(t.1,t.2,n,kQ a.af)
noncomputable def kT (a:aJ) (t:Int×Int) (n:Int):aJ:=
 ⟨gJ a.af,(cJ (aeF a.bv+1) (dC a t n) (aeF a.bv) (a.bv++[dC a t n]) a.ar).1,(cJ (aeF a.bv+1) (dC a t n) (aeF a.bv) (a.bv++[dC a t n]) a.ar).2⟩
section
variable {a : aJ} (ok : eZ a) (op : xQ a.af) {t : Int × Int} (ht : bK t) (h64 : lM t) {n : Int} (n0 : 0 <= n) (n1 : n <= 1000000)
include ok op
theorem Ch:Ev.ix (dC a t n)=(dh a.af:Int)/\dh a.af<aeF a.af.aB/\a.af.be[dh a.af]! =aeU/\aeF a.af.bi=(gJ a.af).bi.length+1:=by
 obtain ⟨h1,h2,h3⟩:=zH ok.so op.1;refine ⟨rfl,h1,?_,?_⟩
 · have:=ok.so.uf (dh a.af) h1
   cases h:a.af.be[dh a.af]! with
   |false=>rfl
   |true=>exact absurd h3 (this.1 h)
 show _=(a.af.bi.take (aeF a.af.bi-1)).length+1
 have:=op.1;rw [Do];omega
theorem IM:A' (aeF a.bv+1) (dC a t n) (fun e=>e∈a.bv) (a.bv++[dC a t n]) a.ar (aeF a.bv):=by
 obtain ⟨h1,h2,h3,h4⟩:=Ch (t:=t) (n:=n) ok op;have cell: ∀w,w<aeF a.bv->(a.bv++[dC a t n])[w]! =a.bv[w]!:=fun w hw=>dv hw
 refine ⟨by omega,by simp,fun w hw J'=>?_,by rw [h1];omega,by rw [h1,ok.wl];omega,fun e=>?_⟩
 · have Wb:w<(aeF a.bv):=by omega
   rw [cell w Wb];obtain ⟨c1,c2,c3,c4,c5⟩:=ok.back Wb;refine ⟨c1,by rw [ok.wl];exact c2,c5,fun h=>?_⟩;rw [h1] at h;have:Ev.n a.bv[w]! =dh a.af:=by show (Ev.ix a.bv[w]!).toNat=_;omega
   exact ok.IJ h3 Wb this
 constructor
 · rintro ⟨w,hw,J',rfl⟩
   rw [cell w (by omega)];exact bn (by omega)
 intro h
 obtain ⟨w,hw,rfl⟩:=aO.1 h;exact ⟨w,by omega,by omega,cell w hw⟩
theorem Mo (ht:bK t):Ord (aeF a.bv+1) (a.bv++[dC a t n]) (aeF a.bv):=by
 have _:=op;have cell: ∀w,w<aeF a.bv->(a.bv++[dC a t n])[w]! =a.bv[w]!:=fun w hw=>dv hw
 refine ⟨fun w hw=>?_,fun k k0 hk k1 k2=>?_,fun i0 k k0 hk hp=>by omega⟩
 · by_cases h:w<aeF a.bv
   · rw [cell w h];exact (ok.ev w h).den
   have:w=(aeF a.bv):=by omega
   subst this;rw [eK (ww _),adB];exact ht.1
 rw [cell k (by omega),cell _ (by omega)]
 exact ok.ord k k0 (by omega)
theorem xu (ht:bK t):zI (aeF a.bv+1) (dC a t n) (fun e=>e∈a.bv) (fun k=>k≠Ev.n (dC a t n)/\ ∀w,w<aeF a.bv+1->w≠aeF a.bv->Ev.n (a.bv++[dC a t n])[w]!≠k) (a.bv++[dC a t n]) a.ar (kT a t n).bv (kT a t n).ar:=
 yR (x:=dC a t n) ht.1 (IM ok op) (Mo ok op ht)
theorem Ci (ht:bK t):(kT a t n).bv.length=aeF a.bv+1:=by have:=(xu (n:=n) ok op ht).hl;rw [this];simp
theorem Mp (ht:bK t) (e:Ev):e∈(kT a t n).bv↔(e=dC a t n\/e∈a.bv):=by have st:=xu (n:=n) ok op ht;rw [aO,Ci ok op ht];exact st.mem e
theorem Kg (ht:bK t) (h64:lM t) (n0:0<=n) (n1:n<=1000000):pQ (dC a t n):=by have _:=ok;have _:=op;exact ⟨ht,h64,n0,n1⟩
theorem Qk (ht:bK t) (h64:lM t) (n0:0<=n) (n1:n<=1000000) (nn: ∀e∈a.bv,Ev.num e≠n):eZ (kT a t n):=by
 have st:=xu (n:=n) ok op ht;have len:=Ci (n:=n) ok op ht;obtain ⟨h1,h2,h3,h4⟩:=Ch (t:=t) (n:=n) ok op;have hu:=ok.so.ul;have ul:(gJ a.af).aB.length=(aeF a.af.aB):=rc;have key:=vt (Vf ok.so op) st (by simp) (by rw [ul];exact ok.wl) (by rw [ul];have:=ok.hl;omega) (fun j hj CB=>by
  rw [ul] at hj;change (a.af.be.set (dh a.af) aeS)[j]! =aeS at CB;rw [aU] at CB;show∃e:Ev,_/\_/\_=(a.af.aB.set (dh a.af) (a.af.aB[dh a.af]!+1))[j]!;rw [aU]
  by_cases e:j=dh a.af
  · rw [ls ⟨e,h2⟩]
    exact ⟨dC a t n,.inl rfl,by rw [h1,e],rfl⟩
  · rw [lw (fun k=>e k.1)]
    rw [lw (fun k=>e k.1)] at CB;obtain ⟨w,hw,e1,e2⟩:=ok.EE hj CB;exact ⟨a.bv[w]!,.inr (bn hw),e1,e2⟩) (fun j hj CB=>by
  rw [ul] at hj;change (a.af.be.set (dh a.af) aeS)[j]! =aeU at CB;rw [aU] at CB
  by_cases e:j=dh a.af
  · rw [ls ⟨e,by omega⟩] at CB;cases CB
  · rw [lw (fun k=>e k.1)] at CB
    refine ⟨⟨?_,fun w hw J'=>?_⟩,ok.un j hj CB⟩
    · show j≠(Ev.ix (dC a t n)).toNat
      omega
    rw [dv (by omega)]
    exact ok.IJ CB (by omega)) (by
  rintro e (rfl|h)
  · exact Kg ok op ht h64 n0 n1
  · obtain ⟨w,hw,rfl⟩:=aO.1 h
    exact ok.ev w hw) (by
  rintro e f (rfl|he) (rfl|hf) hn
  · rfl
  · exact absurd hn.symm (nn f hf)
  · exact absurd hn (nn e he)
  obtain ⟨v,hv,rfl⟩:=aO.1 he
  obtain ⟨w,hw,rfl⟩:=aO.1 hf;rw [ok.Bc hv hw hn])
 have:(kT a t n).bv.take (aeF a.bv+1)=(kT a t n).bv:=If (by rw [len];exact ww _);show eZ ⟨gJ a.af,(kT a t n).bv,(kT a t n).ar⟩;rw [<- this];exact key
theorem GC (ht:bK t) (h64:lM t) (n0:0<=n) (n1:n<=1000000):mr (aeF a.bv+1) (a.bv++[dC a t n]) a.ar:=by
 have bd:=ok.bd;obtain ⟨h1,h2,h3,h4⟩:=Ch (t:=t) (n:=n) ok op;refine ⟨by simp,by simp;omega,fun w hw=>?_⟩
 by_cases h:w<aeF a.bv
 · rw [dv h];exact ok.cells.ev w h
 have:w=(aeF a.bv):=by omega
 subst this;rw [eK (ww _),adB];exact ⟨Kg ok op ht h64 n0 n1,by show 0<=Ev.ix (dC a t n);omega,by show Ev.ix (dC a t n)<_;rw [ok.wl];omega⟩
theorem we (fit:yT a) (ht:bK t) (h64:lM t) (n0:0<=n) (n1:n<=1000000) (nn: ∀e∈a.bv,Ev.num e≠n):kF a t n=aeK (kT a t n,kQ a.af,0):=by
 have bd:=ok.bd;obtain ⟨h1,h2,h3,h4⟩:=Ch (t:=t) (n:=n) ok op;have hn: ¬ ∃w,w<aeF a.bv/\(a.bv[w]!).2.2.1=n:=by rintro ⟨w,hw,e⟩;exact nn _ (bn hw) e
 unfold kF;rw [jf a fit,ls ok,dZ h64,ls ht,IL _ _ (by omega),aC hn,Cc ok.so,ls op];have se:=Gu (u:=(gJ a.af).aB) (us:=(gJ a.af).be) (fr:=(gJ a.af).bi) (Kg ok op ht h64 n0 n1) (show 0<=Ev.ix (dC a t n) by omega) (GC ok op ht h64 n0 n1) (by simp) (show (aeF a.bv)<aeF a.bv+1 by omega) (show Ev.ix (dC a t n)<(aeF a.ar) by rw [ok.wl];omega);have e1:aa .i64 (((a.bv++[dC a t n]).length:Int) -1)=((aeF a.bv):Int):=by rw [wi,ad9];simp;omega
 have ap:bJ a.bv [(t.1,t.2,n,kQ a.af)]=aeK (a.bv++[dC a t n]):=dJ (by simp;omega);have se':fb ((gJ a.af).aB,(gJ a.af).be,(gJ a.af).bi,((aeF a.bv):Int),t.1,t.2,n,(kQ a.af).1,(kQ a.af).2,a.bv++[dC a t n],a.ar)=aeK (cJ (aeF a.bv+1) (dC a t n) (aeF a.bv) (a.bv++[dC a t n]) a.ar):=se;simp only [aj,gt_iff_lt,adJ,if_false,show ((0:Int) !=0)=aeU from rfl,lm,aC (show¬n<0 by omega),aC (show¬1000000<n by omega),bm (show (aeF a.bv)<=1048576 by omega),bm (show (aeF a.ar)<=1048576 by omega),ap,aA,e1,se'];rfl
theorem xR (ht:bK t) (h64:lM t) (n0:0<=n) (n1:n<=1000000):eQ a t n=aeK (kT a t n,kQ a.af):=by
 have bd:=ok.bd;obtain ⟨h1,h2,h3,h4⟩:=Ch (t:=t) (n:=n) ok op;unfold eQ;rw [qo ok];have e1:aa .i64 (((a.bv++[dC a t n]).length:Int) -1)=((aeF a.bv):Int):=by rw [wi,ad9];simp;omega
 have ap:bJ a.bv [(t.1,t.2,n,kQ a.af)]=aeK (a.bv++[dC a t n]):=dJ (by simp;omega);have hx:=Kg (n:=n) ok op ht h64 n0 n1;have last:cJ (aeF a.bv+1) (dC a t n) (aeF a.bv) (a.bv++[dC a t n]) a.ar=_:=Mh (x:=dC a t n) ht.1 (IM ok op) (Mo ok op ht) (fun k k0 hk hp=>by omega);have hs:(a.bv++[dC a t n]).set (aeF a.bv) (dC a t n)=a.bv++[dC a t n]:=fo (by rw [eK (ww _),adB];rfl);have ws:cd a.ar (kQ a.af).1 ((aeF a.bv):Int)=a.ar.set (Ev.n (dC a t n)) ((aeF a.bv):Int):=rfl
 have u1:oM ((gJ a.af).aB,(gJ a.af).be,(gJ a.af).bi,((aeF a.bv):Int),a.bv++[dC a t n],a.ar.set (Ev.n (dC a t n)) ((aeF a.bv):Int))=aeK (((iW (dC a t n) (aeF a.bv) (a.bv++[dC a t n]) a.ar).1:Int),(iW (dC a t n) (aeF a.bv) (a.bv++[dC a t n]) a.ar).2.1.set (iW (dC a t n) (aeF a.bv) (a.bv++[dC a t n]) a.ar).1 (dC a t n),(iW (dC a t n) (aeF a.bv) (a.bv++[dC a t n]) a.ar).2.2.set (Ev.n (dC a t n)) ((iW (dC a t n) (aeF a.bv) (a.bv++[dC a t n]) a.ar).1:Int)):=by
  unfold oM;have:=Vl (c0:=((gJ a.af).aB,(gJ a.af).be,(gJ a.af).bi,((aeF a.bv):Int),a.bv++[dC a t n],a.ar.set (Ev.n (dC a t n)) ((aeF a.bv):Int))) (u:=(gJ a.af).aB) (us:=(gJ a.af).be) (fr:=(gJ a.af).bi) hx (show 0<=Ev.ix (dC a t n) by omega) (aeF a.bv) (a.bv++[dC a t n]) a.ar (GC ok op ht h64 n0 n1) (by omega) (by simp) (by rw [ok.wl];omega) rfl rc;rw [hs] at this;exact this
 have g1:aH a.ar (kQ a.af).1=aeK a.ar[dh a.af]!:=ax a.ar (dh a.af) (by rw [ok.wl];exact h2);simp only [aj,Gq ok.so op,ap,g1,aA,e1,ws,u1];unfold kT;rw [last]
end
theorem wg {a:aJ} (ok:eZ a) (op: ¬xQ a.af) (fit:yT a) {t:Int×Int} (ht:bK t) (h64:lM t) {n:Int} (n0:0<=n) (n1:n<=1000000) (nn: ∀e∈a.bv,Ev.num e≠n):kF a t n=aeK (⟨⟨[],[],[]⟩,[],[]⟩,(0,0),18):=by
 have bd:=ok.bd;have hn: ¬ ∃w,w<aeF a.bv/\(a.bv[w]!).2.2.1=n:=by rintro ⟨w,hw,e⟩;exact nn _ (bn hw) e
 unfold kF;rw [jf a fit,ls ok,dZ h64,ls ht,IL _ _ (by omega),aC hn,Cc ok.so,lw op];simp only [aj,gt_iff_lt,adJ,if_false,show ((0:Int) !=0)=aeU from rfl,lm,aC (show¬n<0 by omega),aC (show¬1000000<n by omega),show ((18:Int) !=0)=aeS from rfl,lc]
theorem uM {l:List Ev} {n i:Nat} {v:Ev}:(l.set i v).take n=(l.take n).set i v:=by
 apply List.ext_getElem?;intro j;rw [adL,adQ,adQ,adL,Do]
 by_cases h1:j<n
 · rw [ls h1]
   by_cases h2:i=j
   · subst h2
     by_cases h3:i<aeF l
     · rw [ls rfl,ls h3,ls rfl,ls (by omega)]
     rw [ls rfl,lw h3,ls rfl,lw (by omega)]
   rw [lw h2,lw h2,ls h1]
 rw [lw h1]
 by_cases h2:i=j
 · rw [ls h2,lw (by omega)]
 rw [lw h2,lw h1]
theorem Mq {n:Nat} {x:Ev}: ∀(i:Nat) (H:List Ev) (W:List Int),i<n->iW x i (H.take n) W=((iW x i H W).1,(iW x i H W).2.1.take n,(iW x i H W).2.2)
 |0,H,W,hi=>by rw [iW,iW]
 |i+1,H,W,hi=>by
  have e:(H.take n)[i / 2]! =H[i / 2]!:=je (by omega);rw [iW,iW,e]
  by_cases h:less x H[i / 2]!
  · rw [ls h,ls h,<- uM]
    exact Mq (i / 2) _ _ (by omega)
  rw [lw h,lw h]
termination_by i=>i
decreasing_by omega
theorem Vp {x:Ev}: ∀(i:Nat) (H:List Ev) (W:List Int),(iW x i H W).1<=i
 |0,H,W=>by rw [iW];exact ww _
 |i+1,H,W=>by
  rw [iW];split
  · exact aez (Vp (i / 2) _ _) (by omega)
  exact ww _
termination_by i=>i
decreasing_by omega
theorem GD {n:Nat} {H:List Ev} {i:Nat} (hk:2*i+1<n):hO n (H.take n) i=hO n H i:=by
 unfold hO
 by_cases h:2*i+2<n
 · rw [je h,je (show 2*i+1<n by omega)]
 rw [lw (fun k=>h k.1),lw (fun k=>h k.1)]
theorem Mr {n:Nat} {x:Ev} {i:Nat} {H:List Ev} {W:List Int} (h:2*i+1<n) (hl:less H[hO n H i]! x):eb n x i H W=eb n x (hO n H i) (H.set i H[hO n H i]!) (W.set (H[hO n H i]!).n (i:Int)):=by rw [eb,dif_pos h,ls hl]
theorem xw {n:Nat} {x:Ev} {i:Nat} {H:List Ev} {W:List Int} (h: ¬(2*i+1<n/\less H[hO n H i]! x)):eb n x i H W=(i,H,W):=by
 rw [eb];split
 · rename_i h1;rw [lw (fun k=>h ⟨h1,k⟩)]
 rfl
theorem GF {n : Nat} {x : Ev} : ∀ (d i : Nat) (H : List Ev) (W : List Int), n - i <= d -> eb n x i (H.take n) W = ((eb n x i H W).1, (eb n x i H W).2.1.take n, (eb n x i H W).2.2)
  | 0, i, H, W, hd => by
    rw [xw (fun h => by omega), xw (fun h => by omega)]
  | d + 1, i, H, W, hd => by
    have kc := oi n H i
    by_cases h : 2 * i + 1 < n /\ less H[hO n H i]! x
    · have e : (H.take n)[hO n (H.take n) i]! = H[hO n H i]! := by rw [GD h.1, je (by omega)]
      rw [Mr h.1 h.2, Mr (H := H.take n) h.1 (by rw [e]; exact h.2), e, GD h.1, <- uM]
      exact GF d _ _ _ (by omega)
    have h' : ¬ (2 * i + 1 < n /\ less (H.take n)[hO n (H.take n) i]! x) := by
      rintro ⟨k1, k2⟩
      rw [GD k1, je (by omega)] at k2
      exact h ⟨k1, k2⟩
    rw [xw h, xw h']
theorem Ql {x:Ev}: ∀(i:Nat) (H:List Ev) (W:List Int),(iW x i H W).2.1.length=aeF H/\(iW x i H W).2.2.length=aeF W
 |0,H,W=>by rw [iW];exact ⟨rfl,rfl⟩
 |i+1,H,W=>by
  rw [iW];split
  · have:=Ql (x:=x) (i / 2) (H.set (i+1) H[i / 2]!) (W.set (H[i / 2]!).n ((i+1:Nat):Int))
    rwa [rc,rc] at this
  exact ⟨rfl,rfl⟩
termination_by i=>i
decreasing_by omega
theorem Cj {n:Nat} {x:Ev} {i:Nat} {H:List Ev} {W:List Int} (hi:i<n):cJ n x i (H.take n) W=((cJ n x i H W).1.take n,(cJ n x i H W).2):=by unfold cJ;rw [Mq i H W hi];dsimp only;rw [GF n _ _ _ (by omega)];dsimp only;rw [uM]
noncomputable def eL (a:aJ) (i:Nat):aJ:=
 if i<aeF a.bv-1 then ⟨fR a.af (a.bv[i]!).2.2.2,(cJ (aeF a.bv-1) a.bv[aeF a.bv-1]! i a.bv (a.ar.set (Ev.n a.bv[i]!) (-1))).1.take (aeF a.bv-1),(cJ (aeF a.bv-1) a.bv[aeF a.bv-1]! i a.bv (a.ar.set (Ev.n a.bv[i]!) (-1))).2⟩
 else ⟨fR a.af (a.bv[i]!).2.2.2,a.bv.take (aeF a.bv-1),a.ar.set (Ev.n a.bv[i]!) (-1)⟩
section
variable {a : aJ} (ok : eZ a) {i : Nat} (hi : i < (aeF a.bv))
include ok hi
theorem wj {w:Nat} (hw:w<aeF a.bv) (dW:w≠i):Ev.n a.bv[w]!≠Ev.n a.bv[i]!:=by have h1:=(ok.back hw).1;have h2:=(ok.back hi).1;exact ao4 h1 h2 fun h=>dW (ok.inj hw hi h)
theorem IN:mr (aeF a.bv-1) a.bv (a.ar.set (Ev.n a.bv[i]!) (-1)):=by have c:=ok.cells;refine ⟨by omega,c.hb,fun w hw=>?_⟩;rw [rc];exact c.ev w (by omega)
theorem Vq (dV:i<aeF a.bv-1):A' (aeF a.bv-1) a.bv[aeF a.bv-1]! (fun e=> ∃w,w<aeF a.bv-1/\w≠i/\a.bv[w]! =e) a.bv (a.ar.set (Ev.n a.bv[i]!) (-1)) i:=by
 obtain ⟨b1,b2,b3,b4,b5⟩:=ok.back (show (aeF a.bv)-1<(aeF a.bv) by omega);refine ⟨dV,by omega,fun w hw J'=>?_,b1,by rw [rc,ok.wl];exact b2,fun e=>adA⟩;obtain ⟨c1,c2,c3,c4,c5⟩:=ok.back (show w<(aeF a.bv) by omega);refine ⟨c1,by rw [rc,ok.wl];exact c2,?_,fun h=>?_⟩
 · rw [aU,lw (fun h=>wj ok hi (show w<(aeF a.bv) by omega) J' h.1)]
   exact c5
 have:=ok.inj (show w<(aeF a.bv) by omega) (show (aeF a.bv)-1<(aeF a.bv) by omega) h
 omega
theorem ac1:Ord (aeF a.bv-1) a.bv i:=
 ⟨fun w hw=>(ok.ev w (by omega)).den,fun k k0 hk _ _=>ok.ord k k0 (by omega),fun i0 k k0 hk hp=>ok.Mg i0 k0 (by omega) hp⟩
theorem D6 (dV:i<aeF a.bv-1):
 zI (aeF a.bv-1) a.bv[aeF a.bv-1]! (fun e=> ∃w,w<aeF a.bv-1/\w≠i/\a.bv[w]! =e) (fun k=>k≠Ev.n a.bv[aeF a.bv-1]!/\ ∀w,w<aeF a.bv-1->w≠i->Ev.n a.bv[w]!≠k) a.bv (a.ar.set (Ev.n a.bv[i]!) (-1))
  (cJ (aeF a.bv-1) a.bv[aeF a.bv-1]! i a.bv (a.ar.set (Ev.n a.bv[i]!) (-1))).1 (cJ (aeF a.bv-1) a.bv[aeF a.bv-1]! i a.bv (a.ar.set (Ev.n a.bv[i]!) (-1))).2:=
 yR (ok.ev (aeF a.bv-1) (by omega)).den (Vq ok hi dV) (ac1 ok hi)
theorem IP:fj (fR a.af (a.bv[i]!).2.2.2):=Ve ok.so (ok.handle hi).1
theorem yV {j:Nat} (hj:j<aeF a.af.aB):(fR a.af (a.bv[i]!).2.2.2).be[j]! =if j=Ev.n a.bv[i]! then aeU else a.af.be[j]!:=by
 have _:=hi;show (a.af.be.set (Ev.n a.bv[i]!) aeU)[j]! =_;rw [aU];have:=ok.so.ul
 by_cases e:j=Ev.n a.bv[i]!
 · rw [ls ⟨e,by omega⟩,ls e]
 rw [lw (fun k=>e k.1),lw e]
theorem Dr:eZ (eL a i):=by
 have hb:=ok.back hi;have hl:(aeF a.bv)-1+(fR a.af (a.bv[i]!).2.2.2).bi.length=(aeF a.af.aB):=by show (aeF a.bv)-1+(a.af.bi++[_]).length=_;rw [ad9];have:=ok.hl;simp only [ae7,aeh];omega
 have un: ∀j,j<aeF a.af.aB->(fR a.af (a.bv[i]!).2.2.2).be[j]! =aeU->(a.ar.set (Ev.n a.bv[i]!) (-1))[j]! = -1:=by
  intro j hj hu;rw [yV ok hi hj] at hu;rw [aU]
  by_cases e:j=Ev.n a.bv[i]!
  · rw [ls ⟨e.symm▸rfl,by rw [ok.wl];omega⟩]
  rw [lw e] at hu
  rw [lw (fun k=>e k.1)];exact ok.un j hj hu
 unfold eL
 by_cases dV:i<aeF a.bv-1
 · rw [ls dV]
   have st:=D6 ok hi dV;refine vt (IP ok hi) st (by omega) (by rw [rc];exact ok.wl) hl (fun j hj hu=>?_) (fun j hj hu=>⟨⟨?_,fun w hw J'=>?_⟩,un j hj hu⟩) ?_ ?_
   · change j<(aeF a.af.aB) at hj
     rw [yV ok hi hj] at hu
     by_cases e:j=Ev.n a.bv[i]!
     · rw [ls e] at hu;cases hu
     rw [lw e] at hu
     obtain ⟨w,hw,e1,e2⟩:=ok.EE hj hu;refine ⟨a.bv[w]!,?_,e1,e2⟩
     by_cases mU:w=aeF a.bv-1
     · left;rw [mU]
     refine .inr ⟨w,by omega,fun h=>e ?_,rfl⟩
     rw [<- h];show j=(Ev.ix a.bv[w]!).toNat;omega
   · change j<(aeF a.af.aB) at hj
     rw [yV ok hi hj] at hu
     by_cases e:j=Ev.n a.bv[i]!
     · rw [e];exact (wj ok hi (by omega) (by omega)).symm
     rw [lw e] at hu
     exact (ok.IJ hu (by omega)).symm
   · change j<(aeF a.af.aB) at hj
     rw [yV ok hi hj] at hu
     by_cases e:j=Ev.n a.bv[i]!
     · rw [e];exact wj ok hi (by omega) J'
     rw [lw e] at hu
     exact ok.IJ hu (by omega)
   · rintro e (rfl|⟨w,hw,_,rfl⟩)
     · exact ok.ev _ (by omega)
     exact ok.ev w (by omega)
   rintro e f (rfl|⟨v,hv,hvi,rfl⟩) (rfl|⟨w,hw,J',rfl⟩) he
   · rfl
   · rw [ok.Bc (by omega) (by omega) he]
   · rw [ok.Bc (by omega) (by omega) he]
   rw [ok.Bc (by omega) (by omega) he]
 rw [lw dV]
 have hie:i=aeF a.bv-1:=by omega
 refine aer (IP ok hi) (fun e=> ∃w,w<aeF a.bv-1/\a.bv[w]! =e) (by omega) (by rw [rc];exact ok.wl) hl (fun w hw=>?_) (fun e=>adA) (fun k k0 hk=>ok.ord k k0 (by omega)) (fun j hj hu=>?_) un ?_ ?_
 · obtain ⟨c1,c2,c3,c4,c5⟩:=ok.back (show w<(aeF a.bv) by omega)
   refine ⟨c1,by rw [rc,ok.wl];exact c2,?_⟩;rw [aU,lw (fun h=>wj ok hi (show w<(aeF a.bv) by omega) (by omega) h.1)];exact c5
 · change j<(aeF a.af.aB) at hj
   rw [yV ok hi hj] at hu
   by_cases e:j=Ev.n a.bv[i]!
   · rw [ls e] at hu;cases hu
   rw [lw e] at hu
   obtain ⟨w,hw,e1,e2⟩:=ok.EE hj hu;refine ⟨a.bv[w]!,⟨w,?_,rfl⟩,e1,e2⟩;have:w≠i:=fun h=>e (by rw [<- h];show j=(Ev.ix a.bv[w]!).toNat;omega)
   omega
 · rintro e ⟨w,hw,rfl⟩
   exact ok.ev w (by omega)
 rintro e f ⟨v,hv,rfl⟩ ⟨w,hw,rfl⟩ he
 rw [ok.Bc (by omega) (by omega) he]
theorem GG (e:Ev):e∈(eL a i).bv↔(e∈a.bv/\e≠a.bv[i]!):=by
 have other: ∀w,w<aeF a.bv->(a.bv[w]!≠a.bv[i]!↔w≠i):=fun w hw=>⟨fun h k=>h (by rw [k]),fun h k=>h (ok.inj hw hi (by rw [k]))⟩
 unfold eL
 by_cases dV:i<aeF a.bv-1
 · rw [ls dV]
   have st:=D6 ok hi dV;show e∈(_:List Ev).take _↔_;rw [Am (by rw [st.hl];omega)];refine (st.mem e).trans ?_;constructor
   · rintro (h|⟨w,hw,J',rfl⟩)
     · rw [h];exact ⟨bn (by omega),(other _ (by omega)).2 (by omega)⟩
     exact ⟨bn (by omega),(other _ (by omega)).2 J'⟩
   rintro ⟨h,dW⟩
   obtain ⟨w,hw,rfl⟩:=aO.1 h
   by_cases c:w=aeF a.bv-1
   · left;rw [c]
   exact .inr ⟨w,by omega,(other w hw).1 dW,rfl⟩
 rw [lw dV]
 show e∈a.bv.take _↔_;rw [Am (by omega)];constructor
 · rintro ⟨w,hw,rfl⟩
   exact ⟨bn (by omega),(other _ (by omega)).2 (by omega)⟩
 rintro ⟨h,dW⟩
 obtain ⟨w,hw,rfl⟩:=aO.1 h;have:=(other w hw).1 dW;exact ⟨w,by omega,rfl⟩
theorem Ds:qh a (i:Int)=aeK (eL a i,a.bv[i]!,0):=by
 have bd:=ok.bd;obtain ⟨b1,b2,b3,b4,b5⟩:=ok.back hi;obtain ⟨c1,c2,c3,c4,c5⟩:=ok.back (show (aeF a.bv)-1<(aeF a.bv) by omega);unfold qh;have e1:aa .i64 (((aeF a.bv):Int) -1)=((aeF a.bv-1:Nat):Int):=nq (by omega) (by omega);have g1:aH a.ar (a.bv[i]!).2.2.2.1=aeK a.ar[(a.bv[i]!).2.2.2.1.toNat]!:=dS b1 (by rw [ok.wl];exact b2);have ws:cd a.ar (a.bv[i]!).2.2.2.1 (-1)=a.ar.set (Ev.n a.bv[i]!) (-1):=rfl;simp only [ax a.bv i hi,aj,J9 ok.so (ok.handle hi).1,show ((0:Int) !=0)=aeU from rfl,lm,bm (show (aeF a.bv)<=1048576 by omega),bm (show (aeF a.ar)<=1048576 by omega),aA,e1,ax a.bv (aeF a.bv-1) (by omega),kr a.bv (aeF a.bv-1) (by omega),g1,ws,v6];unfold eL
 by_cases dV:i<aeF a.bv-1
 · rw [aE (by omega),ls dV]
   have se:=OJ (cap:=aeF a.bv) (u:=(fR a.af (a.bv[i]!).2.2.2).aB) (us:=(fR a.af (a.bv[i]!).2.2.2).be) (fr:=(fR a.af (a.bv[i]!).2.2.2).bi) (ok.ev (aeF a.bv-1) (by omega)) (show 0<=Ev.ix a.bv[aeF a.bv-1]! from c1) (IN ok hi) dV (show Ev.ix a.bv[aeF a.bv-1]!<_ by rw [rc,ok.wl];exact c2);rw [se];rfl
 rw [aC (by omega),lw dV]
 rfl
theorem wk (fit:yT a) {h:Int×Int} (hh:(a.bv[i]!).2.2.2=h):lr a h=aeK (eL a i,a.bv[i]!,0):=by unfold lr;rw [Mn ok fit hi hh];simp only [aj,show ((0:Int) !=0)=aeU from rfl,lm,Ds ok hi]
theorem wm {h:Int×Int} (hh:(a.bv[i]!).2.2.2=h):jy a h=aeK (eL a i):=by
 have bd:=ok.bd;subst hh;obtain ⟨b1,b2,b3,b4,b5⟩:=ok.back hi;obtain ⟨c1,c2,c3,c4,c5⟩:=ok.back (show (aeF a.bv)-1<(aeF a.bv) by omega);unfold jy;rw [qo ok];have e1:aa .i64 (((aeF a.bv):Int) -1)=((aeF a.bv-1:Nat):Int):=nq (by omega) (by omega);have g1:aH a.ar (a.bv[i]!).2.2.2.1=aeK (i:Int):=by rw [dS (l:=a.ar) b1 (by rw [ok.wl];exact b2)];exact congrArg aeK b5
 have gv:=Gp ok.so (ok.handle hi).1;simp only [aj,g1,aA,e1,v6];unfold eL
 by_cases dV:i<aeF a.bv-1
 · rw [cS (show (i:Int)≠((aeF a.bv-1:Nat):Int) by omega),ls dV]
   have dW:(aeF a.bv)-1≠i:=by omega
   have nn:Ev.n a.bv[aeF a.bv-1]!≠Ev.n a.bv[i]!:=wj ok hi (by omega) dW;have sw:=Cg (n:=aeF a.bv) (x:=a.bv[i]!) (u:=a.af.aB) (us:=a.af.be) (fr:=a.af.bi) (H:=a.bv) (W:=a.ar) hi (show (aeF a.bv)-1<(aeF a.bv) by omega) dW rfl b1 (by rw [ok.wl];exact b2) c1 (by rw [ok.wl];exact c2);rw [fo (l:=a.bv) rfl,fo (l:=a.ar) b5] at sw;have hs:(a.bv.set i a.bv[aeF a.bv-1]!).set (aeF a.bv-1) a.bv[i]! =(a.bv.set (aeF a.bv-1) a.bv[i]!).set i a.bv[aeF a.bv-1]!:=aex _ _ (by omega);have ws:cd ((a.ar.set (Ev.n a.bv[aeF a.bv-1]!) (i:Int)).set (Ev.n a.bv[i]!) ((aeF a.bv-1:Nat):Int)) (a.bv[i]!).2.2.2.1 (-1)=(a.ar.set (Ev.n a.bv[i]!) (-1)).set (Ev.n a.bv[aeF a.bv-1]!) (i:Int):=by
    show ((a.ar.set (Ev.n a.bv[aeF a.bv-1]!) (i:Int)).set (Ev.n a.bv[i]!) ((aeF a.bv-1:Nat):Int)).set (Ev.n a.bv[i]!) (-1)=_;rw [List.set_set,aex _ _ nn]
   have g2:aH ((a.ar.set (Ev.n a.bv[aeF a.bv-1]!) (i:Int)).set (Ev.n a.bv[i]!) ((aeF a.bv-1:Nat):Int)) (a.bv[i]!).2.2.2.1=aeK _:=dS b1 (by rw [rc,rc,ok.wl];exact b2);have cells:mr (aeF a.bv-1) (a.bv.set (aeF a.bv-1) a.bv[i]!) (a.ar.set (Ev.n a.bv[i]!) (-1)):=by refine ⟨by rw [rc];omega,by rw [rc];omega,fun w hw=>?_⟩;rw [aU,lw (by omega)];exact (IN ok hi).ev w hw
   have x1:Ev.ix a.bv[aeF a.bv-1]!<(a.ar.set (Ev.n a.bv[i]!) (-1)).length:=by rw [rc,ok.wl];exact c2
   have hx:=ok.ev (aeF a.bv-1) (by omega);have gv':ob (bj.mk a.af.aB a.af.be a.af.bi) (a.bv[i]!).2.2.2=aeK (fR a.af (a.bv[i]!).2.2.2):=gv;have tk:(a.bv.set (aeF a.bv-1) a.bv[i]!).take (aeF a.bv-1)=a.bv.take (aeF a.bv-1):=by rw [uM];exact ady (by rw [Do];omega)
   have U:mb ((fR a.af (a.bv[i]!).2.2.2).aB,(fR a.af (a.bv[i]!).2.2.2).be,(fR a.af (a.bv[i]!).2.2.2).bi,aeF a.bv-1,((a.bv.set (aeF a.bv-1) a.bv[i]!).set i a.bv[aeF a.bv-1]!).length,(i:Int),(a.bv.set (aeF a.bv-1) a.bv[i]!).set i a.bv[aeF a.bv-1]!,(a.ar.set (Ev.n a.bv[i]!) (-1)).set (Ev.n a.bv[aeF a.bv-1]!) (i:Int))=
    aeK (((iW a.bv[aeF a.bv-1]! i (a.bv.set (aeF a.bv-1) a.bv[i]!) (a.ar.set (Ev.n a.bv[i]!) (-1))).1:Int),(iW a.bv[aeF a.bv-1]! i (a.bv.set (aeF a.bv-1) a.bv[i]!) (a.ar.set (Ev.n a.bv[i]!) (-1))).2.1.set (iW a.bv[aeF a.bv-1]! i (a.bv.set (aeF a.bv-1) a.bv[i]!) (a.ar.set (Ev.n a.bv[i]!) (-1))).1 a.bv[aeF a.bv-1]!,(iW a.bv[aeF a.bv-1]! i (a.bv.set (aeF a.bv-1) a.bv[i]!) (a.ar.set (Ev.n a.bv[i]!) (-1))).2.2.set (Ev.n a.bv[aeF a.bv-1]!) ((iW a.bv[aeF a.bv-1]! i (a.bv.set (aeF a.bv-1) a.bv[i]!) (a.ar.set (Ev.n a.bv[i]!) (-1))).1:Int)):=by
    unfold mb;exact Vh (n:=aeF a.bv-1) (c0:=((fR a.af (a.bv[i]!).2.2.2).aB,(fR a.af (a.bv[i]!).2.2.2).be,(fR a.af (a.bv[i]!).2.2.2).bi,aeF a.bv-1,((a.bv.set (aeF a.bv-1) a.bv[i]!).set i a.bv[aeF a.bv-1]!).length,(i:Int),(a.bv.set (aeF a.bv-1) a.bv[i]!).set i a.bv[aeF a.bv-1]!,(a.ar.set (Ev.n a.bv[i]!) (-1)).set (Ev.n a.bv[aeF a.bv-1]!) (i:Int))) hx c1 i _ _ cells dV x1 rc rc
   have ul:=Vp (x:=a.bv[aeF a.bv-1]!) i (a.bv.set (aeF a.bv-1) a.bv[i]!) (a.ar.set (Ev.n a.bv[i]!) (-1));have un:=Ql (x:=a.bv[aeF a.bv-1]!) i (a.bv.set (aeF a.bv-1) a.bv[i]!) (a.ar.set (Ev.n a.bv[i]!) (-1));have uc:=fun w hw=>yS (x:=a.bv[aeF a.bv-1]!) cells dV (i:=i) rfl w hw
   have OM:mr (aeF a.bv-1) (iW a.bv[aeF a.bv-1]! i (a.bv.set (aeF a.bv-1) a.bv[i]!) (a.ar.set (Ev.n a.bv[i]!) (-1))).2.1 (iW a.bv[aeF a.bv-1]! i (a.bv.set (aeF a.bv-1) a.bv[i]!) (a.ar.set (Ev.n a.bv[i]!) (-1))).2.2:=by refine ⟨by rw [un.1,rc];omega,by rw [un.1,rc];omega,fun w hw=>?_⟩;rw [un.2];exact uc w hw
   have D:jY ((fR a.af (a.bv[i]!).2.2.2).aB,(fR a.af (a.bv[i]!).2.2.2).be,(fR a.af (a.bv[i]!).2.2.2).bi,aeF a.bv-1,((a.bv.set (aeF a.bv-1) a.bv[i]!).set i a.bv[aeF a.bv-1]!).length,((iW a.bv[aeF a.bv-1]! i (a.bv.set (aeF a.bv-1) a.bv[i]!) (a.ar.set (Ev.n a.bv[i]!) (-1))).1:Int),(iW a.bv[aeF a.bv-1]! i (a.bv.set (aeF a.bv-1) a.bv[i]!) (a.ar.set (Ev.n a.bv[i]!) (-1))).2.1.set (iW a.bv[aeF a.bv-1]! i (a.bv.set (aeF a.bv-1) a.bv[i]!) (a.ar.set (Ev.n a.bv[i]!) (-1))).1 a.bv[aeF a.bv-1]!,(iW a.bv[aeF a.bv-1]! i (a.bv.set (aeF a.bv-1) a.bv[i]!) (a.ar.set (Ev.n a.bv[i]!) (-1))).2.2.set (Ev.n a.bv[aeF a.bv-1]!) ((iW a.bv[aeF a.bv-1]! i (a.bv.set (aeF a.bv-1) a.bv[i]!) (a.ar.set (Ev.n a.bv[i]!) (-1))).1:Int))=
    aeK (cJ (aeF a.bv-1) a.bv[aeF a.bv-1]! i (a.bv.set (aeF a.bv-1) a.bv[i]!) (a.ar.set (Ev.n a.bv[i]!) (-1))):=by
    unfold jY
    exact Mi (n:=aeF a.bv-1) (c0:=((fR a.af (a.bv[i]!).2.2.2).aB,(fR a.af (a.bv[i]!).2.2.2).be,(fR a.af (a.bv[i]!).2.2.2).bi,aeF a.bv-1,((a.bv.set (aeF a.bv-1) a.bv[i]!).set i a.bv[aeF a.bv-1]!).length,((iW a.bv[aeF a.bv-1]! i (a.bv.set (aeF a.bv-1) a.bv[i]!) (a.ar.set (Ev.n a.bv[i]!) (-1))).1:Int),(iW a.bv[aeF a.bv-1]! i (a.bv.set (aeF a.bv-1) a.bv[i]!) (a.ar.set (Ev.n a.bv[i]!) (-1))).2.1.set (iW a.bv[aeF a.bv-1]! i (a.bv.set (aeF a.bv-1) a.bv[i]!) (a.ar.set (Ev.n a.bv[i]!) (-1))).1 a.bv[aeF a.bv-1]!,(iW a.bv[aeF a.bv-1]! i (a.bv.set (aeF a.bv-1) a.bv[i]!) (a.ar.set (Ev.n a.bv[i]!) (-1))).2.2.set (Ev.n a.bv[aeF a.bv-1]!) ((iW a.bv[aeF a.bv-1]! i (a.bv.set (aeF a.bv-1) a.bv[i]!) (a.ar.set (Ev.n a.bv[i]!) (-1))).1:Int))) hx c1 (aeF a.bv) (iW a.bv[aeF a.bv-1]! i (a.bv.set (aeF a.bv-1) a.bv[i]!) (a.ar.set (Ev.n a.bv[i]!) (-1))).1 (iW a.bv[aeF a.bv-1]! i (a.bv.set (aeF a.bv-1) a.bv[i]!) (a.ar.set (Ev.n a.bv[i]!) (-1))).2.1 (iW a.bv[aeF a.bv-1]! i (a.bv.set (aeF a.bv-1) a.bv[i]!) (a.ar.set (Ev.n a.bv[i]!) (-1))).2.2 (by omega) OM (by omega) (by rw [un.2];exact x1) rc rc
   have st:=Cj (n:=(aeF a.bv-1)) (x:=a.bv[aeF a.bv-1]!) (i:=i) (H:=(a.bv.set (aeF a.bv-1) a.bv[i]!)) (W:=(a.ar.set (Ev.n a.bv[i]!) (-1))) dV;have Ec:=Cj (n:=(aeF a.bv-1)) (x:=a.bv[aeF a.bv-1]!) (i:=i) (H:=a.bv) (W:=(a.ar.set (Ev.n a.bv[i]!) (-1))) dV;rw [tk,Ec] at st;injection st with oo NV;simp only [lc,sw,aj,kr _ (aeF a.bv-1) (show (aeF a.bv)-1<=((a.bv.set (aeF a.bv-1) a.bv[i]!).set i a.bv[aeF a.bv-1]!).length by rw [rc,rc];omega),g2,gv',ws,hs,U,D,<- oo,<- NV]
 rw [bB (show (i:Int)=((aeF a.bv-1:Nat):Int) by omega),lw dV]
 have ws:cd a.ar (a.bv[i]!).2.2.2.1 (-1)=a.ar.set (Ev.n a.bv[i]!) (-1):=rfl;simp only [lm,kr a.bv (aeF a.bv-1) (by omega),aj,gv,ws]
end
abbrev qX:=Int×Int×Int
theorem eZ.fit {a:aJ} (ok:eZ a):yT a:=by have bd:=ok.bd;have:=ok.so.fl;have:=ok.so.n2;exact ⟨by omega,by omega,by omega,fun w hw=>(ok.ev w hw).2.1⟩
theorem qp (l:List qX) (id:Int) (hl:(aeF l)<=1000000) (hs: ∀i j,i<j->j<aeF l->(l[i]!).1<(l[j]!).1):
 (∀k,k<aeF l->(l[k]!).1=id->aP l id ()=aeK ((k:Int),aeS))/\
 ((∀k,k<aeF l->(l[k]!).1≠id)-> ∃m,m<=aeF l/\(∀i,i<m->(l[i]!).1<id)/\(∀i,m<=i->i<aeF l->id<(l[i]!).1)/\aP l id ()=aeK ((m:Int),aeU)):=by
 obtain ⟨m,m1,m2,m3⟩:=Mf (fun i=>(l[i]!).1) id (aeF l) hs;have run:aP l id ()=ay aQ (l,id,((aeF l):Int),(m:Int),(m:Int)):=by
  unfold aP;refine Dl (body:=aQ) (fun lo hi=>(l,id,((aeF l):Int),(lo:Int),(hi:Int))) (aeF l) m (fun i=>(l[i]!).1<id) (fun lo hi h1 h2=>?_) m2 (fun i h1 h2 h3=>by have:=m3 i h1 h2;omega) (aeF l) 0 (aeF l) (by omega) (by omega) m1 (ww _);have e1:aeY ((lo:Int)<(hi:Int))=aeS:=aE (by omega);have hh:=acW (a:=lo) (b:=hi) (by omega) (by omega);unfold aQ qO;simp only [e1,lc,hh,ax l ((lo+hi) / 2) (by omega),kq,aj,aV (show (lo+hi) / 2<1000000000 by omega)];constructor
  · intro h
    have:aeY (jJ (l[(lo+hi) / 2]!).1 id<0)=aeS:=by rcases ef (l[(lo+hi) / 2]!).1 id with ⟨a,e⟩|⟨a,e⟩|⟨a,e⟩<;>rw [e]<;>first|rfl|omega
    rw [this];rfl
  intro h
  have:aeY (jJ (l[(lo+hi) / 2]!).1 id<0)=aeU:=by rcases ef (l[(lo+hi) / 2]!).1 id with ⟨a,e⟩|⟨a,e⟩|⟨a,e⟩<;>rw [e]<;>first|rfl|omega
  rw [this];rfl
 have fin:ay aQ (l,id,((aeF l):Int),(m:Int),(m:Int))=if m<aeF l/\(l[m]!).1=id then aeK ((m:Int),aeS) else aeK ((m:Int),aeU):=by
  have e1:aeY ((m:Int)<(m:Int))=aeU:=aC (by omega)
  by_cases hm:m<aeF l
  · have e2:aeY ((m:Int)<((aeF l):Int))=aeS:=aE (by omega)
    have body:aQ (l,id,((aeF l):Int),(m:Int),(m:Int))=aeK (.done ((m:Int),jJ (l[m]!).1 id==0)):=by unfold aQ qO;simp only [e1,e2,lc,lm,ax l m hm,kq,aj]
    rw [aI body];rcases ef (l[m]!).1 id with ⟨a,e⟩|⟨a,e⟩|⟨a,e⟩
    · rw [e,lw (fun h=>by omega)];rfl
    · rw [e,ls ⟨hm,a⟩];rfl
    rw [e,lw (fun h=>by omega)];rfl
  have e2:aeY ((m:Int)<((aeF l):Int))=aeU:=aC (by omega)
  have body:aQ (l,id,((aeF l):Int),(m:Int),(m:Int))=aeK (.done ((m:Int),aeU)):=by unfold aQ;simp only [e1,e2,lm]
  rw [aI body,lw (fun h=>hm h.1)]
 rw [run,fin];constructor
 · intro k hk he
   have hkm:k=m:=by
    rcases adc k m with h|h|h
    · have:=m2 k h;omega
    · exact h
    have h1:=m3 m (ww _) (by omega)
    have h2:=hs m k h hk;omega
   subst hkm;rw [ls ⟨hk,he⟩]
 intro h
 refine ⟨m,m1,m2,fun i h1 h2=>?_,?_⟩
 · have:=m3 i h1 h2
   have:=h i h2;omega
 rw [lw (fun k=>h m k.1 k.2)]
theorem ak1:dt=aP:=rfl
theorem Vr:df=aP:=rfl
theorem Ck:dj=aP:=rfl
theorem tB {α:Type} (l:List α) (k:Nat):l.eraseIdx k=l.take k++l.drop (k+1):=List.eraseIdx_eq_take_drop_succ l k
theorem yW (l:List qX) (k:Nat) (hk:k<aeF l): ∃L:List qX,ez ((k:Int),((k+1:Nat):Int),l)=aeK (aeF l-1,aeF l,L)/\L.take (aeF l-1)=l.eraseIdx k:=by
 unfold ez;have e1:aeY ((0:Int)<=(k:Int))=aeS:=aE (by omega);have e2:aeY ((k:Int)<=((k+1:Nat):Int))=aeS:=aE (by omega);have e3:aeY (((k+1:Nat):Int)<=((aeF l):Int))=aeS:=aE (by omega);have e4:aeY (((aeF l):Int)<=((aeF l):Int))=aeS:=aE (by omega);have e5:((k:Int)==((k+1:Nat):Int))=aeU:=dR (by omega);have e6:aeY ((0:Int)<=((k+1:Nat):Int))=aeS:=aE (by omega);have e7:aeY ((k:Int)<=((aeF l):Int))=aeS:=aE (by omega);have dr:(l.drop (k+1)).take (aeF l- (k+1))=l.drop (k+1):=If (by rw [adz];exact ww _);have dl:(l.drop (k+1)).length=aeF l- (k+1):=adz;simp only [aA,e1,e2,e3,e4,e5,e6,e7,aey,lc,lm,kr l k (by omega),aj,v6,Nat.zero_add,dr,dl,PP,Bool.and_true]
 by_cases h:k+1=aeF l
 · have em:(l.drop (k+1)).isEmpty=aeS:=by rw [ae8,ad6];omega
   have n1:aeD (aeF l-k) 0=aeU:=by
    cases hb:aeD (aeF l-k) 0 with
    |false=>rfl
    |true=>have:=adG hb;omega
   have n2:Nat.ble (k+(aeF l-k)) (aeF l)=aeS:=acl (by omega);have ll:(fA l k (ael (aeF l-k) ((0:Int),(0:Int),(0:Int)))).length=(aeF l):=by unfold fA;simp;omega
   simp only [em,lc,n1,lm,n2,ll,beq_self_eq_true];refine ⟨_,by rw [show k=aeF l-1 by omega],?_⟩;rw [tB,show (aeF l)-1=k by omega];unfold fA;rw [UV,IR (by rw [Do];omega),aem,aeE];rw [adC (by omega),aei]
 have em:(l.drop (k+1)).isEmpty=aeU:=by
  cases hb:(l.drop (k+1)).isEmpty with
  |false=>rfl
  |true=>rw [ae8,ad6] at hb;omega
 have n1:Nat.ble (k+(aeF l- (k+1))) (aeF l)=aeS:=acl (by omega);have n2:aeY ((0:Int)<=((k+(aeF l- (k+1)):Nat):Int))=aeS:=aE (by omega);have n3:aeY (((k+(aeF l- (k+1)):Nat):Int)<=((aeF l):Int))=aeS:=aE (by omega);have n4:aeD (aeF l- (k+(aeF l- (k+1)))) 0=aeU:=by
  cases hb:aeD (aeF l- (k+(aeF l- (k+1)))) 0 with
  |false=>rfl
  |true=>have:=adG hb;omega
 have l1:(fA l k (l.drop (k+1))).length=(aeF l):=by unfold fA;simp;omega
 have n5:Nat.ble (k+(aeF l- (k+1))+(aeF l- (k+(aeF l- (k+1))))) (aeF l)=aeS:=acl (by omega);have l2:(fA (fA l k (l.drop (k+1))) (k+(aeF l- (k+1))) (ael (aeF l- (k+(aeF l- (k+1)))) ((0:Int),(0:Int),(0:Int)))).length=(aeF l):=by unfold fA;simp;omega
 simp only [em,lm,n1,lc,n2,n3,aey,n4,l1,n5,l2,beq_self_eq_true];refine ⟨_,by rw [show k+(aeF l- (k+1))=aeF l-1 by omega],?_⟩;rw [tB];have:k+(aeF l- (k+1))=aeF l-1:=by omega
 unfold fA;rw [UV,IR (by simp;omega),aem,aeE,UV];rw [show (l.take k++(l.drop (k+1)++l.drop (k+(l.drop (k+1)).length)))=(l.take k++l.drop (k+1))++l.drop (k+(l.drop (k+1)).length) by rw [UV]];rw [IR (by simp;omega),If (by simp;omega)]
theorem ON:iz=ez:=rfl
theorem xx {α:Type} [Inhabited α] {l:List α} {k i:Nat}:(l.eraseIdx k)[i]! =if i<k then l[i]! else l[i+1]!:=by
 rw [tB]
 by_cases hk:k<aeF l
 · by_cases h:i<k
   · rw [ls h,dv (by rw [Do];omega),je h]
   rw [lw h,eK (by rw [Do];omega),mJ,Do]
   congr 1;omega
 have e1:l.take k=l:=If (by omega)
 have e2:l.drop (k+1)=[]:=adC (by omega);rw [e1,e2,aei];split
 · rfl
 rw [getElem!_neg l i (by omega),getElem!_neg l (i+1) (by omega)]
def fL (x:Int×Int):Prop:=0<=x.1/\x.1<=65535/\0<=x.2/\x.2<=65535/\x.1≠x.2
theorem Ao (x:Int×Int):s6 x=aeK (aeY (fL x)):=by
 obtain ⟨a,b⟩:=x;unfold s6;dsimp only
 by_cases h1:0<=a
 · by_cases h3:0<=b
   · have e1:aeY (0<=if b<a then b else a)=aeS:=aE (by split<;>omega)
     rw [e1]
     by_cases h2:a<=65535
     · by_cases h4:b<=65535
       · have e2:aeY ((if b>a then b else a)<=65535)=aeS:=aE (by split<;>omega)
         rw [e2]
         by_cases h5:a=b
         · rw [bB h5,aC (p:=fL (a,b)) (fun h=>h.2.2.2.2 h5)];rfl
         rw [cS h5,aE (p:=fL (a,b)) ⟨h1,h2,h3,h4,h5⟩];rfl
       have e2:aeY ((if b>a then b else a)<=65535)=aeU:=aC (by split<;>omega)
       rw [e2,aC (p:=fL (a,b)) (fun h=>h4 h.2.2.2.1)];rfl
     have e2:aeY ((if b>a then b else a)<=65535)=aeU:=aC (by split<;>omega)
     rw [e2,aC (p:=fL (a,b)) (fun h=>h2 h.2.1)];rfl
   have e1:aeY (0<=if b<a then b else a)=aeU:=aC (by split<;>omega)
   rw [e1,aC (p:=fL (a,b)) (fun h=>h3 h.2.2.1)];rfl
 have e1:aeY (0<=if b<a then b else a)=aeU:=aC (by split<;>omega)
 rw [e1,aC (p:=fL (a,b)) (fun h=>h1 h.1)];rfl
theorem Ap (x:Int×Int):s5 x=aeK (aeY (fL x)):=by
 obtain ⟨a,b⟩:=x;unfold s5;dsimp only
 by_cases h1:0<=a
 · by_cases h2:a<=65535
   · by_cases h3:0<=b
     · by_cases h4:b<=65535
       · by_cases h5:a=b
         · rw [bB h5,aE h1,aE h2,aE h3,aE h4,aC (p:=fL (a,b)) (fun h=>h.2.2.2.2 h5)];rfl
         rw [cS h5,aE h1,aE h2,aE h3,aE h4,aE (p:=fL (a,b)) ⟨h1,h2,h3,h4,h5⟩];rfl
       rw [aE h1,aE h2,aE h3,aC h4,aC (p:=fL (a,b)) (fun h=>h4 h.2.2.2.1)];rfl
     rw [aE h1,aE h2,aC h3,aC (p:=fL (a,b)) (fun h=>h3 h.2.2.1)];rfl
   rw [aE h1,aC h2,aC (p:=fL (a,b)) (fun h=>h2 h.2.1)];rfl
 rw [aC h1,aC (p:=fL (a,b)) (fun h=>h1 h.1)];rfl
structure eW (c:bF):Prop where
 len:(aeF c.ce)<=200
 n0:0<=c.aN
 n1:c.aN<=1000000
 cv: ∀i,i<aeF c.ce->fL (c.ce[i]!).2
 nr: ∀i,i<aeF c.ce->0<=(c.ce[i]!).1/\(c.ce[i]!).1<c.aN
 up: ∀i j,i<j->j<aeF c.ce->(c.ce[i]!).1<(c.ce[j]!).1
 nd: ∀i j,i<j->j<aeF c.ce->(c.ce[i]!).2≠(c.ce[j]!).2
def yX (l:List qX) (i:Nat):Int:=if i=0 then -1 else (l[i-1]!).1
def OO (c:bF) (i:Nat):Prop:=fL (c.ce[i]!).2/\(∀j,j<i->(c.ce[j]!).2≠(c.ce[i]!).2)/\yX c.ce i<(c.ce[i]!).1/\(c.ce[i]!).1<c.aN
theorem eW.iff {c:bF} (h1:(aeF c.ce)<=200) (h2:0<=c.aN) (h3:c.aN<=1000000):eW c↔ ∀i,i<aeF c.ce->OO c i:=by
 constructor
 · intro ok i hi
   refine ⟨ok.cv i hi,fun j hj=>ok.nd j i hj hi,?_,(ok.nr i hi).2⟩;unfold yX;split
   · have:=(ok.nr i hi).1;omega
   exact ok.up (i-1) i (by omega) hi
 intro h
 have low: ∀i,i<aeF c.ce->0<=(c.ce[i]!).1:=by
  intro i
  induction i with
  |zero=>intro hi;have:=(h 0 hi).2.2.1;unfold yX at this;rw [ls rfl] at this;omega
  |succ i ih=>intro hi;have h1:=(h (i+1) hi).2.2.1;unfold yX at h1;rw [lw (by omega),show i+1-1=i by omega] at h1;have:=ih (by omega);omega
 have up: ∀i j,i<j->j<aeF c.ce->(c.ce[i]!).1<(c.ce[j]!).1:=by
  intro i j
  induction j with
  |zero=>intro h;omega
  |succ j ih=>
   intro lL hj;have h1:=(h (j+1) hj).2.2.1;unfold yX at h1;rw [lw (by omega),show j+1-1=j by omega] at h1
   by_cases e:i=j
   · subst e;exact h1
   have:=ih (by omega) (by omega)
   omega
 exact ⟨h1,h2,h3,fun i hi=>(h i hi).1,fun i hi=>⟨low i hi,(h i hi).2.2.2⟩,up,fun i j lL hj=>(h j hj).2.1 i lL⟩
theorem GH (l:List qX) (k:Nat) (a b:Int):oH [a,b] ((l.take k).map fun x=>[x.2.1,x.2.2])=aeS:=by unfold oH;rw [List.all_eq_true];intro x hx;obtain ⟨y,hy,rfl⟩:=NE.1 hx;rfl
theorem GI (l:List qX) (k:Nat) (x:Int×Int):Eg ((l.take k).map fun y=>[y.2.1,y.2.2]) [x.1,x.2]=aeY (∃j,j<k/\j<aeF l/\(l[j]!).2=x):=by
 unfold Eg;rw [adF,List.any_eq_true,decide_eq_true_iff];constructor
 · rintro ⟨y,hy,he⟩
   obtain ⟨z,hz,rfl⟩:=NE.1 hy;obtain ⟨j,h1,h2,rfl⟩:=cw.1 hz;have:[x.1,x.2]=[(l[j]!).2.1,(l[j]!).2.2]:=by simpa using he
   injection this with e1 e2;injection e2 with e2 _;exact ⟨j,h1,h2,M2 e1.symm e2.symm⟩
 rintro ⟨j,h1,h2,h3⟩
 refine ⟨[(l[j]!).2.1,(l[j]!).2.2],NE.2 ⟨l[j]!,cw.2 ⟨j,h1,h2,rfl⟩,rfl⟩,?_⟩;rw [h3];simp
theorem vu (c:bF):pJ c=aeK (if eW c then 0 else 8):=by
 unfold pJ;simp only [aA]
 by_cases h1:200<aeF c.ce
 · rw [aE (show (200:Int)<((aeF c.ce):Int) by omega),lw (fun h=>by have:=h.len;omega)];rfl
 rw [aC (show¬(200:Int)<((aeF c.ce):Int) by omega)]
 by_cases h2:c.aN<0
 · rw [aE h2,lw (fun h=>by have:=h.n0;omega)];rfl
 rw [aC h2]
 by_cases h3:1000000<c.aN
 · rw [aE h3,lw (fun h=>by have:=h.n1;omega)];rfl
 rw [aC h3];simp only [lm];have key:=dy (body:=qd) (fun i=>(yX c.ce i,c.ce,((aeF c.ce):Int),(i:Int),c.aN,c.ce,(c.ce.take i).map fun x=>[x.2.1,x.2.2])) (aeF c.ce) (fun i=> ¬OO c i) (r:=8) (e:=0) (fun i hi=>by
  have e1:aeY ((i:Int)<((aeF c.ce):Int))=aeS:=aE (by omega);have has:Lr ((c.ce.take i).map fun x=>[x.2.1,x.2.2]) [(c.ce[i]!).2.1,(c.ce[i]!).2.2]=aeK (aeY (∃j,j<i/\j<aeF c.ce/\(c.ce[j]!).2=(c.ce[i]!).2)):=by unfold Lr;rw [GH,GI];rfl
  have nx:(c.ce.take (i+1)).map (fun x=>[x.2.1,x.2.2])=((c.ce.take i).map fun x=>[x.2.1,x.2.2])++[[(c.ce[i]!).2.1,(c.ce[i]!).2.2]]:=by rw [gI hi,List.map_append];rfl
  have ln:yX c.ce (i+1)=(c.ce[i]!).1:=by unfold yX;rw [lw (by omega),show i+1-1=i by omega]
  unfold qd;simp only [e1,lc,ax c.ce i hi,aj,Ao,has,nx,ln,aV (show i<1000000000 by omega)];unfold OO
  by_cases b1:fL (c.ce[i]!).2
  case neg=>rw [aC b1];exact ⟨fun _=>rfl,fun h=>absurd (pp.1 h).1 b1⟩
  rw [aE b1]
  by_cases b2: ∃j,j<i/\j<aeF c.ce/\(c.ce[j]!).2=(c.ce[i]!).2
  · rw [aE b2]
    refine ⟨fun _=>rfl,fun h=>?_⟩;obtain ⟨j,j1,j2,j3⟩:=b2;exact absurd j3 ((pp.1 h).2.1 j j1)
  rw [aC b2];have b2': ∀j,j<i->(c.ce[j]!).2≠(c.ce[i]!).2:=fun j hj he=>b2 ⟨j,hj,by omega,he⟩
  by_cases b3:(c.ce[i]!).1<=yX c.ce i
  · rw [aE b3]
    exact ⟨fun _=>rfl,fun h=>absurd (pp.1 h).2.2.1 (by omega)⟩
  rw [aC b3]
  by_cases b4:c.aN<=(c.ce[i]!).1
  · rw [aE b4]
    exact ⟨fun _=>rfl,fun h=>absurd (pp.1 h).2.2.2 (by omega)⟩
  rw [aC b4];have ins:Ls ((c.ce.take i).map fun x=>[x.2.1,x.2.2]) [(c.ce[i]!).2.1,(c.ce[i]!).2.2]=aeK (((c.ce.take i).map fun x=>[x.2.1,x.2.2])++[[(c.ce[i]!).2.1,(c.ce[i]!).2.2]]):=by unfold Ls NK;rw [GH,GI,aC b2];rfl
  rw [ins];exact ⟨fun h=>absurd ⟨b1,b2',by omega,by omega⟩ h,fun _=>rfl⟩) (by
  unfold qd;have:aeY (((aeF c.ce):Int)<((aeF c.ce):Int))=aeU:=aC (by omega);simp only [this,lm])
 have h0:yX c.ce 0= -1:=rfl;rw [h0] at key
 by_cases ok:eW c
 · rw [ls ok]
   exact key.2 fun i hi=>pp.2 ((eW.iff (by omega) (by omega) (by omega)).1 ok i hi)
 rw [lw ok]
 rw [eW.iff (by omega) (by omega) (by omega)] at ok;obtain ⟨i,h⟩:=AC.1 ok;obtain ⟨hi,hx⟩:=EQ.1 h;exact key.1 ⟨i,hi,hx⟩
theorem Ms (c:bF) (i:Nat) (hi:i<aeF c.ce) (hl:(aeF c.ce)<=200):
 ((∃j,j<i/\(c.ce[j]!).2=(c.ce[i]!).2)->ay fX ((i:Int),0,c.aN,c.ce,c.ce[i]!)=aeK (.done 8))/\
 ((∀j,j<i-> ¬(c.ce[j]!).2=(c.ce[i]!).2)->ay fX ((i:Int),0,c.aN,c.ce,c.ce[i]!)=aeK (.next (((i+1:Nat):Int),c.aN,c.ce))):=by
 refine dy (body:=fX) (fun j=>((i:Int),(j:Int),c.aN,c.ce,c.ce[i]!)) i (fun j=>(c.ce[j]!).2=(c.ce[i]!).2) (r:= .done 8) (e:= .next (((i+1:Nat):Int),c.aN,c.ce)) (fun j hj=>?_) ?_
 · have e1:aeY ((j:Int)<(i:Int))=aeS:=aE (by omega)
   unfold fX;simp only [e1,lc,ax c.ce j (by omega),aj,aV (show j<1000000000 by omega)];generalize c.ce[j]! =x;generalize c.ce[i]! =y;constructor
   · intro h;rw [dp (congrArg aet h),dp (congrArg aev h)];rfl
   intro h
   by_cases h1:x.2.1=y.2.1
   · rw [dp h1,dR (fun h2=>h (M2 h1 h2))];rfl
   rw [dR h1];rfl
 unfold fX
 have:aeY ((i:Int)<(i:Int))=aeU:=aC (by omega);simp only [this,lm,aV (show i<1000000000 by omega)]
theorem yY (c:bF):qM c=aeK (if eW c then 0 else 8):=by
 unfold qM;simp only [aA]
 by_cases h1:200<aeF c.ce
 · rw [aE (show (200:Int)<((aeF c.ce):Int) by omega),lw (fun h=>by have:=h.len;omega)];rfl
 rw [aC (show¬(200:Int)<((aeF c.ce):Int) by omega)]
 by_cases h2:c.aN<0
 · rw [aE h2,lw (fun h=>by have:=h.n0;omega)];rfl
 rw [aC h2]
 by_cases h3:1000000<c.aN
 · rw [aE h3,lw (fun h=>by have:=h.n1;omega)];rfl
 rw [aC h3];simp only [lm];have key:=dy (body:=oN) (fun i=>((i:Int),c.aN,c.ce)) (aeF c.ce) (fun i=> ¬(fL (c.ce[i]!).2/\0<=(c.ce[i]!).1/\(c.ce[i]!).1<c.aN/\(0<i->(c.ce[i-1]!).1<(c.ce[i]!).1)/\ ∀j,j<i-> ¬(c.ce[j]!).2=(c.ce[i]!).2)) (r:=8) (e:=0) (fun i hi=>by
  have e1:aeY ((i:Int)<((aeF c.ce):Int))=aeS:=aE (by omega);have l1:=Ms c i hi (by omega);unfold oN;simp only [aA,e1,lc,ax c.ce i hi,aj,Ap]
  by_cases b1:fL (c.ce[i]!).2
  case neg=>rw [aC b1];exact ⟨fun _=>rfl,fun h=>absurd (pp.1 h).1 b1⟩
  rw [aE b1]
  by_cases b2:(c.ce[i]!).1<0
  · rw [aE b2]
    exact ⟨fun _=>rfl,fun h=>absurd (pp.1 h).2.1 (by omega)⟩
  rw [aC b2]
  by_cases b3:c.aN<=(c.ce[i]!).1
  · rw [aE b3]
    exact ⟨fun _=>rfl,fun h=>absurd (pp.1 h).2.2.1 (by omega)⟩
  rw [aC b3];simp only [ut,lm];have go:(0<i->(c.ce[i-1]!).1<(c.ce[i]!).1)->(¬(fL (c.ce[i]!).2/\0<=(c.ce[i]!).1/\(c.ce[i]!).1<c.aN/\(0<i->(c.ce[i-1]!).1<(c.ce[i]!).1)/\ ∀j,j<i-> ¬(c.ce[j]!).2=(c.ce[i]!).2)->ay fX ((i:Int),0,c.aN,c.ce,c.ce[i]!)=aeK (.done 8))/\
   (¬¬(fL (c.ce[i]!).2/\0<=(c.ce[i]!).1/\(c.ce[i]!).1<c.aN/\(0<i->(c.ce[i-1]!).1<(c.ce[i]!).1)/\ ∀j,j<i-> ¬(c.ce[j]!).2=(c.ce[i]!).2)->ay fX ((i:Int),0,c.aN,c.ce,c.ce[i]!)=aeK (.next (((i+1:Nat):Int),c.aN,c.ce))):=by
   intro hp;constructor
   · intro h
     refine l1.1 (Classical.byContradiction fun hx=>h ⟨b1,by omega,by omega,hp,fun j hj he=>hx ⟨j,hj,he⟩⟩)
   intro h
   exact l1.2 (pp.1 h).2.2.2.2
  by_cases b4:0<i
  · have f1:aeY ((0:Int)<(i:Int))=aeS:=aE (by omega)
    simp only [f1,lc,nq (show i<1000000000 by omega) b4,ax c.ce (i-1) (by omega),aj]
    by_cases b5:(c.ce[i]!).1<=(c.ce[i-1]!).1
    · rw [aE b5]
      exact ⟨fun _=>rfl,fun h=>absurd ((pp.1 h).2.2.2.1 b4) (by omega)⟩
    rw [aC b5]
    exact go fun _=>by omega
  · have f1:aeY ((0:Int)<(i:Int))=aeU:=aC (by omega)
    rw [f1];exact go fun h=>absurd h b4) (by
  unfold oN;have:aeY (((aeF c.ce):Int)<((aeF c.ce):Int))=aeU:=aC (by omega);simp only [aA,this,lm])
 have same:eW c↔ ∀i,i<aeF c.ce->(fL (c.ce[i]!).2/\0<=(c.ce[i]!).1/\(c.ce[i]!).1<c.aN/\(0<i->(c.ce[i-1]!).1<(c.ce[i]!).1)/\ ∀j,j<i-> ¬(c.ce[j]!).2=(c.ce[i]!).2):=by
  constructor
  · intro ok i hi
    exact ⟨ok.cv i hi,(ok.nr i hi).1,(ok.nr i hi).2,fun h=>ok.up (i-1) i (by omega) hi,fun j hj=>ok.nd j i hj hi⟩
  intro h
  rw [eW.iff (by omega) (by omega) (by omega)];intro i hi;obtain ⟨a1,a2,a3,a4,a5⟩:=h i hi;refine ⟨a1,a5,?_,a3⟩;unfold yX;split
  · omega
  exact a4 (by omega)
 by_cases ok:eW c
 · rw [ls ok]
   exact key.2 fun i hi=>pp.2 (same.1 ok i hi)
 rw [lw ok]
 rw [same] at ok;obtain ⟨i,h⟩:=AC.1 ok;obtain ⟨hi,hx⟩:=EQ.1 h;exact key.1 ⟨i,hi,hx⟩
def rG (l:List qX) (x:Int×Int):Prop:= ∃i,i<aeF l/\(l[i]!).2=x
theorem Mt (l:List qX) (x:Int×Int) (hl:(aeF l)<=1000000):cH l x=aeK (aeY (rG l x)):=by
 unfold cH fQ;have key:=iD (body:=dD) (fun i=>(l,x.1,x.2,((aeF l):Int),(i:Int))) (aeF l) (fun i=>(l[i]!).2=x) (fun i=>(i:Int)) (e:= -1) (fun i hi=>by
  have e1:aeY ((i:Int)<((aeF l):Int))=aeS:=aE (by omega);unfold dD A5;simp only [e1,lc,ax l i hi,aj,aV (show i<1000000000 by omega)];generalize l[i]! =y;constructor
  · intro h;rw [dp (congrArg aet h),dp (congrArg aev h)];rfl
  · intro h
    by_cases h1:y.2.1=x.1
    · rw [dp h1,dR (fun h2=>h (M2 h1 h2))];rfl
    rw [dR h1];rfl) (by
  unfold dD;have:aeY (((aeF l):Int)<((aeF l):Int))=aeU:=aC (by omega);simp only [this,lm])
 rw [aA]
 by_cases hx:rG l x
 · obtain ⟨k,h1,h2,h3⟩:=least hx
   have:=key.1 k h1 h2 h3;rw [show ((0:Nat):Int)=0 from rfl] at this;rw [this,aE hx];simp only [aj,aE (show (0:Int)<=(k:Int) by omega)]
 have:=key.2 fun i hi he=>hx ⟨i,hi,he⟩
 rw [show ((0:Nat):Int)=0 from rfl] at this;rw [this,aC hx];rfl
theorem Dt:eu=cH:=rfl
theorem xy (c:bF) (x:Int×Int) (hl:(aeF c.ce)<=1000000):sL c x=aeK (aeY (rG c.ce x)):=by
 unfold sL;have key:=dy (body:=sg) (fun i=>((i:Int),c.aN,c.ce,x)) (aeF c.ce) (fun i=>(c.ce[i]!).2=x) (r:=aeS) (e:=aeU) (fun i hi=>by
  have e1:aeY ((i:Int)<((aeF c.ce):Int))=aeS:=aE (by omega);unfold sg;simp only [aA,e1,lc,ax c.ce i hi,aj,aV (show i<1000000000 by omega)];generalize c.ce[i]! =y;constructor
  · intro h;rw [dp (congrArg aet h),dp (congrArg aev h)];rfl
  · intro h
    by_cases h1:y.2.1=x.1
    · rw [dp h1,dR (fun h2=>h (M2 h1 h2))];rfl
    rw [dR h1];rfl) (by
  unfold sg;have:aeY (((aeF c.ce):Int)<((aeF c.ce):Int))=aeU:=aC (by omega);simp only [aA,this,lm])
 by_cases hx:rG c.ce x
 · rw [aE hx];exact key.1 hx
 rw [aC hx];exact key.2 fun i hi he=>hx ⟨i,hi,he⟩
def o7 (c:bF) (x:Int×Int):bF:=⟨c.aN+1,c.ce++[(c.aN,x)]⟩
def Cl (c:bF):Prop:=aeF c.ce=200\/c.aN=1000000
theorem Mu {c:bF} (ok:eW c) {x:Int×Int} (hx:fL x):B9 c x=aeK (if rG c.ce x then (⟨0,[]⟩,0,14) else if Cl c then (⟨0,[]⟩,0,18) else (o7 c x,c.aN,0)):=by
 have:=ok.len;have:=ok.n0;have:=ok.n1;unfold B9;rw [vu,ls ok,Ao,aE hx,Mt _ _ (by omega)];simp only [aj,show ((0:Int) !=0)=aeU from rfl,lm,ut,aA]
 by_cases h1:rG c.ce x
 · rw [aE h1,ls h1];rfl
 rw [aC h1,lw h1];unfold Cl
 by_cases h2:(aeF c.ce)=200
 · rw [dp (show ((aeF c.ce):Int)=200 by omega),ls (.inl h2)];rfl
 rw [dR (show¬((aeF c.ce):Int)=200 by omega)]
 by_cases h3:c.aN=1000000
 · rw [dp h3,ls (.inr h3)];rfl
 rw [dR h3,lw (by omega)];have e:aa .i64 (c.aN+1)=c.aN+1:=by rw [wi];omega
 simp only [lm,bm (show (aeF c.ce)<=1048576 by omega),aj,dJ (show (aeF c.ce)+[(c.aN,x)].length<=1048576 by simp;omega),e];rfl
theorem Kh {c:bF} (ok:eW c) {x:Int×Int} (hx:fL x):zA c x=aeK (if rG c.ce x then (⟨0,[]⟩,0,14) else if Cl c then (⟨0,[]⟩,0,18) else (o7 c x,c.aN,0)):=by
 have:=ok.len;have:=ok.n0;have:=ok.n1;unfold zA pF;rw [yY,ls ok,Ap,aE hx,xy _ _ (by omega)];simp only [aj,show ((0:Int) !=0)=aeU from rfl,lm,ut,aA]
 by_cases h1:rG c.ce x
 · rw [aE h1,ls h1];rfl
 rw [aC h1,lw h1];unfold Cl
 by_cases h2:(aeF c.ce)=200
 · rw [dp (show ((aeF c.ce):Int)=200 by omega),ls (.inl h2)];rfl
 rw [dR (show¬((aeF c.ce):Int)=200 by omega)]
 by_cases h3:c.aN=1000000
 · rw [dp h3,ls (.inr h3)];rfl
 rw [dR h3,lw (by omega)];have e:aa .i64 (c.aN+1)=c.aN+1:=by rw [wi];omega
 simp only [lm,bm (show (aeF c.ce)<=1048576 by omega),aj,dJ (show (aeF c.ce)+[(c.aN,x)].length<=1048576 by simp;omega),e];rfl
theorem tC {c:bF} {x:Int×Int} {i:Nat}:(o7 c x).ce[i]! =if i<(aeF c.ce) then c.ce[i]! else if i=(aeF c.ce) then (c.aN,x) else default:=by
 show (c.ce++[(c.aN,x)])[i]! =_
 by_cases h:i<aeF c.ce
 · rw [ls h,dv h]
 rw [lw h,eK (by omega)]
 by_cases e:i=aeF c.ce
 · rw [ls e,e,adB];rfl
 rw [lw e,getElem!_neg _ _ (by simp;omega)]
theorem zL {c:bF} {x:Int×Int}:(o7 c x).ce.length=aeF c.ce+1:=by show (c.ce++[(c.aN,x)]).length=_;simp
theorem OP {c:bF} (ok:eW c) {x:Int×Int} (hx:fL x) (hn: ¬rG c.ce x) (hf: ¬Cl c):eW (o7 c x):=by
 have h1:=ok.len;have h2:=ok.n0;have h3:=ok.n1;unfold Cl at hf;refine ⟨by rw [zL];omega,by show 0<=c.aN+1;omega,by show c.aN+1<=1000000;omega,?_,?_,?_,?_⟩
 · intro i hi
   rw [zL] at hi;rw [tC]
   by_cases h:i<aeF c.ce
   · rw [ls h];exact ok.cv i h
   rw [lw h,ls (by omega)];exact hx
 · intro i hi
   rw [zL] at hi;rw [tC];show 0<=_/\_<c.aN+1
   by_cases h:i<aeF c.ce
   · rw [ls h];have:=ok.nr i h;omega
   rw [lw h,ls (by omega)];dsimp only;omega
 · intro i j lL hj
   rw [zL] at hj;rw [tC,tC,ls (by omega)]
   by_cases h:j<aeF c.ce
   · rw [ls h];exact ok.up i j lL h
   rw [lw h,ls (by omega)]
   exact (ok.nr i (by omega)).2
 intro i j lL hj
 rw [zL] at hj;rw [tC,tC,ls (by omega)]
 by_cases h:j<aeF c.ce
 · rw [ls h];exact ok.nd i j lL h
 rw [lw h,ls (by omega)]
 exact fun he=>hn ⟨i,by omega,he⟩
def mL (c:bF) (k:Nat):bF:=⟨c.aN,c.ce.eraseIdx k⟩
theorem zM {α:Type} {l:List α} {k:Nat} (hk:k<aeF l):(l.eraseIdx k).length=aeF l-1:=by rw [List.length_eraseIdx,ls hk]
theorem GJ {c:bF} (ok:eW c) {k:Nat} (hk:k<aeF c.ce):eW (mL c k):=by
 have h1:=ok.len;have len:(mL c k).ce.length=aeF c.ce-1:=zM hk;have cell: ∀i,∃j,i<=j/\j<=i+1/\(i<aeF c.ce-1->j<aeF c.ce)/\(mL c k).ce[i]! =c.ce[j]!/\(i<k->j=i)/\(k<=i->j=i+1):=by
  intro i
  by_cases h:i<k
  · exact ⟨i,by omega,by omega,by omega,by show (c.ce.eraseIdx k)[i]! =_;rw [xx,ls h],fun _=>rfl,by omega⟩
  exact ⟨i+1,by omega,by omega,by omega,by show (c.ce.eraseIdx k)[i]! =_;rw [xx,lw h],by omega,fun _=>rfl⟩
 refine ⟨by omega,ok.n0,ok.n1,?_,?_,?_,?_⟩
 · intro i hi
   obtain ⟨j,j1,j2,j3,j4,j5,j6⟩:=cell i;rw [j4];exact ok.cv j (j3 (by omega))
 · intro i hi
   obtain ⟨j,j1,j2,j3,j4,j5,j6⟩:=cell i;rw [j4];exact ok.nr j (j3 (by omega))
 · intro i i' lL hi
   obtain ⟨j,j1,j2,j3,j4,j5,j6⟩:=cell i;obtain ⟨m,m1,m2,m3,m4,m5,m6⟩:=cell i';rw [j4,m4];exact ok.up j m (by omega) (m3 (by omega))
 intro i i' lL hi
 obtain ⟨j,j1,j2,j3,j4,j5,j6⟩:=cell i;obtain ⟨m,m1,m2,m3,m4,m5,m6⟩:=cell i';rw [j4,m4];exact ok.nd j m (by omega) (m3 (by omega))
theorem GK {c:bF} (ok:eW c) {k:Nat} (hk:k<aeF c.ce) {n:Int} (hn:(c.ce[k]!).1=n):uC c n=aeK (mL c k,(c.ce[k]!).2,0):=by have h1:=ok.len;unfold uC Di;obtain ⟨L,d1,d2⟩:=yW c.ce k hk;rw [vu,ls ok,(qp c.ce n (by omega) ok.up).1 k hk hn];simp only [aj,show ((0:Int) !=0)=aeU from rfl,lm,ut,bm (show (aeF c.ce)<=1048576 by omega),aV (show k<1000000000 by omega),d1,ax c.ce k hk,d2];rfl
theorem Ki {l:List qX} {k:Nat} (hk:k<aeF l) (hs: ∀i j,i<j->j<aeF l->(l[i]!).1<(l[j]!).1) {n:Int} (hn:(l[k]!).1=n):l.filter (fun x=>x.1 !=n)=l.eraseIdx k:=by
 rw [tB];have e:l.filter (fun x=>x.1 !=n)=(l.take k++l[k]!::l.drop (k+1)).filter (fun x=>x.1 !=n):=congrArg _ (U8 hk);rw [e,adN,List.filter_cons_of_neg (by rw [hn];simp)]
 congr 1
 · rw [adI]
   intro x hx;obtain ⟨i,h1,h2,rfl⟩:=cw.1 hx;have:=hs i k h1 hk;exact cS (by omega)
 rw [adI]
 intro x hx;obtain ⟨i,h1,rfl⟩:=aO.1 hx;rw [adz] at h1;rw [mJ];have:=hs k (k+1+i) (by omega) (by omega);exact cS (by omega)
theorem Du {c:bF} (ok:eW c) {k:Nat} (hk:k<aeF c.ce) {n:Int} (hn:(c.ce[k]!).1=n):p7 c n=aeK (mL c k):=by
 have h1:=ok.len;unfold p7;have key:=eJ (body:=jX) (fun i=>(n,(i:Int),c.aN,c.ce,0,c.aN,(c.ce.take i).filter (fun x=>x.1 !=n))) (aeF c.ce) (fun i hi=>by
  have e1:aeY ((i:Int)<((aeF c.ce):Int))=aeS:=aE (by omega);have nx:(c.ce.take (i+1)).filter (fun x=>x.1 !=n)=(c.ce.take i).filter (fun x=>x.1 !=n)++(if (c.ce[i]!).1 !=n then [c.ce[i]!] else []):=by rw [gI hi,adN,List.filter_cons,List.filter_nil]
  have fl:((c.ce.take i).filter (fun x=>x.1 !=n)).length<=200:=aez (List.length_filter_le _ _) (by rw [Do];omega);unfold jX;simp only [aA,e1,lc,ax c.ce i hi,aj,aV (show i<1000000000 by omega),nx]
  by_cases h:(c.ce[i]!).1=n
  · rw [bB h];simp
  rw [cS h]
  simp only [lc,if_true,dJ (show ((c.ce.take i).filter (fun x=>x.1 !=n)).length+[c.ce[i]!].length<=1048576 by simp only [ae7,aeh];omega),aj])
 have fin:jX (n,((aeF c.ce):Int),c.aN,c.ce,0,c.aN,(c.ce.take (aeF c.ce)).filter (fun x=>x.1 !=n))=aeK (.done (mL c k)):=by unfold jX;have:aeY (((aeF c.ce):Int)<((aeF c.ce):Int))=aeU:=aC (by omega);simp only [aA,this,lm,List.take_length];rw [Ki hk ok.up hn];rfl
 refine Eq.trans ?_ (aI fin);exact key
def gx (l:List Pt) (id:Int):Prop:= ∃k,k<aeF l/\(l[k]!).1=id
noncomputable def gl (l:List Pt) (id:Int):Pt:=if h:gx l id then l[h.choose]! else (-1,0,0)
theorem xz {l:List Pt} (hs:gi l) {k:Nat} (hk:k<aeF l) {id:Int} (h:(l[k]!).1=id):gl l id=l[k]!:=by have hp:gx l id:=⟨k,hk,h⟩;unfold gl;rw [dif_pos hp];have:=hp.choose_spec;rw [xp hs this.1 hk (by rw [this.2,h])]
theorem di {l:List Pt} (ok:bC l) {id:Int} (h:gx l id):eY (gl l id)/\(gl l id).1=id:=by obtain ⟨k,hk,he⟩:=h;rw [xz ok.2.2 hk he];exact ⟨ok.2.1 _ (bn hk),he⟩
theorem Dv {l:List Pt} {id:Int} (h: ¬gx l id):gl l id=(-1,0,0):=by unfold gl;rw [dif_neg h]
theorem mu {l:List Pt} (ok:bC l) (id:Int):jo ⟨l⟩ id=aeK (gl l id):=by
 have h1:=ok.1;have bs:=qp l id (by omega) (fun i j=>eV ok.2.2);unfold jo;dsimp only;rw [Vr]
 by_cases h:gx l id
 · obtain ⟨k,hk,he⟩:=h
   rw [bs.1 k hk he];simp only [aj,ut,lm,ax l k hk,xz ok.2.2 hk he]
 obtain ⟨m,m1,m2,m3,e⟩:=bs.2 (fun k hk he=>h ⟨k,hk,he⟩)
 rw [e,Dv h];rfl
theorem xA {l:List Pt} (ok:bC l) {id:Int} (h:gx l id): ∃k,k<aeF l/\gG ⟨l⟩ id=aeK (k:Int)/\l[k]! =gl l id:=by have h1:=ok.1;obtain ⟨k,hk,he⟩:=h;exact ⟨k,hk,RO ok.2.2 (by omega) hk he,(xz ok.2.2 hk he).symm⟩
theorem OQ {l:List Pt} (ok:bC l) {id:Int} (h: ¬gx l id):gG ⟨l⟩ id=aeK (-1):=by have h1:=ok.1;exact ac0 (by omega) fun k hk he=>h ⟨k,hk,he⟩
def iX (l:List Pt) (x:Int×Int):Prop:=gx l x.1/\gx l x.2
noncomputable def bE (l:List Pt) (x t:Int×Int):(Int×Int)×Bool:=k8 (gl l x.2) (gl l x.1) t
theorem vv {l:List Pt} (ok:bC l) {x t:Int×Int} (hx:fL x) (ht:bK t) (h64:lM t):
 pN ⟨l⟩ x t=aeK (if iX l x then ((bE l x t).1,(bE l x t).2,0) else ((0,0),aeU,8)):=by
 unfold pN;rw [mu ok,mu ok];simp only [aj,El h64];have bad: ¬eY (-1,0,0):=by unfold eY;dsimp only;omega
 by_cases h1:gx l x.1
 · by_cases h2:gx l x.2
   · obtain ⟨p1,p2⟩:=di ok h1
     obtain ⟨q1,q2⟩:=di ok h2;rw [ls ⟨q1,p1,ht,by rw [p2,q2];exact fun h=>hx.2.2.2.2 h.symm⟩,ls ⟨h1,h2⟩];rfl
   rw [Dv h2,lw (fun h=>bad h.1),lw (fun h=>bad h.1),lw (fun h=>h2 h.2)]
 rw [Dv h1,lw (fun h=>bad h.2.1),lw (fun h=>bad h.2.1),lw (fun h=>h1 h.1)]
theorem vw {l:List Pt} (ok:bC l) {x t:Int×Int} (h64:lM t) (hb:iX l x):pI ⟨l⟩ x t=aeK (bE l x t):=by obtain ⟨h1,h2⟩:=hb;obtain ⟨j,j1,j2,j3⟩:=xA ok h1;obtain ⟨k,k1,k2,k3⟩:=xA ok h2;unfold pI;simp only [j2,k2,aj,ax l j j1,ax l k k1,j3,k3,OC (di ok h2).1 (di ok h1).1 h64];rfl
theorem Vs (c:bF) {l:List Pt} (ok:bC l) (hl:(aeF c.ce)<=200):uD c ⟨l⟩=aeK (aeY (∀i,i<aeF c.ce->iX l (c.ce[i]!).2)):=by
 unfold uD;have key:=dy (body:=oT) (fun i=>((i:Int),c.aN,c.ce,l)) (aeF c.ce) (fun i=> ¬iX l (c.ce[i]!).2) (r:=aeU) (e:=aeS) (fun i hi=>by
  have e1:aeY ((i:Int)<((aeF c.ce):Int))=aeS:=aE (by omega);unfold oT iX;simp only [aA,e1,lc,ax c.ce i hi,aj,aV (show i<1000000000 by omega)]
  by_cases h1:gx l (c.ce[i]!).2.1
  · obtain ⟨k,k1,k2,_⟩:=xA ok h1
    rw [k2];simp only [aj,aC (show¬(k:Int)<0 by omega),lm]
    by_cases h2:gx l (c.ce[i]!).2.2
    · obtain ⟨j,j1,j2,_⟩:=xA ok h2
      rw [j2];simp only [aj,aC (show¬(j:Int)<0 by omega),lm];exact ⟨fun h=>absurd ⟨h1,h2⟩ h,fun _=>trivial⟩
    rw [OQ ok h2]
    exact ⟨fun _=>rfl,fun h=>absurd (pp.1 h).2 h2⟩
  · rw [OQ ok h1]
    exact ⟨fun _=>rfl,fun h=>absurd (pp.1 h).1 h1⟩) (by
  unfold oT;have:aeY (((aeF c.ce):Int)<((aeF c.ce):Int))=aeU:=aC (by omega);simp only [aA,this,lm])
 by_cases hx: ∀i,i<aeF c.ce->iX l (c.ce[i]!).2
 · rw [aE hx];exact key.2 fun i hi=>pp.2 (hx i hi)
 rw [aC hx]
 obtain ⟨i,h⟩:=AC.1 hx;obtain ⟨hi,hx⟩:=EQ.1 h;exact key.1 ⟨i,hi,hx⟩
def aR (l:List Pt) (t:Int×Int) (H:List Ev):List qX->List qX->Prop
 | [],ds=>ds=[]
 |x::cs,ds=>((bE l x.2 t).2=aeS-> ∃d yt,ds=d::yt/\d.1=x.1/\((bE l x.2 t).1.1,(bE l x.2 t).1.2,x.1,d.2)∈H/\aR l t H cs yt)/\((bE l x.2 t).2=aeU->aR l t H cs ds)
structure aY (c:aK):Prop where
 lK:bK c.ci
 fM:lM c.ci
 ju:bC c.ii.am
 sM:eW c.ai
 lD:eZ c.ae
 GL:(aeF c.ae.ar)=200
 hd:(aeF c.ae.bv)=aeF c.io
 known: ∀i,i<aeF c.ai.ce->iX c.ii.am (c.ai.ce[i]!).2
 Bd:aR c.ii.am c.ci c.ae.bv c.ai.ce c.io
structure tD (c:aK):Prop where
 fM:lM c.ci
 ag:yT c.ae
 du:(aeF c.io)<=1000000
theorem aes {a:aJ} (ok:eZ a) (w2:(aeF a.ar)=200) (t:Int×Int) (n:Int) (h:Int×Int):
 (0<=h.1/\h.1<200/\0<=a.ar[h.1.toNat]!/\a.bv[(a.ar[h.1.toNat]!).toNat]! =(t.1,t.2,n,h))↔((t.1,t.2,n,h):Ev)∈a.bv:=by
 have wl:=ok.wl;have hu:=ok.so.ul;constructor
 · rintro ⟨h1,h2,h3,h4⟩
   cases hb:a.af.be[h.1.toNat]! with
   |false=>have:=ok.un h.1.toNat (by omega) hb;omega
   |true=>have:=ok.fwd h.1.toNat (by omega) hb;rw [<- h4];exact bn (by omega)
 intro hm
 obtain ⟨w,hw,he⟩:=aO.1 hm;obtain ⟨b1,b2,b3,b4,b5⟩:=ok.back hw;have e:Ev.ix a.bv[w]! =h.1:=by rw [he]
 have e2:Ev.n a.bv[w]! =h.1.toNat:=by rw [he]
 rw [e] at b1 b2;rw [e2] at b5;refine ⟨b1,by omega,by omega,?_⟩;rw [b5,v6,he]
theorem Vt {a:aJ} (ok:eZ a) {i:Nat} (hi:i<aeF a.af.aB) (h:0<=a.ar[i]!):a.ar[i]!<(aeF a.bv):=by
 cases hb:a.af.be[i]! with
 |false=>have:=ok.un i hi hb;omega
 |true=>exact (ok.fwd i hi hb).2.1
theorem sN {α:Type} [Inhabited α] {l:List α} {i:Nat} (h:i<aeF l):l.drop i=l[i]!::l.drop (i+1):=by rw [getElem!_pos l i h];exact List.drop_eq_getElem_cons h
theorem Mv {c:aK} (lK:bK c.ci) (fM:lM c.ci) (ju:bC c.ii.am) (sM:eW c.ai) (lD:eZ c.ae) (w2:(aeF c.ae.ar)=200):
 ∀(d i:Nat) (ds:List qX),aeF c.ai.ce-i<=d->i<=aeF c.ai.ce->aeF ds<=1000000->
  ay cV (ds,c.ai.ce,((aeF c.ai.ce):Int),(i:Int),c.ci.1,c.ci.2,c.ii.am,c.ai.aN,c.ai.ce,c.ae.af.aB,c.ae.af.be,c.ae.af.bi,c.ae.bv,c.ae.ar,c.io)=
   aeK (.done (if (∀j,i<=j->j<aeF c.ai.ce->iX c.ii.am (c.ai.ce[j]!).2)/\aR c.ii.am c.ci c.ae.bv (c.ai.ce.drop i) ds then 0 else 8)):=by
 have hl:=sM.len;have wl:=lD.wl;have fin: ∀(ds:List qX),ay cV (ds,c.ai.ce,((aeF c.ai.ce):Int),((aeF c.ai.ce):Int),c.ci.1,c.ci.2,c.ii.am,c.ai.aN,c.ai.ce,c.ae.af.aB,c.ae.af.be,c.ae.af.bi,c.ae.bv,c.ae.ar,c.io)=aeK (.done (if ds=[] then 0 else 8)):=by
  intro ds;refine aI ?_;unfold cV;have e1:aeY (((aeF c.ai.ce):Int)<((aeF c.ai.ce):Int))=aeU:=aC (by omega);simp only [aA,e1,lm];cases ds with
  |nil=>rw [aC (by simp),ls rfl];rfl
  |cons d ds=>rw [aE (by simp),lw (by simp)];rfl
 intro d
 induction d with
 |zero=>
  intro i ds hd hi Wt;have:i=(aeF c.ai.ce):=by omega
  subst this;rw [fin ds,ad5];have:((∀j,aeF c.ai.ce<=j->j<aeF c.ai.ce->iX c.ii.am (c.ai.ce[j]!).2)/\aR c.ii.am c.ci c.ae.bv [] ds)↔ds=[]:=⟨fun h=>h.2,fun h=>⟨fun j h1 h2=>by omega,h⟩⟩
  by_cases h:ds=[]
  · rw [ls h,ls (this.2 h)]
  rw [lw h,lw (fun k=>h (this.1 k))]
 |succ d ih=>
  intro i ds hd hi Wt
  by_cases he:i=aeF c.ai.ce
  · subst he
    rw [fin ds,ad5];have:((∀j,aeF c.ai.ce<=j->j<aeF c.ai.ce->iX c.ii.am (c.ai.ce[j]!).2)/\aR c.ii.am c.ci c.ae.bv [] ds)↔ds=[]:=⟨fun h=>h.2,fun h=>⟨fun j h1 h2=>by omega,h⟩⟩
    by_cases h:ds=[]
    · rw [ls h,ls (this.2 h)]
    rw [lw h,lw (fun k=>h (this.1 k))]
  have uY:i<(aeF c.ai.ce):=by omega
  have e1:aeY ((i:Int)<((aeF c.ai.ce):Int))=aeS:=aE (by omega);have hw:=vv ju (x:=(c.ai.ce[i]!).2) (t:=(c.ci.1,c.ci.2)) (sM.cv i uY) lK fM;have dr:=sN uY;have all:(∀j,i<=j->j<aeF c.ai.ce->iX c.ii.am (c.ai.ce[j]!).2)↔(iX c.ii.am (c.ai.ce[i]!).2/\ ∀j,i+1<=j->j<aeF c.ai.ce->iX c.ii.am (c.ai.ce[j]!).2):=by
   constructor
   · intro h;exact ⟨h i (ww _) uY,fun j h1 h2=>h j (by omega) h2⟩
   rintro ⟨h1,h2⟩ j h3 h4
   by_cases e:j=i
   · rw [e];exact h1
   exact h2 j (by omega) h4
  have sc:=aV (show i<1000000000 by omega)
  by_cases hb:iX c.ii.am (c.ai.ce[i]!).2
  case neg=>rw [lw (fun h=>hb (all.1 h.1).1)];refine aI ?_;unfold cV;simp only [e1,lc,ax c.ai.ce i uY,aj,hw,lw hb];rfl
  rw [ls hb] at hw
  by_cases is:(bE c.ii.am (c.ai.ce[i]!).2 c.ci).2=aeS
  case neg=>
   have is':(bE c.ii.am (c.ai.ce[i]!).2 c.ci).2=aeU:=by simpa using is
   rw [aT (y:=(ds,c.ai.ce,((aeF c.ai.ce):Int),((i+1:Nat):Int),c.ci.1,c.ci.2,c.ii.am,c.ai.aN,c.ai.ce,c.ae.af.aB,c.ae.af.be,c.ae.af.bi,c.ae.bv,c.ae.ar,c.io)) (by unfold cV;simp only [e1,lc,ax c.ai.ce i uY,aj,hw,sc,is',show ((0:Int) !=0)=aeU from rfl,lm,PP]),ih (i+1) ds (by omega) (by omega) Wt];have same:((∀j,i<=j->j<aeF c.ai.ce->iX c.ii.am (c.ai.ce[j]!).2)/\aR c.ii.am c.ci c.ae.bv (c.ai.ce.drop i) ds)↔((∀j,i+1<=j->j<aeF c.ai.ce->iX c.ii.am (c.ai.ce[j]!).2)/\aR c.ii.am c.ci c.ae.bv (c.ai.ce.drop (i+1)) ds):=by
    rw [dr,all];constructor
    · rintro ⟨⟨_,h1⟩,h2⟩;exact ⟨h1,h2.2 is'⟩
    rintro ⟨h1,h2⟩;exact ⟨⟨hb,h1⟩,fun h=>absurd h is,fun _=>h2⟩
   simp only [same]
  have stop:(¬((∀j,i<=j->j<aeF c.ai.ce->iX c.ii.am (c.ai.ce[j]!).2)/\aR c.ii.am c.ci c.ae.bv (c.ai.ce.drop i) ds))->cV (ds,c.ai.ce,((aeF c.ai.ce):Int),(i:Int),c.ci.1,c.ci.2,c.ii.am,c.ai.aN,c.ai.ce,c.ae.af.aB,c.ae.af.be,c.ae.af.bi,c.ae.bv,c.ae.ar,c.io)=aeK (.done (.done 8))->ay cV (ds,c.ai.ce,((aeF c.ai.ce):Int),(i:Int),c.ci.1,c.ci.2,c.ii.am,c.ai.aN,c.ai.ce,c.ae.af.aB,c.ae.af.be,c.ae.af.bi,c.ae.bv,c.ae.ar,c.io)=
   aeK (.done (if (∀j,i<=j->j<aeF c.ai.ce->iX c.ii.am (c.ai.ce[j]!).2)/\aR c.ii.am c.ci c.ae.bv (c.ai.ce.drop i) ds then 0 else 8)):=by
   intro h1 h2;rw [lw h1];exact aI h2
  cases ds with
  |nil=>
   refine stop (fun h=>?_) ?_
   · rw [dr] at h
     obtain ⟨d,yt,h1,_⟩:=h.2.1 is;cases h1
   unfold cV
   simp only [e1,lc,ax c.ai.ce i uY,aj,hw,is,show ((0:Int) !=0)=aeU from rfl,lm,ut];rfl
  |cons d0 ds=>
   have l0:((((d0::ds).length:Nat):Int)==0)=aeU:=dR (by simp;omega);have g0:aH (d0::ds) 0=aeK d0:=rfl;have Bd: ∀P:Prop,(P↔d0.1=(c.ai.ce[i]!).1/\(((bE c.ii.am (c.ai.ce[i]!).2 c.ci).1.1,(bE c.ii.am (c.ai.ce[i]!).2 c.ci).1.2,(c.ai.ce[i]!).1,d0.2):Ev)∈c.ae.bv)-> ¬P-> ¬((∀j,i<=j->j<aeF c.ai.ce->iX c.ii.am (c.ai.ce[j]!).2)/\aR c.ii.am c.ci c.ae.bv (c.ai.ce.drop i) (d0::ds)):=by intro P hP hn h;rw [dr] at h;obtain ⟨d,yt,h1,h2,h3,_⟩:=h.2.1 is;injection h1 with h1 _;subst h1;exact hn (hP.2 ⟨h2,h3⟩)
   by_cases b1:d0.1=(c.ai.ce[i]!).1
   case neg=>refine stop (Bd (d0.1=(c.ai.ce[i]!).1/\_) adA (fun h=>b1 h.1)) ?_;unfold cV;simp only [aA,e1,lc,ax c.ai.ce i uY,aj,hw,is,show ((0:Int) !=0)=aeU from rfl,lm,ut,l0,g0,cS b1]
   have ea:=aes lD w2 (bE c.ii.am (c.ai.ce[i]!).2 c.ci).1 (c.ai.ce[i]!).1 d0.2
   by_cases b2:d0.2.1<0
   · refine stop (Bd (d0.1=(c.ai.ce[i]!).1/\_) adA (fun h=>by have:=(ea.2 h.2).1;omega)) ?_
     unfold cV;simp only [aA,e1,lc,ax c.ai.ce i uY,aj,hw,is,show ((0:Int) !=0)=aeU from rfl,lm,ut,l0,g0,bB b1,aE b2]
   by_cases b3:200<=d0.2.1
   · refine stop (Bd (d0.1=(c.ai.ce[i]!).1/\_) adA (fun h=>by have:=(ea.2 h.2).2.1;omega)) ?_
     unfold cV;simp only [aA,e1,lc,ax c.ai.ce i uY,aj,hw,is,show ((0:Int) !=0)=aeU from rfl,lm,ut,l0,g0,bB b1,aC b2,aE b3]
   have gw:=dS (l:=c.ae.ar) (i:=d0.2.1) (by omega) (by omega)
   by_cases b4:c.ae.ar[d0.2.1.toNat]!<0
   · refine stop (Bd (d0.1=(c.ai.ce[i]!).1/\_) adA (fun h=>by have:=(ea.2 h.2).2.2.1;omega)) ?_
     unfold cV;simp only [aA,e1,lc,ax c.ai.ce i uY,aj,hw,is,show ((0:Int) !=0)=aeU from rfl,lm,ut,l0,g0,bB b1,aC b2,aC b3,gw,aE b4]
   have gh:=dS (l:=c.ae.bv) (i:=c.ae.ar[d0.2.1.toNat]!) (by omega) (Vt lD (by omega) (by omega));have sl:gn (d0::ds) 1 ((((d0::ds).length:Nat):Int))=aeK ds:=by unfold gn;rw [ls ⟨by omega,by simp;omega,by omega⟩];simp
   have evq: ∀(e:Ev) (p:Int×Int) (n:Int) (h:Int×Int),((e.1==p.1)&&((e.2.1==p.2)&&((e.2.2.1==n)&&((e.2.2.2.1==h.1)&&(e.2.2.2.2==h.2)))))=aeY (e=(p.1,p.2,n,h)):=by
    intro e p n h;rw [adF,decide_eq_true_iff];simp only [aeb,beq_iff_eq];constructor
    · rintro ⟨h1,h2,h3,h4,h5⟩
      exact M2 h1 (M2 h2 (M2 h3 (M2 h4 h5)))
    intro h;rw [h];exact ⟨rfl,rfl,rfl,rfl,rfl⟩
   have ao7:=evq c.ae.bv[(c.ae.ar[d0.2.1.toNat]!).toNat]! (bE c.ii.am (c.ai.ce[i]!).2 c.ci).1 (c.ai.ce[i]!).1 d0.2
   by_cases b5:c.ae.bv[(c.ae.ar[d0.2.1.toNat]!).toNat]! =((bE c.ii.am (c.ai.ce[i]!).2 c.ci).1.1,(bE c.ii.am (c.ai.ce[i]!).2 c.ci).1.2,(c.ai.ce[i]!).1,d0.2)
   case neg=>refine stop (Bd (d0.1=(c.ai.ce[i]!).1/\_) adA (fun h=>b5 (ea.2 h.2).2.2.2)) ?_;unfold cV;simp only [aA,e1,lc,ax c.ai.ce i uY,aj,hw,is,show ((0:Int) !=0)=aeU from rfl,lm,ut,l0,g0,bB b1,aC b2,aC b3,gw,aC b4,gh];rw [ao7,aC b5];rfl
   have zQ:=ea.1 ⟨by omega,by omega,by omega,b5⟩;rw [aT (y:=(ds,c.ai.ce,((aeF c.ai.ce):Int),((i+1:Nat):Int),c.ci.1,c.ci.2,c.ii.am,c.ai.aN,c.ai.ce,c.ae.af.aB,c.ae.af.be,c.ae.af.bi,c.ae.bv,c.ae.ar,c.io)) (by unfold cV;simp only [aA,e1,lc,ax c.ai.ce i uY,aj,hw,is,show ((0:Int) !=0)=aeU from rfl,lm,ut,l0,g0,bB b1,aC b2,aC b3,gw,aC b4,gh,sl,sc];rw [ao7,aE b5];rfl),ih (i+1) ds (by omega) (by omega) (by simp at Wt;omega)];have same:((∀j,i<=j->j<aeF c.ai.ce->iX c.ii.am (c.ai.ce[j]!).2)/\aR c.ii.am c.ci c.ae.bv (c.ai.ce.drop i) (d0::ds))↔((∀j,i+1<=j->j<aeF c.ai.ce->iX c.ii.am (c.ai.ce[j]!).2)/\aR c.ii.am c.ci c.ae.bv (c.ai.ce.drop (i+1)) ds):=by
    rw [dr,all];constructor
    · rintro ⟨⟨_,h1⟩,h2⟩
      obtain ⟨d,yt,k1,k2,k3,k4⟩:=h2.1 is;injection k1 with k1 k5;subst k5;exact ⟨h1,k4⟩
    rintro ⟨h1,h2⟩
    exact ⟨⟨hb,h1⟩,fun _=>⟨d0,ds,rfl,b1,zQ,h2⟩,fun h=>by rw [is] at h;cases h⟩
   simp only [same]
theorem aY.iff {c:aK} (fit:tD c):aY c↔bK c.ci/\bC c.ii.am/\eW c.ai/\eZ c.ae/\aeF c.ae.ar=200/\aeF c.ae.bv=aeF c.io/\(∀i,i<aeF c.ai.ce->iX c.ii.am (c.ai.ce[i]!).2)/\aR c.ii.am c.ci c.ae.bv c.ai.ce c.io:=
 ⟨fun h=>⟨h.lK,h.ju,h.sM,h.lD,h.GL,h.hd,h.known,h.Bd⟩,fun ⟨h1,h2,h3,h4,h5,h6,h7,h8⟩=>⟨h1,fit.fM,h2,h3,h4,h5,h6,h7,h8⟩⟩
theorem aY.fit {c:aK} (ok:aY c):tD c:=⟨ok.fM,ok.lD.fit,by have:=ok.hd;have:=ok.lD.bd;omega⟩
theorem Mw {c:aK} {n0 n1 n2 n3:Int}:
 ay fq (4,0,c.ci.1,c.ci.2,c.ii.am,c.ai.aN,c.ai.ce,c.ae.af.aB,c.ae.af.be,c.ae.af.bi,c.ae.bv,c.ae.ar,c.io,[n0,n1,n2,n3])=
  if n0=0/\n1=0/\n2=0/\n3=0 then ay fq (4,4,c.ci.1,c.ci.2,c.ii.am,c.ai.aN,c.ai.ce,c.ae.af.aB,c.ae.af.be,c.ae.af.bi,c.ae.bv,c.ae.ar,c.io,[n0,n1,n2,n3]) else aeK 8:=by
 have st: ∀(i:Nat) (n:Int),i<4->aH [n0,n1,n2,n3] (i:Int)=aeK n->ay fq (4,(i:Int),c.ci.1,c.ci.2,c.ii.am,c.ai.aN,c.ai.ce,c.ae.af.aB,c.ae.af.be,c.ae.af.bi,c.ae.bv,c.ae.ar,c.io,[n0,n1,n2,n3])=
  if n=0 then ay fq (4,((i+1:Nat):Int),c.ci.1,c.ci.2,c.ii.am,c.ai.aN,c.ai.ce,c.ae.af.aB,c.ae.af.be,c.ae.af.bi,c.ae.bv,c.ae.ar,c.io,[n0,n1,n2,n3]) else aeK 8:=by
  intro i n hi hg;have e1:aeY ((i:Int)<4)=aeS:=aE (by omega)
  by_cases h:n=0
  · rw [ls h]
    refine aT ?_;unfold fq;simp only [e1,lc,hg,aj,bB h,lm,aV (show i<1000000000 by omega)]
  rw [lw h]
  refine aI ?_;unfold fq;simp only [e1,lc,hg,aj,cS h]
 have s0:=st 0 n0 (by omega) rfl;have s1:=st 1 n1 (by omega) rfl;have s2:=st 2 n2 (by omega) rfl;have s3:=st 3 n3 (by omega) rfl;have c0:((0:Nat):Int)=0:=rfl;have c4:((3+1:Nat):Int)=4:=rfl;rw [c0] at s0;rw [c4] at s3;rw [s0]
 by_cases h0:n0=0
 · rw [ls h0,show ((0+1:Nat):Int)=((1:Nat):Int) from rfl,s1]
   by_cases h1:n1=0
   · rw [ls h1,show ((1+1:Nat):Int)=((2:Nat):Int) from rfl,s2]
     by_cases h2:n2=0
     · rw [ls h2,show ((2+1:Nat):Int)=((3:Nat):Int) from rfl,s3]
       by_cases h3:n3=0
       · rw [ls h3,ls ⟨h0,h1,h2,h3⟩]
       rw [lw h3,lw (fun h=>h3 h.2.2.2)]
     rw [lw h2,lw (fun h=>h2 h.2.2.1)]
   rw [lw h1,lw (fun h=>h1 h.2.1)]
 rw [lw h0,lw (fun h=>h0 h.1)]
theorem kv {c:aK} (fit:tD c):gf c=aeK (if aY c then 0 else 8):=by
 unfold gf;rw [dZ fit.fM,fv,vu,jf _ fit.ag];simp only [aj];have h4:Int.ofNat [if bK c.ci then (0:Int) else 8,tz c.ii.am,if eW c.ai then (0:Int) else 8,if eZ c.ae then (0:Int) else 8].length=4:=rfl;rw [h4,Mw];have z: ∀(p:Prop) [Decidable p],(if p then (0:Int) else 8)=0↔p:=fun p _=>by by_cases h:p<;>simp [h]
 simp only [z,gg];have f1:=aY.iff fit
 by_cases ok:bK c.ci/\bC c.ii.am/\eW c.ai/\eZ c.ae
 case neg=>rw [lw ok,lw (c:=aY c) (fun h=>ok ⟨h.lK,h.ju,h.sM,h.lD⟩)]
 obtain ⟨lK,ju,sM,lD⟩:=ok;rw [ls ⟨lK,ju,sM,lD⟩]
 by_cases w2:(aeF c.ae.ar)=200
 case neg=>rw [lw (c:=aY c) (fun h=>w2 h.GL)];refine aI ?_;unfold fq;simp only [aA,aC (show¬(4:Int)<4 by omega),lm,cS (show¬((aeF c.ae.ar):Int)=200 by omega),lc]
 by_cases hd:(aeF c.ae.bv)=aeF c.io
 case neg=>rw [lw (c:=aY c) (fun h=>hd h.hd)];refine aI ?_;unfold fq;simp only [aA,aC (show¬(4:Int)<4 by omega),lm,bB (show ((aeF c.ae.ar):Int)=200 by omega),cS (show¬((aeF c.ae.bv):Int)=((aeF c.io):Int) by omega),lc]
 have run:=Mv lK fit.fM ju sM lD w2 (aeF c.ai.ce) 0 c.io (by omega) (by omega) fit.du;rw [adH] at run;have same:((∀j,0<=j->j<aeF c.ai.ce->iX c.ii.am (c.ai.ce[j]!).2)/\aR c.ii.am c.ci c.ae.bv c.ai.ce c.io)↔aY c:=by
  rw [f1];constructor
  · rintro ⟨h1,h2⟩;exact ⟨lK,ju,sM,lD,w2,hd,fun i hi=>h1 i (by omega) hi,h2⟩
  rintro ⟨_,_,_,_,_,_,h1,h2⟩;exact ⟨fun j _ hj=>h1 j hj,h2⟩
 simp only [same] at run;refine aI ?_;unfold fq;simp only [aA,aC (show¬(4:Int)<4 by omega),lm,bB (show ((aeF c.ae.ar):Int)=200 by omega),bB (show ((aeF c.ae.bv):Int)=((aeF c.io):Int) by omega)];exact run
theorem ac2 {a:aJ} (ok:eZ a) (h:Int×Int):th a h=aeK (if uL a.af h then (a.bv[(a.ar[h.1.toNat]!).toNat]!,0) else ((0,0,0,0,0),6)):=by
 unfold th;rw [yU a ok.fit,ls ok,Qj ok.so];simp only [aj,show ((0:Int) !=0)=aeU from rfl,lm]
 by_cases lv:uL a.af h
 · obtain ⟨i,hi,hw,hh⟩:=ok.live lv
   have:=lv.1;have:=lv.2.1;have:=ok.wl;rw [aE lv,ls lv,dS (l:=a.ar) lv.1 (by omega),hw];simp only [ut,lm,aj,ax a.bv i hi,v6]
 rw [aC lv,lw lv];rfl
theorem Mx {c:aK} (fM:lM c.ci) (ju:bC c.ii.am) (sM:eW c.ai) (lD:eZ c.ae) (w2:(aeF c.ae.ar)=200) (hdu:(aeF c.io)<=1000000)
 (kn: ∀i,i<aeF c.ai.ce->iX c.ii.am (c.ai.ce[i]!).2):
 ∀(d i k:Nat),aeF c.ai.ce-i<=d->i<=aeF c.ai.ce->k<=aeF c.io->
  ay dI ((k:Int),(i:Int),c.ci.1,c.ci.2,c.ii.am,c.ai.aN,c.ai.ce,c.ae.af.aB,c.ae.af.be,c.ae.af.bi,c.ae.bv,c.ae.ar,c.io)=
   aeK (if aR c.ii.am c.ci c.ae.bv (c.ai.ce.drop i) (c.io.drop k) then 0 else 8):=by
 have hl:=sM.len;have wl:=lD.wl;have fin: ∀k:Nat,k<=aeF c.io->ay dI ((k:Int),((aeF c.ai.ce):Int),c.ci.1,c.ci.2,c.ii.am,c.ai.aN,c.ai.ce,c.ae.af.aB,c.ae.af.be,c.ae.af.bi,c.ae.bv,c.ae.ar,c.io)=aeK (if aR c.ii.am c.ci c.ae.bv (c.ai.ce.drop (aeF c.ai.ce)) (c.io.drop k) then 0 else 8):=by
  intro k hk;rw [ad5];refine aI ?_;unfold dI;have e1:aeY (((aeF c.ai.ce):Int)<((aeF c.ai.ce):Int))=aeU:=aC (by omega);simp only [aA,e1,lm];have:aR c.ii.am c.ci c.ae.bv [] (c.io.drop k)↔k=(aeF c.io):=by show c.io.drop k=[]↔_;rw [ad6];omega
  by_cases h:k=aeF c.io
  · rw [ls (this.2 h),bB (by omega)];rfl
  rw [lw (fun x=>h (this.1 x)),cS (by omega)];rfl
 intro d
 induction d with
 |zero=>
  intro i k hd hi hk;have:i=(aeF c.ai.ce):=by omega
  subst this;exact fin k hk
 |succ d ih=>
  intro i k hd hi hk
  by_cases he:i=aeF c.ai.ce
  · subst he;exact fin k hk
  have uY:i<(aeF c.ai.ce):=by omega
  have e1:aeY ((i:Int)<((aeF c.ai.ce):Int))=aeS:=aE (by omega);have hw:=vw ju (x:=(c.ai.ce[i]!).2) (t:=(c.ci.1,c.ci.2)) fM (kn i uY);have dr:=sN uY;have sc:=aV (show i<1000000000 by omega);have sk:=aV (show k<1000000000 by omega)
  by_cases is:(bE c.ii.am (c.ai.ce[i]!).2 c.ci).2=aeS
  case neg=>
   have is':(bE c.ii.am (c.ai.ce[i]!).2 c.ci).2=aeU:=by simpa using is
   rw [aT (y:=((k:Int),((i+1:Nat):Int),c.ci.1,c.ci.2,c.ii.am,c.ai.aN,c.ai.ce,c.ae.af.aB,c.ae.af.be,c.ae.af.bi,c.ae.bv,c.ae.ar,c.io)) (by unfold dI;simp only [aA,e1,lc,ax c.ai.ce i uY,aj,hw,sc,is',PP]),ih (i+1) k (by omega) (by omega) hk];have same:aR c.ii.am c.ci c.ae.bv (c.ai.ce.drop i) (c.io.drop k)↔aR c.ii.am c.ci c.ae.bv (c.ai.ce.drop (i+1)) (c.io.drop k):=by rw [dr];exact ⟨fun h=>h.2 is',fun h=>⟨fun h'=>absurd h' is,fun _=>h⟩⟩
   simp only [same]
  have stop:(¬aR c.ii.am c.ci c.ae.bv (c.ai.ce.drop i) (c.io.drop k))->dI ((k:Int),(i:Int),c.ci.1,c.ci.2,c.ii.am,c.ai.aN,c.ai.ce,c.ae.af.aB,c.ae.af.be,c.ae.af.bi,c.ae.bv,c.ae.ar,c.io)=aeK (.done 8)->
   ay dI ((k:Int),(i:Int),c.ci.1,c.ci.2,c.ii.am,c.ai.aN,c.ai.ce,c.ae.af.aB,c.ae.af.be,c.ae.af.bi,c.ae.bv,c.ae.ar,c.io)=aeK (if aR c.ii.am c.ci c.ae.bv (c.ai.ce.drop i) (c.io.drop k) then 0 else 8):=by
   intro h1 h2;rw [lw h1];exact aI h2
  by_cases Sp:k=aeF c.io
  · refine stop (fun h=>?_) ?_
    · rw [dr] at h
      obtain ⟨d,yt,h1,_⟩:=h.1 is;rw [Sp,ad5] at h1;cases h1
    unfold dI
    simp only [aA,e1,lc,ax c.ai.ce i uY,aj,hw,is,ut,lm,aE (show ((aeF c.io):Int)<=(k:Int) by omega)]
  have Jx:k<(aeF c.io):=by omega
  have dk:=sN Jx;have e2:aeY (((aeF c.io):Int)<=(k:Int))=aeU:=aC (by omega);have Bd: ¬((c.io[k]!).1=(c.ai.ce[i]!).1/\(((bE c.ii.am (c.ai.ce[i]!).2 c.ci).1.1,(bE c.ii.am (c.ai.ce[i]!).2 c.ci).1.2,(c.ai.ce[i]!).1,(c.io[k]!).2):Ev)∈c.ae.bv)-> ¬aR c.ii.am c.ci c.ae.bv (c.ai.ce.drop i) (c.io.drop k):=by intro hn h;rw [dr,dk] at h;obtain ⟨d,yt,h1,h2,h3,_⟩:=h.1 is;injection h1 with h1 _;subst h1;exact hn ⟨h2,h3⟩
  by_cases b1:(c.io[k]!).1=(c.ai.ce[i]!).1
  case neg=>refine stop (Bd (fun h=>b1 h.1)) ?_;unfold dI;simp only [aA,e1,lc,ax c.ai.ce i uY,aj,hw,is,ut,lm,e2,ax c.io k Jx,cS b1]
  have fi:=ac2 lD (c.io[k]!).2;have ea:=aes lD w2 (bE c.ii.am (c.ai.ce[i]!).2 c.ci).1 (c.ai.ce[i]!).1 (c.io[k]!).2;have fi':th (aJ.mk (bj.mk c.ae.af.aB c.ae.af.be c.ae.af.bi) c.ae.bv c.ae.ar) (c.io[k]!).2=_:=fi
  by_cases lv:uL c.ae.af (c.io[k]!).2
  case neg=>
   rw [lw lv] at fi';refine stop (Bd (fun h=>lv ?_)) ?_
   · obtain ⟨w,Wb,hU⟩:=aO.1 h.2
     have:=(lD.handle Wb).1
     rwa [hU] at this
   unfold dI
   simp only [aA,e1,lc,ax c.ai.ce i uY,aj,hw,is,ut,lm,e2,ax c.io k Jx,bB b1,fi',show ((6:Int) !=0)=aeS from rfl]
  rw [ls lv] at fi';obtain ⟨w,hw1,Wu,hw3⟩:=lD.live lv;rw [Wu,v6] at fi';have q1:(0<=(c.io[k]!).2.1/\(c.io[k]!).2.1<200/\0<=c.ae.ar[(c.io[k]!).2.1.toNat]!):=⟨lv.1,by have:=lv.2.1;omega,by rw [Wu];omega⟩
  by_cases b2:(c.ae.bv[w]!).2.2.1=(c.ai.ce[i]!).1
  case neg=>
   refine stop (Bd (fun h=>b2 ?_)) ?_
   · have:=(ea.2 h.2).2.2.2
     rw [Wu,v6] at this;rw [this]
   unfold dI
   simp only [aA,e1,lc,ax c.ai.ce i uY,aj,hw,is,ut,lm,e2,ax c.io k Jx,bB b1,fi',show ((0:Int) !=0)=aeU from rfl,cS b2]
  have teq:((c.ae.bv[w]!).1==(bE c.ii.am (c.ai.ce[i]!).2 c.ci).1.1&&(c.ae.bv[w]!).2.1==(bE c.ii.am (c.ai.ce[i]!).2 c.ci).1.2)=aeY (((c.ae.bv[w]!).1,(c.ae.bv[w]!).2.1)=(bE c.ii.am (c.ai.ce[i]!).2 c.ci).1):=by
   rw [adF,decide_eq_true_iff];simp only [aeb,beq_iff_eq];constructor
   · rintro ⟨h1,h2⟩;exact M2 h1 h2
   intro h;rw [<- h];exact ⟨rfl,rfl⟩
  by_cases b3:((c.ae.bv[w]!).1,(c.ae.bv[w]!).2.1)=(bE c.ii.am (c.ai.ce[i]!).2 c.ci).1
  case neg=>
   refine stop (Bd (fun h=>b3 ?_)) ?_
   · have:=(ea.2 h.2).2.2.2
     rw [Wu,v6] at this;rw [this]
   unfold dI
   simp only [aA,e1,lc,ax c.ai.ce i uY,aj,hw,is,ut,lm,e2,ax c.io k Jx,bB b1,fi',show ((0:Int) !=0)=aeU from rfl,bB b2];rw [teq,aC b3];rfl
  have zQ:=ea.1 ⟨q1.1,q1.2.1,q1.2.2,by rw [Wu,v6];have t1:=congrArg aet b3;have t2:=congrArg aev b3;exact M2 t1 (M2 t2 (M2 b2 hw3))⟩;rw [aT (y:=(((k+1:Nat):Int),((i+1:Nat):Int),c.ci.1,c.ci.2,c.ii.am,c.ai.aN,c.ai.ce,c.ae.af.aB,c.ae.af.be,c.ae.af.bi,c.ae.bv,c.ae.ar,c.io)) (by unfold dI;simp only [aA,e1,lc,ax c.ai.ce i uY,aj,hw,is,ut,lm,e2,ax c.io k Jx,bB b1,fi',show ((0:Int) !=0)=aeU from rfl,bB b2,sc,sk];rw [teq,aE b3];rfl),ih (i+1) (k+1) (by omega) (by omega) (by omega)];have same:aR c.ii.am c.ci c.ae.bv (c.ai.ce.drop i) (c.io.drop k)↔aR c.ii.am c.ci c.ae.bv (c.ai.ce.drop (i+1)) (c.io.drop (k+1)):=by
   rw [dr,dk];constructor
   · intro h2
     obtain ⟨d,yt,k1,k2,k3,k4⟩:=h2.1 is;injection k1 with k1 k5;subst k5;exact k4
   intro h2
   exact ⟨fun _=>⟨_,_,rfl,b1,zQ,h2⟩,fun h=>by rw [is] at h;cases h⟩
  simp only [same]
theorem GM {c:aK} (fit:tD c):uF c=aeK (if aY c then 0 else 8):=by
 unfold uF;rw [tq fit.fM,Gl,yY,yU _ fit.ag];simp only [aj]
 by_cases lK:bK c.ci
 case neg=>rw [lw lK,lw (c:=aY c) (fun h=>lK h.lK)];rfl
 rw [ls lK]
 by_cases ju:bC c.ii.am
 case neg=>rw [cS (fun h=>ju (gg.1 h)),lw (c:=aY c) (fun h=>ju h.ju)];rfl
 rw [bB (gg.2 ju)]
 by_cases sM:eW c.ai
 case neg=>rw [lw sM,lw (c:=aY c) (fun h=>sM h.sM)];rfl
 rw [ls sM];have kn:=Vs c.ai ju sM.len;simp only [show ((0:Int) !=0)=aeU from rfl,lm,kn,aj]
 by_cases known: ∀i,i<aeF c.ai.ce->iX c.ii.am (c.ai.ce[i]!).2
 case neg=>rw [aC known,lw (c:=aY c) (fun h=>known h.known)];rfl
 rw [aE known]
 by_cases lD:eZ c.ae
 case neg=>rw [lw lD,lw (c:=aY c) (fun h=>lD h.lD)];rfl
 rw [ls lD];simp only [aA,show ((0:Int) !=0)=aeU from rfl,lm,ut]
 by_cases w2:(aeF c.ae.ar)=200
 case neg=>rw [cS (by omega),lw (c:=aY c) (fun h=>w2 h.GL)];rfl
 rw [bB (by omega)]
 by_cases hd:(aeF c.ae.bv)=aeF c.io
 case neg=>rw [cS (by omega),lw (c:=aY c) (fun h=>hd h.hd)];rfl
 rw [bB (by omega)];have run:=Mx fit.fM ju sM lD w2 fit.du known (aeF c.ai.ce) 0 0 (by omega) (by omega) (by omega);rw [adH,adH] at run;have same:aR c.ii.am c.ci c.ae.bv c.ai.ce c.io↔aY c:=by rw [aY.iff fit];exact ⟨fun h=>⟨lK,ju,sM,lD,w2,hd,known,h⟩,fun h=>h.2.2.2.2.2.2.2⟩
 simp only [same] at run;simp only [lm];exact run
section
variable {l : List Pt} {t : Int × Int}
theorem aR.iJ {H:List Ev} {x:qX} {cs ds:List qX} (h:(bE l x.2 t).2=aeS):aR l t H (x::cs) ds↔ ∃d yt,ds=d::yt/\d.1=x.1/\(((bE l x.2 t).1.1,(bE l x.2 t).1.2,x.1,d.2):Ev)∈H/\aR l t H cs yt:=
 ⟨fun k=>k.1 h,fun k=>⟨fun _=>k,fun k'=>(by rw [h] at k';cases k')⟩⟩
theorem aR.gy {H:List Ev} {x:qX} {cs ds:List qX} (h:(bE l x.2 t).2=aeU):aR l t H (x::cs) ds↔aR l t H cs ds:=
 ⟨fun k=>k.2 h,fun k=>⟨fun k'=>(by rw [h] at k';cases k'),fun _=>k⟩⟩
theorem aR.mono {H H':List Ev}: ∀{cs ds:List qX},(∀x∈cs,∀e:Ev,e.num=x.1->e∈H->e∈H')->aR l t H cs ds->aR l t H' cs ds
 | [],_,_,h=>h
 |x::cs,ds,hm,h=>by
  have CW: ∀y∈cs,∀e:Ev,e.num=y.1->e∈H->e∈H':=fun y hy=>hm y (by simp [hy])
  cases hx:(bE l x.2 t).2 with
  |true=>rw [aR.iJ hx] at h ⊢;obtain ⟨d,yt,h1,h2,h3,h4⟩:=h;exact ⟨d,yt,h1,h2,hm x (by simp) _ rfl h3,aR.mono CW h4⟩
  |false=>rw [aR.gy hx] at h ⊢;exact aR.mono CW h
theorem aR.io {H:List Ev}: ∀{cs ds:List qX},aR l t H cs ds-> ∀d∈ds,∃x∈cs,d.1=x.1/\(bE l x.2 t).2=aeS/\(((bE l x.2 t).1.1,(bE l x.2 t).1.2,x.1,d.2):Ev)∈H
 | [],ds,h,d,hd=>by have:ds=[]:=h;subst this;cases hd
 |x::cs,ds,h,d,hd=>by
  cases hx:(bE l x.2 t).2 with
  |true=>
   rw [aR.iJ hx] at h;obtain ⟨e,yt,h1,h2,h3,h4⟩:=h;subst h1;rcases adK.1 hd with rfl|hd
   · exact ⟨x,by simp,h2,hx,h3⟩
   obtain ⟨y,hy,k⟩:=aR.io h4 d hd
   exact ⟨y,by simp [hy],k⟩
  |false=>rw [aR.gy hx] at h;obtain ⟨y,hy,k⟩:=aR.io h d hd;exact ⟨y,by simp [hy],k⟩
theorem aR.has {H:List Ev}: ∀{cs ds:List qX},aR l t H cs ds-> ∀x∈cs,(bE l x.2 t).2=aeS-> ∃d∈ds,d.1=x.1/\(((bE l x.2 t).1.1,(bE l x.2 t).1.2,x.1,d.2):Ev)∈H
 | [],_,_,x,hx,_=>by cases hx
 |y::cs,ds,h,x,hx,hf=>by
  cases hy:(bE l y.2 t).2 with
  |true=>
   rw [aR.iJ hy] at h;obtain ⟨e,yt,h1,h2,h3,h4⟩:=h;subst h1;rcases adK.1 hx with rfl|hx
   · exact ⟨e,by simp,h2,h3⟩
   obtain ⟨d,hd,k⟩:=aR.has h4 x hx hf
   exact ⟨d,by simp [hd],k⟩
  |false=>
   rw [aR.gy hy] at h;rcases adK.1 hx with rfl|hx
   · rw [hf] at hy;cases hy
   exact aR.has h x hx hf
def Up (cs:List qX):Prop:=cs.Pairwise fun x y=>x.1<y.1
theorem sC {cs:List qX}:Up cs↔ ∀i j,i<j->j<aeF cs->(cs[i]!).1<(cs[j]!).1:=by
 unfold Up;rw [List.pairwise_iff_getElem];constructor
 · intro h i j lL hj
   rw [getElem!_pos cs i (by omega),getElem!_pos cs j hj];exact h i j (by omega) hj lL
 intro h i j hi hj lL
 have:=h i j lL hj
 rwa [getElem!_pos cs i hi,getElem!_pos cs j hj] at this
theorem aR.up {H:List Ev}: ∀{cs ds:List qX},aR l t H cs ds->Up cs->Up ds
 | [],ds,h,_=>by have:ds=[]:=h;subst this;exact List.Pairwise.nil
 |x::cs,ds,h,hu=>by
  have CB:=adP.1 hu;cases hx:(bE l x.2 t).2 with
  |true=>rw [aR.iJ hx] at h;obtain ⟨e,yt,h1,h2,h3,h4⟩:=h;subst h1;refine adP.2 ⟨fun d hd=>?_,aR.up h4 CB.2⟩;obtain ⟨y,hy,k,_⟩:=aR.io h4 d hd;have:=CB.1 y hy;omega
  |false=>rw [aR.gy hx] at h;exact aR.up h CB.2
theorem aR.snoc {H:List Ev}: ∀{cs ds:List qX} {x:qX},aR l t H cs ds->((bE l x.2 t).2=aeU->aR l t H (cs++[x]) ds)/\
 (∀d:qX,(bE l x.2 t).2=aeS->d.1=x.1->(((bE l x.2 t).1.1,(bE l x.2 t).1.2,x.1,d.2):Ev)∈H->aR l t H (cs++[x]) (ds++[d]))
 | [],ds,x,h=>by have:ds=[]:=h;subst this;refine ⟨fun hx=>(aR.gy hx).2 rfl,fun d hx h1 h2=>(aR.iJ hx).2 ⟨d,[],rfl,h1,h2,rfl⟩⟩
 |y::cs,ds,x,h=>by
  cases hy:(bE l y.2 t).2 with
  |true=>rw [aR.iJ hy] at h;obtain ⟨e,yt,h1,h2,h3,h4⟩:=h;subst h1;have ih:=aR.snoc (x:=x) h4;refine ⟨fun hx=>(aR.iJ hy).2 ⟨e,yt,rfl,h2,h3,ih.1 hx⟩,fun d hx k1 k2=>(aR.iJ hy).2 ⟨e,yt++[d],rfl,h2,h3,ih.2 d hx k1 k2⟩⟩
  |false=>rw [aR.gy hy] at h;have ih:=aR.snoc (x:=x) h;exact ⟨fun hx=>(aR.gy hy).2 (ih.1 hx),fun d hx k1 k2=>(aR.gy hy).2 (ih.2 d hx k1 k2)⟩
theorem aR.erase {H:List Ev}: ∀{cs ds:List qX} {i:Nat},aR l t H cs ds->i<aeF cs->((bE l (cs[i]!).2 t).2=aeU->aR l t H (cs.eraseIdx i) ds)/\
 ((bE l (cs[i]!).2 t).2=aeS-> ∃k,k<aeF ds/\(ds[k]!).1=(cs[i]!).1/\(((bE l (cs[i]!).2 t).1.1,(bE l (cs[i]!).2 t).1.2,(cs[i]!).1,(ds[k]!).2):Ev)∈H/\aR l t H (cs.eraseIdx i) (ds.eraseIdx k))
 | [],_,i,_,hi=>by cases hi
 |y::cs,ds,0,h,_=>by show ((bE l y.2 t).2=aeU->aR l t H cs ds)/\((bE l y.2 t).2=aeS-> ∃k,k<aeF ds/\(ds[k]!).1=y.1/\(((bE l y.2 t).1.1,(bE l y.2 t).1.2,y.1,(ds[k]!).2):Ev)∈H/\aR l t H cs (ds.eraseIdx k));refine ⟨fun hy=>(aR.gy hy).1 h,fun hy=>?_⟩;obtain ⟨e,yt,h1,h2,h3,h4⟩:=(aR.iJ hy).1 h;subst h1;exact ⟨0,by simp,h2,h3,h4⟩
 |y::cs,ds,i+1,h,hi=>by
  have uY:i<(aeF cs):=by simpa using hi
  show ((bE l (cs[i]!).2 t).2=aeU->aR l t H (y::cs.eraseIdx i) ds)/\((bE l (cs[i]!).2 t).2=aeS-> ∃k,k<aeF ds/\(ds[k]!).1=(cs[i]!).1/\(((bE l (cs[i]!).2 t).1.1,(bE l (cs[i]!).2 t).1.2,(cs[i]!).1,(ds[k]!).2):Ev)∈H/\aR l t H (y::cs.eraseIdx i) (ds.eraseIdx k));cases hy:(bE l y.2 t).2 with
  |true=>obtain ⟨e,yt,h1,h2,h3,h4⟩:=(aR.iJ hy).1 h;subst h1;have ih:=aR.erase (i:=i) h4 uY;refine ⟨fun hx=>(aR.iJ hy).2 ⟨e,yt,rfl,h2,h3,ih.1 hx⟩,fun hx=>?_⟩;obtain ⟨k,k1,k2,k3,k4⟩:=ih.2 hx;exact ⟨k+1,by simp;omega,k2,k3,(aR.iJ hy).2 ⟨e,yt.eraseIdx k,rfl,h2,h3,k4⟩⟩
  |false=>have h:=(aR.gy hy).1 h;have ih:=aR.erase (i:=i) h uY;refine ⟨fun hx=>(aR.gy hy).2 (ih.1 hx),fun hx=>?_⟩;obtain ⟨k,k1,k2,k3,k4⟩:=ih.2 hx;exact ⟨k,k1,k2,k3,(aR.gy hy).2 k4⟩
end
theorem D7 {H:List Ev} {ns:List Int} (hd:ns.Nodup) (hl:(aeF H)<=aeF ns) (he: ∀n∈ns,∃e∈H,Ev.num e=n): ∀e∈H,Ev.num e∈ns:=by
 have pos: ∀n,n∈ns-> ∃w,w<aeF H/\Ev.num H[w]! =n:=fun n hn=>by obtain ⟨e,he,h2⟩:=he n hn;obtain ⟨w,hw,rfl⟩:=aO.1 he;exact ⟨w,hw,h2⟩
 let f:Int->Nat:=fun n=>if h: ∃w,w<aeF H/\Ev.num H[w]! =n then h.choose else 0
 have hf: ∀n∈ns,f n<aeF H/\Ev.num H[f n]! =n:=fun n hn=>by have h:=pos n hn;show (if h: ∃w,w<aeF H/\Ev.num H[w]! =n then h.choose else 0)<_/\Ev.num H[(if h: ∃w,w<aeF H/\Ev.num H[w]! =n then h.choose else 0)]! =n;rw [dif_pos h];exact h.choose_spec
 have full:=D3 (n:=aeF H) (l:=ns.map f) (zK hd fun x hx y hy h=>by
  have h1:=(hf x hx).2;have h2:=(hf y hy).2;rw [h] at h1;omega) (fun x hx=>by
  obtain ⟨n,hn,rfl⟩:=NE.1 hx;exact (hf n hn).1) (by rw [aej];exact hl)
 intro e hm;obtain ⟨w,hw,rfl⟩:=aO.1 hm;obtain ⟨n,hn,h⟩:=NE.1 (full w hw);rw [<- h,(hf n hn).2];exact hn
theorem My {cs:List qX} (h:Up cs):(cs.map fun x=>x.1).Nodup:=by
 refine zK ?_ ?_
 · unfold Up at h
   exact h.imp fun QK he=>by rw [he] at QK;omega
 intro x hx y hy he
 obtain ⟨i,hi,rfl⟩:=aO.1 hx;obtain ⟨j,hj,rfl⟩:=aO.1 hy;rcases adc i j with h1|h1|h1
 · have:=sC.1 h i j h1 hj;omega
 · rw [h1]
 have:=sC.1 h j i h1 hi;omega
theorem aY.vz {c:aK} (ok:aY c):Up c.ai.ce:=sC.2 ok.sM.up
theorem aY.GN {c:aK} (ok:aY c):Up c.io:=ok.Bd.up ok.vz
theorem aY.Bc {c:aK} (ok:aY c): ∀e∈c.ae.bv,∃d∈c.io,d.1=Ev.num e:=by have:=D7 (H:=c.ae.bv) (My ok.GN) (by rw [aej,ok.hd];exact ww _) (fun n hn=>by obtain ⟨d,hd,rfl⟩:=NE.1 hn;obtain ⟨x,hx,h1,h2,h3⟩:=ok.Bd.io d hd;exact ⟨_,h3,h1.symm⟩);intro e he;obtain ⟨d,hd,h⟩:=NE.1 (this e he);exact ⟨d,hd,h⟩
end Go.Proofs.YtbgoiokedpjgbaaGreat
