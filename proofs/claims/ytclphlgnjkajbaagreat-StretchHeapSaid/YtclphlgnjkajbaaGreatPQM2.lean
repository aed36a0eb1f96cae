/- Plain laws (2). -/
import Derived.Test.YtclphlgnjkajbaaGreatPQM1
open Classical renaming not_not->v4,not_forall->EQ,not_imp->IR
open List renaming length_set->v6,length_take->If,take_of_length_le->M2,take_append_of_le_length->NE,mem_map->UV,append_assoc->adc,drop_length->adR,drop_eq_nil_iff->adT,length_append->adV,set_eq_of_length_le->ae0,length_drop->ae1,drop_eq_nil_of_le->ae6,drop_zero->aen,filter_eq_self->aeo,mem_cons->aeq,getElem?_take->aer,filter_append->aes,pairwise_cons->aet,getElem?_set->aeu,length_cons->aev,isEmpty_iff->aew,length_nil->aey,append_nil->aez,length_map->aeA,replicate->aeB,take_take->aeC,set_comm->aeF,length->aeK
open Bool renaming not_true->ww,not_false->acl,eq_iff_iff->ae7,and_eq_true->aex,and_self->aeG,true->aeM,false->aeQ
open Int renaming toNat_natCast->AC,lt_irrefl->aep
open Nat renaming le_refl->Do,ble_eq_true_of_le->adM,lt_trichotomy->adZ,sub_self->ae5,eq_of_beq_eq_true->ae8,le_trans->aeH,beq->aeI,min_self->aeJ
open Prod renaming ext->PP,fst->aeD,snd->aeE
open Iff renaming rfl->ae2
open Option renaming some->aeL
open Decidable renaming decide->aeR
namespace Go.Proofs.YtclphlgnjkajbaaGreat
open Go.Vm Classical
theorem GS (a:aF) (fit:wN a) (so:dW a.ae) (wl:(aeK a.aj)=aeK a.ae.au):
 aE jD (a.aj,((aeK a.aj):Int),0,a.ae.au,a.ae.be,a.ae.bi,a.bv,a.aj)=aeL (if (∀i,i<aeK a.ae.au->D6 a i)/\(∀k,k<aeK a.bv->EP a.bv k) then 0 else 8):=by
 have hu:=so.ul;have hn:=so.n2;have hh:=fit.hp;have wK:=GR a.bv a.ae.au a.ae.bi a.aj a.ae.be fit.hp fit.D5;have key:=c7 (body:=jD) (fun i=>(a.aj,((aeK a.aj):Int),(i:Int),a.ae.au,a.ae.be,a.ae.bi,a.bv,a.aj)) (aeK a.aj) (fun i=> ¬D6 a i) (r:=8) (e:=if (∀k,k<aeK a.bv->EP a.bv k) then 0 else 8) (fun i hi=>by
  have e1:aeR ((i:Int)<((aeK a.aj):Int))=aeM:=aM (by omega);unfold jD;simp only [aB,e1,pi,az a.aj i hi,az a.ae.be i (by omega),az a.ae.au i (by omega),ax,ba (show i<1000000000 by omega)];unfold D6;generalize a.aj[i]! =w at*;cases hb:a.ae.be[i]! with
  |false=>
   simp only [acl,pi]
   by_cases hw:w= -1
   · rw [bz hw]
     exact ⟨fun h=>absurd ⟨fun h=>(by cases h),fun _=>hw⟩ h,fun _=>rfl⟩
   rw [dK hw]
   exact ⟨fun _=>rfl,fun h=>absurd ((v4.1 h).2 trivial) hw⟩
  |true=>
   simp only [ww,pp]
   by_cases b1:w<0
   · rw [aM b1]
     exact ⟨fun _=>rfl,fun h=>absurd ((v4.1 h).1 trivial).1 (by omega)⟩
   by_cases b2:((aeK a.bv):Int)<=w
   · rw [aJ b1,aM b2]
     exact ⟨fun _=>rfl,fun h=>absurd ((v4.1 h).1 trivial).2.1 (by omega)⟩
   rw [aJ b1,aJ b2];simp only [pp,df (l:=a.bv) (i:=w) (by omega) (by omega),ax]
   by_cases b3:(a.bv[w.toNat]!).2.2.2.1=i
   · by_cases b4:(a.bv[w.toNat]!).2.2.2.2=a.ae.au[i]!
     · rw [fb b3,fb b4]
       exact ⟨fun h=>absurd ⟨fun _=>⟨by omega,by omega,b3,b4⟩,fun h=>(by cases h)⟩ h,fun _=>rfl⟩
     rw [fb b3,eY b4]
     exact ⟨fun _=>rfl,fun h=>absurd ((v4.1 h).1 trivial).2.2.2 b4⟩
   rw [eY b3]
   exact ⟨fun _=>rfl,fun h=>absurd ((v4.1 h).1 trivial).2.2.1 b3⟩) (by
  unfold jD;have:aeR (((aeK a.aj):Int)<((aeK a.aj):Int))=aeQ:=aJ (by omega);simp only [aB,this,pp]
  by_cases hx: ∀k,k<aeK a.bv->EP a.bv k
  · rw [rc hx];exact wK.1 hx
  rw [ut hx];exact wK.2 hx)
 by_cases hw: ∀i,i<aeK a.ae.au->D6 a i
 · refine (key.2 fun i hi=>v4.2 (hw i (by omega))).trans ?_
   by_cases hx: ∀k,k<aeK a.bv->EP a.bv k
   · rw [rc hx,rc ⟨hw,hx⟩]
   rw [ut hx,ut (fun h=>hx h.2)]
 rw [ut (fun h=>hw h.1)]
 obtain ⟨i,h⟩:=EQ.1 hw;obtain ⟨hi,hx⟩:=IR.1 h;exact key.1 ⟨i,by omega,hx⟩
theorem gO (a:aF) (fit:wN a):gV a=aeL (if dT a then 0 else 8):=by
 have hh:=fit.hp;unfold gV;rw [sy _ fit.fr];simp only [aB]
 by_cases so:dW a.ae
 case neg=>rw [ut so,ut (fun h=>so h.so)];rfl
 have hu:=so.ul;have hn:=so.n2;have hf:=so.fl;rw [rc so];simp only [ax,show ((0:Int) !=0)=aeQ from rfl,pp]
 by_cases wl:(aeK a.aj)=aeK a.ae.au
 case neg=>rw [dK (by omega),ut (fun h=>wl h.wl)];rfl
 rw [bz (by omega)];have e:ai .i64 (((aeK a.ae.be):Int) - ((aeK a.ae.bi):Int))=((aeK a.ae.au-(aeK a.ae.bi):Nat):Int):=by rw [wi];omega
 rw [e]
 by_cases hl:(aeK a.bv)+aeK a.ae.bi=aeK a.ae.au
 case neg=>rw [dK (by omega),ut (fun h=>hl h.hl)];rfl
 rw [bz (by omega)];simp only [pp];rw [GS a fit so wl]
 by_cases ok:dT a
 · rw [rc ok,rc ok.to]
 rw [ut ok,ut]
 intro h;exact ok (dT.of fit so wl hl h.1 h.2)
theorem QT {x y:Ev} (hx:jw (x.1,x.2.1)) (hy:jw (y.1,y.2.1)):dE x y=aeL (aeR (less x y)):=by
 unfold dE less;rw [DQ hx hy];simp only [ax];generalize gq (x.1,x.2.1) (y.1,y.2.1)=c
 by_cases h1:c<0
 · simp [h1]
 by_cases h2:c=0
 · subst h2;simp
 simp only [h1,eY h2,h2,decide_false,pp,false_or,false_and]
theorem MC {s:aQ} (ok:dW s) (h:Int×Int):qv s h=aeL (aeR (rI s h)):=by
 have hu:=ok.ul;unfold qv rI;simp only [aB]
 by_cases a1:0<=h.1
 · by_cases a2:h.1<aeK s.au
   · simp only [a1,a2,decide_true,pi,df (l:=s.be) a1 (by omega),df (l:=s.au) a1 a2,ax,true_and]
     generalize s.au[h.1.toNat]! =u;cases s.be[h.1.toNat]!<;>simp [My]
   simp [a1,a2]
 simp [a1]
theorem N4 (a:aF) (so:dW a.ae):pV a=aeL (aeR (aeK a.aj=aeK a.ae.au/\aeK a.bv+aeK a.ae.bi=aeK a.ae.au/\ ∀i,i<aeK a.ae.au->D6 a i)):=by
 have hu:=so.ul;have hn:=so.n2;have hf:=so.fl;unfold pV;simp only [aB]
 by_cases wl:(aeK a.aj)=aeK a.ae.au
 case neg=>rw [dK (by omega),aJ (fun h=>wl h.1)];rfl
 rw [bz (by omega)];have e:ai .i64 (((aeK a.ae.au):Int) - ((aeK a.ae.bi):Int))=((aeK a.ae.au-(aeK a.ae.bi):Nat):Int):=by rw [wi];omega
 rw [e]
 by_cases hl:(aeK a.bv)+aeK a.ae.bi=aeK a.ae.au
 case neg=>rw [dK (by omega),aJ (fun h=>hl h.2.1)];rfl
 rw [bz (by omega)];simp only [pp];have key:=c7 (body:=lq) (fun i=>(((aeK a.ae.au):Int),(i:Int),a.ae.au,a.ae.be,a.ae.bi,a.bv,a.aj)) (aeK a.ae.au) (fun i=> ¬D6 a i) (r:=aeQ) (e:=aeM) (fun i hi=>by
  have e1:aeR ((i:Int)<((aeK a.ae.au):Int))=aeM:=aM (by omega);unfold lq;simp only [aB,e1,pi,az a.aj i (by omega),az a.ae.be i (by omega),ax,ba (show i<1000000000 by omega)];unfold D6;generalize a.aj[i]! =w at*;cases hb:a.ae.be[i]! with
  |false=>
   simp only [acl,pi]
   by_cases hw:w= -1
   · rw [bz hw]
     exact ⟨fun h=>absurd ⟨fun h=>(by cases h),fun _=>hw⟩ h,fun _=>rfl⟩
   rw [dK hw]
   exact ⟨fun _=>rfl,fun h=>absurd ((v4.1 h).2 trivial) hw⟩
  |true=>
   simp only [ww,pp]
   by_cases b1:w<0
   · rw [aM b1]
     exact ⟨fun _=>rfl,fun h=>absurd ((v4.1 h).1 trivial).1 (by omega)⟩
   by_cases b2:((aeK a.bv):Int)<=w
   · rw [aJ b1,aM b2]
     exact ⟨fun _=>rfl,fun h=>absurd ((v4.1 h).1 trivial).2.1 (by omega)⟩
   rw [aJ b1,aJ b2];simp only [pp,df (l:=a.bv) (i:=w) (by omega) (by omega),ax]
   by_cases b3:(a.bv[w.toNat]!).2.2.2.1=i
   · rw [bz b3]
     simp only [pp];rw [MC (s:=⟨a.ae.au,a.ae.be,a.ae.bi⟩) so];have lv:rI ⟨a.ae.au,a.ae.be,a.ae.bi⟩ (a.bv[w.toNat]!).2.2.2↔(a.bv[w.toNat]!).2.2.2.2=a.ae.au[i]!:=by
      unfold rI;dsimp only;rw [b3];constructor
      · intro h;exact h.2.2.2.symm
      intro h;exact ⟨by omega,by omega,by rw [AC];exact hb,by rw [AC];exact h.symm⟩
     simp only [ax,lv]
     by_cases b4:(a.bv[w.toNat]!).2.2.2.2=a.ae.au[i]!
     · rw [aM b4]
       exact ⟨fun h=>absurd ⟨fun _=>⟨by omega,by omega,b3,b4⟩,fun h=>(by cases h)⟩ h,fun _=>rfl⟩
     rw [aJ b4]
     exact ⟨fun _=>rfl,fun h=>absurd ((v4.1 h).1 trivial).2.2.2 b4⟩
   rw [dK b3]
   exact ⟨fun _=>rfl,fun h=>absurd ((v4.1 h).1 trivial).2.2.1 b3⟩) (by
  unfold lq;have:aeR (((aeK a.ae.au):Int)<((aeK a.ae.au):Int))=aeQ:=aJ (by omega);simp only [this,pp])
 by_cases hw: ∀i,i<aeK a.ae.au->D6 a i
 · rw [aM ⟨wl,hl,hw⟩]
   exact key.2 fun i hi=>v4.2 (hw i hi)
 rw [aJ (fun h=>hw h.2.2)]
 obtain ⟨i,h⟩:=EQ.1 hw;obtain ⟨hi,hx⟩:=IR.1 h;exact key.1 ⟨i,hi,hx⟩
theorem IV (H:List Ev) (u fr W:List Int) (us:List Bool) (k:Nat) (hk:k<aeK H) (hl:(aeK H)<=1000000) (x:Ev):
 ((∃j,j<k/\(H[j]!).2.2.1=x.2.2.1)->aE iJ ((k:Int),0,u,us,fr,H,W,x)=aeL (.done 8))/\
 ((∀j,j<k-> ¬(H[j]!).2.2.1=x.2.2.1)->aE iJ ((k:Int),0,u,us,fr,H,W,x)=aeL (.next (((k+1:Nat):Int),u,us,fr,H,W))):=by
 refine c7 (body:=iJ) (fun j=>((k:Int),(j:Int),u,us,fr,H,W,x)) k (fun j=>(H[j]!).2.2.1=x.2.2.1) (r:= .done 8) (e:= .next (((k+1:Nat):Int),u,us,fr,H,W)) (fun j hj=>?_) ?_
 · have e1:aeR ((j:Int)<(k:Int))=aeM:=aM (by omega)
   unfold iJ;simp only [e1,pi,az H j (by omega),ax,ba (show j<1000000000 by omega)];constructor
   · intro h;rw [fb h];rfl
   intro h;rw [eY h];rfl
 unfold iJ
 have:aeR ((k:Int)<(k:Int))=aeQ:=aJ (by omega);simp only [this,pp,ba (show k<1000000000 by omega)]
theorem IW (H:List Ev) (u fr W:List Int) (us:List Bool) (hl:(aeK H)<=1000000) (mb: ∀w,w<aeK H->jw ((H[w]!).1,(H[w]!).2.1)):
 aE iK (1,u,us,fr,H,W)=aeL (.done (if∀k,0<k->k<aeK H-> ¬less H[k]! H[(k-1) / 2]! then 0 else 8)):=by
 by_cases h0:(aeK H)=0
 · rw [rc (fun k _ hk=>by omega)]
   refine aI ?_;unfold iK;have:aeR ((1:Int)<((aeK H):Int))=aeQ:=aJ (by omega);simp only [aB,this,pp]
 have key:=c7 (body:=iK) (fun i=>(((i+1:Nat):Int),u,us,fr,H,W)) (aeK H-1) (fun i=>less H[i+1]! H[i / 2]!) (r:= .done 8) (e:= .done 0) (fun i hi=>by
  have e1:aeR (((i+1:Nat):Int)<((aeK H):Int))=aeM:=aM (by omega);unfold iK;simp only [aB,e1,pi,pA (show i<1000000000 by omega),az H (i+1) (by omega),az H (i / 2) (by omega),ax,QT (mb (i+1) (by omega)) (mb (i / 2) (by omega)),ba (show i+1<1000000000 by omega)];constructor
  · intro h;rw [aM h];rfl
  · intro h;rw [aJ h];rfl) (by
  unfold iK;have:aeR (((aeK H-1+1:Nat):Int)<((aeK H):Int))=aeQ:=aJ (by omega);simp only [aB,this,pp])
 by_cases ho: ∀k,0<k->k<aeK H-> ¬less H[k]! H[(k-1) / 2]!
 · rw [rc ho]
   refine key.2 fun i hi hc=>ho (i+1) (by omega) (by omega) ?_
   rwa [show (i+1-1) / 2=i / 2 by omega]
 rw [ut ho]
 obtain ⟨k,h⟩:=EQ.1 ho;obtain ⟨k0,h⟩:=IR.1 h;obtain ⟨hk,hx⟩:=IR.1 h;refine key.1 ⟨k-1,by omega,?_⟩;rw [show k-1+1=k by omega];exact v4.1 hx
def GU (H:List Ev) (k:Nat):Prop:=bm ((H[k]!).1,(H[k]!).2.1)/\0<=(H[k]!).2.2.1/\(H[k]!).2.2.1<=1000000/\(∀j,j<k-> ¬(H[j]!).2.2.1=(H[k]!).2.2.1)
theorem wO (a:aF) (fit:wN a):oU a=aeL (if dT a then 0 else 8):=by
 have hh:=fit.hp;unfold oU;rw [D4 _ fit.fr]
 by_cases so:dW a.ae
 case neg=>rw [ut so,ut (fun h=>so h.so)];rfl
 rw [rc so];simp only [ax,show ((0:Int) !=0)=aeQ from rfl,pp,N4 a so]
 by_cases pl:(aeK a.aj)=aeK a.ae.au/\aeK a.bv+aeK a.ae.bi=aeK a.ae.au/\ ∀i,i<aeK a.ae.au->D6 a i
 case neg=>rw [aJ pl,ut (fun h=>pl ⟨h.wl,h.hl,h.to.1⟩)];rfl
 rw [aM pl];obtain ⟨wl,hl,hw⟩:=pl;simp only [ww,pp];have key:=c7 (body:=mM) (fun k=>((k:Int),a.ae.au,a.ae.be,a.ae.bi,a.bv,a.aj)) (aeK a.bv) (fun k=> ¬GU a.bv k) (r:=8) (e:=if∀k,0<k->k<aeK a.bv-> ¬less a.bv[k]! a.bv[(k-1) / 2]! then 0 else 8) (fun k hk=>by
  have e1:aeR ((k:Int)<((aeK a.bv):Int))=aeM:=aM (by omega);have l1:=IV a.bv a.ae.au a.ae.bi a.aj a.ae.be k hk hh a.bv[k]!;unfold mM;simp only [aB,e1,pi,az a.bv k hk,ax,qF (fit.D5 k hk)];unfold GU
  by_cases b1:bm ((a.bv[k]!).1,(a.bv[k]!).2.1)
  case neg=>rw [ut b1];exact ⟨fun _=>rfl,fun h=>absurd (v4.1 h).1 b1⟩
  rw [rc b1]
  by_cases b2:(a.bv[k]!).2.2.1<0
  · rw [aM b2]
    exact ⟨fun _=>rfl,fun h=>absurd (v4.1 h).2.1 (by omega)⟩
  by_cases b3:1000000<(a.bv[k]!).2.2.1
  · rw [aJ b2,aM b3]
    exact ⟨fun _=>rfl,fun h=>absurd (v4.1 h).2.2.1 (by omega)⟩
  rw [aJ b2,aJ b3];simp only [show ((0:Int) !=0)=aeQ from rfl,pp]
  by_cases b4: ∃j,j<k/\(a.bv[j]!).2.2.1=(a.bv[k]!).2.2.1
  · refine ⟨fun _=>l1.1 b4,fun h=>?_⟩
    obtain ⟨j,j1,j2⟩:=b4;exact absurd j2 ((v4.1 h).2.2.2 j j1)
  · have b4': ∀j,j<k-> ¬(a.bv[j]!).2.2.1=(a.bv[k]!).2.2.1:=fun j h1 h2=>b4 ⟨j,h1,h2⟩
    exact ⟨fun h=>absurd ⟨b1,by omega,by omega,b4'⟩ h,fun _=>l1.2 b4'⟩) (by
  unfold mM;have:aeR (((aeK a.bv):Int)<((aeK a.bv):Int))=aeQ:=aJ (by omega);simp only [aB,this,pp];exact IW a.bv _ _ _ _ hh fit.D5)
 have same:dT a↔(∀k,k<aeK a.bv->GU a.bv k)/\ ∀k,0<k->k<aeK a.bv-> ¬less a.bv[k]! a.bv[(k-1) / 2]!:=by
  constructor
  · intro ok
    refine ⟨fun k hk=>?_,ok.ord⟩;have:=ok.to.2 k hk;exact ⟨this.1,this.2.1,this.2.2.1,this.2.2.2.1⟩
  rintro ⟨h1,h2⟩
  refine dT.of fit so wl hl hw fun k hk=>?_
  obtain ⟨c1,c2,c3,c4⟩:=h1 k hk;refine ⟨c1,c2,c3,c4,fun k0=>?_⟩;unfold K2;rw [rc ⟨c1,(h1 ((k-1) / 2) (by omega)).1⟩,z8];exact h2 k k0 hk
 by_cases he: ∀k,k<aeK a.bv->GU a.bv k
 · refine (key.2 fun i hi=>v4.2 (he i hi)).trans ?_
   by_cases ho: ∀k,0<k->k<aeK a.bv-> ¬less a.bv[k]! a.bv[(k-1) / 2]!
   · rw [rc ho,rc (same.2 ⟨he,ho⟩)]
   rw [ut ho,ut (fun h=>ho (same.1 h).2)]
 rw [ut (fun h=>he (same.1 h).1)]
 obtain ⟨i,h⟩:=EQ.1 he;obtain ⟨hi,hx⟩:=IR.1 h;exact key.1 ⟨i,hi,hx⟩
theorem yb {l:List Ev} {n:Nat} {e:Ev} (hn:n<=aeK l):e∈l.take n↔ ∃w,w<n/\l[w]! =e:=by
 rw [cN];constructor
 · rintro ⟨i,h1,_,h3⟩;exact ⟨i,h1,h3⟩
 rintro ⟨i,h1,h3⟩;exact ⟨i,h1,by omega,h3⟩
theorem Y2 {s:aQ} (so:dW s) {n:Nat} {H:List Ev} {W:List Int} (E:Ev->Prop) (hn:n<=aeK H) (wl:(aeK W)=aeK s.au) (hl:n+aeK s.bi=aeK s.au)
 (ix: ∀w,w<n->0<=(H[w]!).ix/\(H[w]!).ix<aeK W/\W[(H[w]!).n]! =(w:Int)) (mem: ∀e,(∃w,w<n/\H[w]! =e)↔E e) (ord: ∀k,0<k->k<n-> ¬less H[k]! H[(k-1) / 2]!)
 (ue: ∀i,i<aeK s.au->s.be[i]! =aeM-> ∃e:Ev,E e/\e.ix=i/\e.2.2.2.2=s.au[i]!) (un: ∀i,i<aeK s.au->s.be[i]! =aeQ->W[i]! = -1)
 (ev: ∀e,E e->nV e) (xI: ∀e f:Ev,E e->E f->e.num=f.num->e.ix=f.ix):dT ⟨s,H.take n,W⟩:=by
 have len:(H.take n).length=n:=by rw [If];omega
 have cell: ∀w,w<n->(H.take n)[w]! =H[w]!:=fun w hw=>jK hw
 refine ⟨so,wl,by show (H.take n).length+_=_;rw [len];exact hl,?_,un,?_,?_,?_⟩
 · intro i hi hu
   dsimp only at hi hu ⊢;rw [len];obtain ⟨e,he,e1,e2⟩:=ue i hi hu;obtain ⟨w,hw,rfl⟩:=(mem e).2 he;obtain ⟨a1,a2,a3⟩:=ix w hw;have hn':(H[w]!).n=i:=by show ((H[w]!).ix).toNat=i;omega
   rw [hn'] at a3;rw [a3,AC,cell w hw];exact ⟨by omega,by omega,e1,e2⟩
 · intro w hw
   dsimp only at hw ⊢;rw [len] at hw;rw [cell w hw];exact ev _ ((mem _).1 ⟨w,hw,rfl⟩)
 · intro v w hv hw
   dsimp only at hw ⊢;rw [len] at hw;rw [cell v (by omega),cell w hw];intro hc;have:=xI _ _ ((mem _).1 ⟨v,by omega,rfl⟩) ((mem _).1 ⟨w,hw,rfl⟩) hc;obtain ⟨a1,a2,a3⟩:=ix v (by omega);obtain ⟨b1,b2,b3⟩:=ix w hw;have hn':(H[v]!).n=(H[w]!).n:=by show ((H[v]!).ix).toNat=((H[w]!).ix).toNat;rw [this]
   rw [hn'] at a3;omega
 intro k k0 hk
 dsimp only at hk ⊢;rw [len] at hk;rw [cell k hk,cell _ (by omega)];exact ord k k0 hk
theorem sC {s:aQ} (so:dW s) {n:Nat} {x:Ev} {M:Ev->Prop} {K:Nat->Prop} {H H1:List Ev} {W W1:List Int} (st:xw n x M K H W H1 W1) (hn:n<=aeK H) (wl:(aeK W)=aeK s.au) (hl:n+aeK s.bi=aeK s.au)
 (ue: ∀i,i<aeK s.au->s.be[i]! =aeM-> ∃e:Ev,(e=x\/M e)/\e.ix=i/\e.2.2.2.2=s.au[i]!) (un: ∀i,i<aeK s.au->s.be[i]! =aeQ->K i/\W[i]! = -1)
 (ev: ∀e,(e=x\/M e)->nV e) (xI: ∀e f:Ev,(e=x\/M e)->(f=x\/M f)->e.num=f.num->e.ix=f.ix):dT ⟨s,H1.take n,W1⟩:=by
 refine Y2 so (fun e=>e=x\/M e) (by rw [st.hl];exact hn) (by rw [st.wl];exact wl) hl (by rw [st.wl];exact st.ix) st.mem st.ord ue ?_ ev xI;intro i hi hu;rw [st.out i (un i hi hu).1];exact (un i hi hu).2
theorem dT.bd {a:aF} (ok:dT a):(aeK a.bv)<=200/\aeK a.aj<=200:=by have:=ok.hl;have:=ok.wl;have:=ok.so.n2;omega
theorem dT.cells {a:aF} (ok:dT a):kz (aeK a.bv) a.bv a.aj:=by have:=ok.bd;refine ⟨Do _,by omega,fun w hw=>?_⟩;obtain ⟨b1,b2,b3,b4,b5⟩:=ok.back hw;exact ⟨ok.ev w hw,b1,by rw [ok.wl];exact b2⟩
theorem dT.inj {a:aF} (ok:dT a) {v w:Nat} (hv:v<aeK a.bv) (hw:w<aeK a.bv) (h:Ev.ix a.bv[v]! =Ev.ix a.bv[w]!):v=w:=by
 have h1:=(ok.back hv).2.2.2.2;have h2:=(ok.back hw).2.2.2.2;have:Ev.n a.bv[v]! =Ev.n a.bv[w]!:=by show (Ev.ix a.bv[v]!).toNat=(Ev.ix a.bv[w]!).toNat;rw [h]
 rw [this] at h1;omega
theorem dT.IP {a:aF} (ok:dT a) {i k:Nat} (i0:0<i) (k0:0<k) (hk:k<aeK a.bv) (hp:(k-1) / 2=i): ¬less a.bv[k]! a.bv[(i-1) / 2]!:=by have h1:=ok.ord k k0 hk;rw [hp] at h1;exact tf (ok.ev _ (by omega)).den (ok.ev _ (by omega)).den (ok.ev _ hk).den (ok.ord i i0 (by omega)) h1
theorem dT.live {a:aF} (ok:dT a) {h:Int×Int} (lv:rI a.ae h): ∃i,i<aeK a.bv/\a.aj[h.1.toNat]! =(i:Int)/\(a.bv[i]!).2.2.2=h:=by
 obtain ⟨l1,l2,l3,l4⟩:=lv;obtain ⟨f1,f2,f3,f4⟩:=ok.fwd h.1.toNat (by omega) l3;refine ⟨(a.aj[h.1.toNat]!).toNat,by omega,by omega,?_⟩;have e1:(a.bv[(a.aj[h.1.toNat]!).toNat]!).2.2.2.1=h.1:=by have:Ev.ix a.bv[(a.aj[h.1.toNat]!).toNat]! =(h.1.toNat:Int):=f3;have h2:Ev.ix a.bv[(a.aj[h.1.toNat]!).toNat]! =(a.bv[(a.aj[h.1.toNat]!).toNat]!).2.2.2.1:=rfl;omega
 exact PP e1 (by rw [f4,l4])
theorem dT.handle {a:aF} (ok:dT a) {i:Nat} (hi:i<aeK a.bv):rI a.ae (a.bv[i]!).2.2.2/\a.aj[((a.bv[i]!).2.2.2.1).toNat]! =(i:Int):=by obtain ⟨b1,b2,b3,b4,b5⟩:=ok.back hi;exact ⟨⟨b1,b2,b3,b4⟩,b5⟩
theorem dT.Co {a:aF} (ok:dT a) {i:Nat} (hi:i<aeK a.ae.au) (hu:a.ae.be[i]! =aeM): ∃w,w<aeK a.bv/\Ev.ix a.bv[w]! =i/\(a.bv[w]!).2.2.2.2=a.ae.au[i]!:=by obtain ⟨f1,f2,f3,f4⟩:=ok.fwd i hi hu;exact ⟨(a.aj[i]!).toNat,by omega,f3,f4⟩
theorem dT.FD {a:aF} (ok:dT a) {i:Nat} (hu:a.ae.be[i]! =aeQ) {w:Nat} (hw:w<aeK a.bv):Ev.n a.bv[w]!≠i:=by intro h;have:=(ok.back hw).2.2.1;rw [h,hu] at this;cases this
theorem dT.xI {a:aF} (ok:dT a) {v w:Nat} (hv:v<aeK a.bv) (hw:w<aeK a.bv) (h:Ev.num a.bv[v]! =Ev.num a.bv[w]!):v=w:=by
 rcases adZ v w with h1|h1|h1
 · exact absurd h (ok.nd v w h1 hw)
 · exact h1
 exact absurd h.symm (ok.nd w v h1 hv)
theorem eo {α:Type} [Inhabited α] {l:List α} {k:Nat} {v:α} (h:l[k]! =v):l.set k v=l:=by
 by_cases hk:k<aeK l
 · apply wJ (by rw [v6])
   intro i hi;rw [bg];split
   · rename_i e;rw [e.1];exact h.symm
   rfl
 exact ae0 (by omega)
def nW (x:Ev) (t:Int×Int):Ev:=(t.1,t.2,x.2.2)
noncomputable def iA (a:aF) (i:Nat) (t:Int×Int):aF:=⟨a.ae,(bX (aeK a.bv) (nW a.bv[i]! t) i a.bv a.aj).1,(bX (aeK a.bv) (nW a.bv[i]! t) i a.bv a.aj).2⟩
theorem D7 {a:aF} (ok:dT a) {i:Nat} (hi:i<aeK a.bv) {t:Int×Int} (ht:bm t) (h64:jw t):nV (nW a.bv[i]! t):=by have:=ok.ev i hi;exact ⟨ht,h64,this.2.2.1,this.2.2.2⟩
theorem D8 {a:aF} (ok:dT a) {i:Nat} (hi:i<aeK a.bv) (t:Int×Int):yU (aeK a.bv) (nW a.bv[i]! t) (fun e=> ∃w,w<aeK a.bv/\w≠i/\a.bv[w]! =e) a.bv a.aj i:=by obtain ⟨b1,b2,b3,b4,b5⟩:=ok.back hi;refine ⟨hi,Do _,fun w hw GO=>?_,b1,by rw [ok.wl];exact b2,fun e=>ae2⟩;obtain ⟨c1,c2,c3,c4,c5⟩:=ok.back hw;exact ⟨c1,by rw [ok.wl];exact c2,c5,fun h=>GO (ok.inj hw hi h)⟩
theorem FE {a:aF} (ok:dT a) (i:Nat):Ord (aeK a.bv) a.bv i:=
 ⟨fun w hw=>(ok.ev w hw).den,fun k k0 hk _ _=>ok.ord k k0 hk,fun i0 _k k0 hk hp=>ok.IP i0 k0 hk hp⟩
theorem la {a:aF} (ok:dT a) {i:Nat} (hi:i<aeK a.bv) {t:Int×Int} (ht:bm t):
 xw (aeK a.bv) (nW a.bv[i]! t) (fun e=> ∃w,w<aeK a.bv/\w≠i/\a.bv[w]! =e) (fun k=>k≠Ev.n (nW a.bv[i]! t)/\ ∀w,w<aeK a.bv->w≠i->Ev.n a.bv[w]!≠k) a.bv a.aj (iA a i t).bv (iA a i t).aj:=
 wL (x:=nW a.bv[i]! t) ht.1 (D8 ok hi t) (FE ok i)
theorem Bd {a:aF} (ok:dT a) {i:Nat} (hi:i<aeK a.bv) {t:Int×Int} (ht:bm t):(iA a i t).bv.length=aeK a.bv/\(iA a i t).aj.length=(aeK a.aj):=
 ⟨(la ok hi ht).hl,(la ok hi ht).wl⟩
theorem N5 {a:aF} (ok:dT a) {i:Nat} (hi:i<aeK a.bv) {t:Int×Int} (ht:bm t) (e:Ev):e∈(iA a i t).bv↔(e=nW a.bv[i]! t\/(e∈a.bv/\e≠a.bv[i]!)):=by
 have st:=la ok hi ht;have h1:e∈(iA a i t).bv↔ ∃w,w<aeK a.bv/\((iA a i t).bv)[w]! =e:=by rw [aS,(Bd ok hi ht).1]
 rw [h1];refine (st.mem e).trans ?_;constructor
 · rintro (h|⟨w,hw,GO,rfl⟩)
   · exact .inl h
   exact .inr ⟨bj hw,fun h=>GO (ok.inj hw hi (by rw [h]))⟩
 rintro (h|⟨h,dZ⟩)
 · exact .inl h
 obtain ⟨w,hw,rfl⟩:=aS.1 h
 exact .inr ⟨w,hw,fun h=>dZ (by rw [h]),rfl⟩
theorem QU {a:aF} (ok:dT a) {i:Nat} (hi:i<aeK a.bv) {t:Int×Int} (ht:bm t) (h64:jw t):dT (iA a i t):=by
 have st:=la ok hi ht;have len:=(Bd ok hi ht).1;have hx:Ev.ix (nW a.bv[i]! t)=Ev.ix a.bv[i]!:=rfl;have key:=sC ok.so st (Do _) ok.wl ok.hl (fun j hj hu=>by
  obtain ⟨w,hw,e1,e2⟩:=ok.Co hj hu
  by_cases e:w=i
  · subst e;exact ⟨nW a.bv[w]! t,.inl rfl,e1,e2⟩
  · exact ⟨a.bv[w]!,.inr ⟨w,hw,e,rfl⟩,e1,e2⟩) (fun j hj hu=>⟨⟨(ok.FD hu hi).symm,fun w hw _=>ok.FD hu hw⟩,ok.un j hj hu⟩) (by
  rintro e (rfl|⟨w,hw,_,rfl⟩)
  · exact D7 ok hi ht h64
  · exact ok.ev w hw) (by
  rintro e f (rfl|⟨v,hv,hvi,rfl⟩) (rfl|⟨w,hw,GO,rfl⟩) he
  · rfl
  · exact absurd (ok.xI hi hw he).symm GO
  · exact absurd (ok.xI hv hi he) hvi
  rw [ok.xI hv hw he])
 have:(iA a i t).bv.take (aeK a.bv)=(iA a i t).bv:=M2 (by rw [len];exact Do _);show dT ⟨a.ae,(iA a i t).bv,(iA a i t).aj⟩;rw [<- this];exact key
theorem IX {a:aF} (ok:dT a) (fit:wN a) {h:Int×Int} {i:Nat} (hi:i<aeK a.bv) (hh:(a.bv[i]!).2.2.2=h):mW a h=aeL ((i:Int),0):=by
 obtain ⟨lv,wv⟩:=ok.handle hi;rw [hh] at lv;unfold mW;rw [gO a fit,rc ok];simp only [ax,show ((0:Int) !=0)=aeQ from rfl,pp,BJ ok.so,aM lv,ww];have:=lv.2.1;have:=lv.1;have:=ok.wl;have e:(a.bv[i]!).2.2.2.1=h.1:=by rw [hh]
 rw [df (l:=a.aj) lv.1 (by omega),<- e,wv];rfl
theorem B6 {a:aF} (ok:dT a) (fit:wN a) {h t:Int×Int} {i:Nat} (hi:i<aeK a.bv) (hh:(a.bv[i]!).2.2.2=h) (ht:bm t) (h64:jw t):p4 a h t=aeL (iA a i t,0):=by
 have bd:=ok.bd;obtain ⟨b1,b2,b3,b4,b5⟩:=ok.back hi;unfold p4;rw [gO a fit,rc ok,cw h64,rc ht];have pl:=IX ok fit hi hh;have se:=D1 (u:=a.ae.au) (us:=a.ae.be) (fr:=a.ae.bi) (D7 ok hi ht h64) (show 0<=Ev.ix (nW a.bv[i]! t) from b1) ok.cells rfl hi (show Ev.ix (nW a.bv[i]! t)<(aeK a.aj) by rw [ok.wl];exact b2);have se':dU (a.ae.au,a.ae.be,a.ae.bi,(i:Int),t.1,t.2,(a.bv[i]!).2.2.1,(a.bv[i]!).2.2.2.1,(a.bv[i]!).2.2.2.2,a.bv,a.aj)=aeL (bX (aeK a.bv) (nW a.bv[i]! t) i a.bv a.aj):=se;simp only [ax,gt_iff_lt,aep,if_false,show ((0:Int) !=0)=aeQ from rfl,pp,pl,bo (show (aeK a.bv)<=1048576 by omega),bo (show (aeK a.aj)<=1048576 by omega),az a.bv i hi,se'];rfl
theorem oB {a:aF} (ok:dT a):nN a=aeL a:=by have bd:=ok.bd;unfold nN;simp only [sA ok.so,ax,bo (show (aeK a.bv)<=1048576 by omega),bo (show (aeK a.aj)<=1048576 by omega)]
theorem Be {a:aF} (ok:dT a) {h t:Int×Int} {i:Nat} (hi:i<aeK a.bv) (hh:(a.bv[i]!).2.2.2=h) (ht:bm t) (h64:jw t):sq a h t=aeL (iA a i t):=by
 have bd:=ok.bd;obtain ⟨b1,b2,b3,b4,b5⟩:=ok.back hi;obtain ⟨lv,wv⟩:=ok.handle hi;have hx:=D7 ok hi ht h64;have x1:Ev.ix (nW a.bv[i]! t)<(aeK a.aj):=by rw [ok.wl];exact b2
 have st:=la ok hi ht;obtain ⟨j,H1,W1,e1,e3,e4,e5,e6,e7,e8,e9,e10⟩:=Cl (x:=nW a.bv[i]! t) ht.1 i a.bv a.aj (D8 ok hi t) (FE ok i);have w1:a.aj.set (Ev.n (nW a.bv[i]! t)) (i:Int)=a.aj:=eo b5;unfold sq;rw [oB ok];have g1:aK a.aj h.1=aeL (i:Int):=by
  have e:(a.bv[i]!).2.2.2.1=h.1:=by rw [hh]
  rw [df (l:=a.aj) (i:=h.1) (by rw [<- e];exact b1) (by rw [<- e,ok.wl];exact b2),<- e,wv]
 have u1:qD ((i:Int),a.ae.au,a.ae.be,a.ae.bi,a.bv.set i (nW a.bv[i]! t),a.aj)=aeL ((j:Int),a.ae.au,a.ae.be,a.ae.bi,H1.set j (nW a.bv[i]! t),W1.set (Ev.n (nW a.bv[i]! t)) (j:Int)):=by unfold qD;have:=QP (c0:=((i:Int),a.ae.au,a.ae.be,a.ae.bi,a.bv.set i (nW a.bv[i]! t),a.aj)) (u:=a.ae.au) (us:=a.ae.be) (fr:=a.ae.bi) hx b1 rfl rfl rfl i a.bv a.aj ok.cells hi rfl x1 v6 rfl;rw [w1,e1] at this;exact this
 have K3:kz (aeK a.bv) H1 W1:=by refine ⟨by rw [e5];exact Do _,by omega,fun w hw=>?_⟩;exact ⟨(wM ok.cells hi e1 w hw).1,(wM ok.cells hi e1 w hw).2.1,by rw [e6];exact (wM ok.cells hi e1 w hw).2.2⟩
 have d1:nQ ((j:Int),a.ae.au,a.ae.be,a.ae.bi,H1.set j (nW a.bv[i]! t),W1.set (Ev.n (nW a.bv[i]! t)) (j:Int))=aeL (a.ae.au,a.ae.be,a.ae.bi,(bX (aeK a.bv) (nW a.bv[i]! t) i a.bv a.aj).1,(bX (aeK a.bv) (nW a.bv[i]! t) i a.bv a.aj).2):=by
  unfold nQ;have:=IT (c0:=((j:Int),a.ae.au,a.ae.be,a.ae.bi,H1.set j (nW a.bv[i]! t),W1.set (Ev.n (nW a.bv[i]! t)) (j:Int))) (n:=aeK a.bv) (u:=a.ae.au) (us:=a.ae.be) (fr:=a.ae.bi) hx b1 rfl rfl rfl (aeK a.bv) j H1 W1 (by omega) K3 e3.lt e5 (by rw [e6];exact x1) v6 v6;rw [this];unfold bX;rw [e1]
 have s1:cb a.bv (i:Int) (t.1,t.2,(a.bv[i]!).2.2)=a.bv.set i (nW a.bv[i]! t):=rfl;simp only [ax,g1,az a.bv i hi,s1,u1,d1];rfl
theorem FF (H:List Ev) (n:Int) (hl:(aeK H)<=1000000):cA H n=aeL (aeR (∃w,w<aeK H/\(H[w]!).2.2.1=n)):=by
 unfold cA dP;have key:=gZ (body:=cz) (fun i=>(H,n,((aeK H):Int),(i:Int))) (aeK H) (fun i=>(H[i]!).2.2.1=n) (fun i=>(i:Int)) (e:= -1) (fun i hi=>by
  have e1:aeR ((i:Int)<((aeK H):Int))=aeM:=aM (by omega);unfold cz sj;simp only [e1,pi,az H i hi,ax,ba (show i<1000000000 by omega)];constructor
  · intro h;rw [fb h];rfl
  · intro h;rw [eY h];rfl) (by
  unfold cz;have:aeR (((aeK H):Int)<((aeK H):Int))=aeQ:=aJ (by omega);simp only [this,pp])
 rw [aB]
 by_cases hx: ∃w,w<aeK H/\(H[w]!).2.2.1=n
 · obtain ⟨k,h1,h2,h3⟩:=least hx
   have:=key.1 k h1 h2 h3;rw [show ((0:Nat):Int)=0 from rfl] at this;rw [this,aM hx];simp only [ax,aM (show (0:Int)<=(k:Int) by omega)]
 have:=key.2 fun i hi he=>hx ⟨i,hi,he⟩
 rw [show ((0:Nat):Int)=0 from rfl] at this;rw [this,aJ hx];rfl
noncomputable def cR (a:aF) (t:Int×Int) (n:Int):Ev:=(t.1,t.2,n,js a.ae)
noncomputable def jt (a:aF) (t:Int×Int) (n:Int):aF:=
 ⟨fF a.ae,(bX (aeK a.bv+1) (cR a t n) (aeK a.bv) (a.bv++[cR a t n]) a.aj).1,(bX (aeK a.bv+1) (cR a t n) (aeK a.bv) (a.bv++[cR a t n]) a.aj).2⟩
section
variable {a : aF} (ok : dT a) (op : vd a.ae) {t : Int × Int} (ht : bm t) (h64 : jw t) {n : Int} (n0 : 0 <= n) (n1 : n <= 1000000)
include ok op
theorem Aa:Ev.ix (cR a t n)=(cH a.ae:Int)/\cH a.ae<aeK a.ae.au/\a.ae.be[cH a.ae]! =aeQ/\aeK a.ae.bi=(fF a.ae).bi.length+1:=by
 obtain ⟨h1,h2,h3⟩:=xu ok.so op.1;refine ⟨rfl,h1,?_,?_⟩
 · have:=ok.so.uf (cH a.ae) h1
   cases h:a.ae.be[cH a.ae]! with
   |false=>rfl
   |true=>exact absurd h3 (this.1 h)
 show _=(a.ae.bi.take (aeK a.ae.bi-1)).length+1
 have:=op.1;rw [If];omega
theorem FG:yU (aeK a.bv+1) (cR a t n) (fun e=>e∈a.bv) (a.bv++[cR a t n]) a.aj (aeK a.bv):=by
 obtain ⟨h1,h2,h3,h4⟩:=Aa (t:=t) (n:=n) ok op;have cell: ∀w,w<aeK a.bv->(a.bv++[cR a t n])[w]! =a.bv[w]!:=fun w hw=>gj hw
 refine ⟨by omega,by simp,fun w hw GO=>?_,by rw [h1];omega,by rw [h1,ok.wl];omega,fun e=>?_⟩
 · have Rw:w<(aeK a.bv):=by omega
   rw [cell w Rw];obtain ⟨c1,c2,c3,c4,c5⟩:=ok.back Rw;refine ⟨c1,by rw [ok.wl];exact c2,c5,fun h=>?_⟩;rw [h1] at h;have:Ev.n a.bv[w]! =cH a.ae:=by show (Ev.ix a.bv[w]!).toNat=_;omega
   exact ok.FD h3 Rw this
 constructor
 · rintro ⟨w,hw,GO,rfl⟩
   rw [cell w (by omega)];exact bj (by omega)
 intro h
 obtain ⟨w,hw,rfl⟩:=aS.1 h;exact ⟨w,by omega,by omega,cell w hw⟩
theorem IY (ht:bm t):Ord (aeK a.bv+1) (a.bv++[cR a t n]) (aeK a.bv):=by
 have _:=op;have cell: ∀w,w<aeK a.bv->(a.bv++[cR a t n])[w]! =a.bv[w]!:=fun w hw=>gj hw
 refine ⟨fun w hw=>?_,fun k k0 hk k1 k2=>?_,fun i0 k k0 hk hp=>by omega⟩
 · by_cases h:w<aeK a.bv
   · rw [cell w h];exact (ok.ev w h).den
   have:w=(aeK a.bv):=by omega
   subst this;rw [iR (Do _),ae5];exact ht.1
 rw [cell k (by omega),cell _ (by omega)]
 exact ok.ord k k0 (by omega)
theorem uL (ht:bm t):xw (aeK a.bv+1) (cR a t n) (fun e=>e∈a.bv) (fun k=>k≠Ev.n (cR a t n)/\ ∀w,w<aeK a.bv+1->w≠aeK a.bv->Ev.n (a.bv++[cR a t n])[w]!≠k) (a.bv++[cR a t n]) a.aj (jt a t n).bv (jt a t n).aj:=
 wL (x:=cR a t n) ht.1 (FG ok op) (IY ok op ht)
theorem Ab (ht:bm t):(jt a t n).bv.length=aeK a.bv+1:=by have:=(uL (n:=n) ok op ht).hl;rw [this];simp
theorem IZ (ht:bm t) (e:Ev):e∈(jt a t n).bv↔(e=cR a t n\/e∈a.bv):=by have st:=uL (n:=n) ok op ht;rw [aS,Ab ok op ht];exact st.mem e
theorem GV (ht:bm t) (h64:jw t) (n0:0<=n) (n1:n<=1000000):nV (cR a t n):=by have _:=ok;have _:=op;exact ⟨ht,h64,n0,n1⟩
theorem MD (ht:bm t) (h64:jw t) (n0:0<=n) (n1:n<=1000000) (nn: ∀e∈a.bv,Ev.num e≠n):dT (jt a t n):=by
 have st:=uL (n:=n) ok op ht;have len:=Ab (n:=n) ok op ht;obtain ⟨h1,h2,h3,h4⟩:=Aa (t:=t) (n:=n) ok op;have hu:=ok.so.ul;have ul:(fF a.ae).au.length=(aeK a.ae.au):=v6;have key:=sC (QL ok.so op) st (by simp) (by rw [ul];exact ok.wl) (by rw [ul];have:=ok.hl;omega) (fun j hj An=>by
  rw [ul] at hj;change (a.ae.be.set (cH a.ae) aeM)[j]! =aeM at An;rw [bg] at An;show∃e:Ev,_/\_/\_=(a.ae.au.set (cH a.ae) (a.ae.au[cH a.ae]!+1))[j]!;rw [bg]
  by_cases e:j=cH a.ae
  · rw [rc ⟨e,h2⟩]
    exact ⟨cR a t n,.inl rfl,by rw [h1,e],rfl⟩
  · rw [ut (fun k=>e k.1)]
    rw [ut (fun k=>e k.1)] at An;obtain ⟨w,hw,e1,e2⟩:=ok.Co hj An;exact ⟨a.bv[w]!,.inr (bj hw),e1,e2⟩) (fun j hj An=>by
  rw [ul] at hj;change (a.ae.be.set (cH a.ae) aeM)[j]! =aeQ at An;rw [bg] at An
  by_cases e:j=cH a.ae
  · rw [rc ⟨e,by omega⟩] at An;cases An
  · rw [ut (fun k=>e k.1)] at An
    refine ⟨⟨?_,fun w hw GO=>?_⟩,ok.un j hj An⟩
    · show j≠(Ev.ix (cR a t n)).toNat
      omega
    rw [gj (by omega)]
    exact ok.FD An (by omega)) (by
  rintro e (rfl|h)
  · exact GV ok op ht h64 n0 n1
  · obtain ⟨w,hw,rfl⟩:=aS.1 h
    exact ok.ev w hw) (by
  rintro e f (rfl|he) (rfl|hf) hn
  · rfl
  · exact absurd hn.symm (nn f hf)
  · exact absurd hn (nn e he)
  obtain ⟨v,hv,rfl⟩:=aS.1 he
  obtain ⟨w,hw,rfl⟩:=aS.1 hf;rw [ok.xI hv hw hn])
 have:(jt a t n).bv.take (aeK a.bv+1)=(jt a t n).bv:=M2 (by rw [len];exact Do _);show dT ⟨fF a.ae,(jt a t n).bv,(jt a t n).aj⟩;rw [<- this];exact key
theorem D9 (ht:bm t) (h64:jw t) (n0:0<=n) (n1:n<=1000000):kz (aeK a.bv+1) (a.bv++[cR a t n]) a.aj:=by
 have bd:=ok.bd;obtain ⟨h1,h2,h3,h4⟩:=Aa (t:=t) (n:=n) ok op;refine ⟨by simp,by simp;omega,fun w hw=>?_⟩
 by_cases h:w<aeK a.bv
 · rw [gj h];exact ok.cells.ev w h
 have:w=(aeK a.bv):=by omega
 subst this;rw [iR (Do _),ae5];exact ⟨GV ok op ht h64 n0 n1,by show 0<=Ev.ix (cR a t n);omega,by show Ev.ix (cR a t n)<_;rw [ok.wl];omega⟩
theorem th (fit:wN a) (ht:bm t) (h64:jw t) (n0:0<=n) (n1:n<=1000000) (nn: ∀e∈a.bv,Ev.num e≠n):je a t n=aeL (jt a t n,js a.ae,0):=by
 have bd:=ok.bd;obtain ⟨h1,h2,h3,h4⟩:=Aa (t:=t) (n:=n) ok op;have hn: ¬ ∃w,w<aeK a.bv/\(a.bv[w]!).2.2.1=n:=by rintro ⟨w,hw,e⟩;exact nn _ (bj hw) e
 unfold je;rw [gO a fit,rc ok,cw h64,rc ht,FF _ _ (by omega),aJ hn,z7 ok.so,rc op];have se:=D1 (u:=(fF a.ae).au) (us:=(fF a.ae).be) (fr:=(fF a.ae).bi) (GV ok op ht h64 n0 n1) (show 0<=Ev.ix (cR a t n) by omega) (D9 ok op ht h64 n0 n1) (by simp) (show (aeK a.bv)<aeK a.bv+1 by omega) (show Ev.ix (cR a t n)<(aeK a.aj) by rw [ok.wl];omega);have e1:ai .i64 (((a.bv++[cR a t n]).length:Int) -1)=((aeK a.bv):Int):=by rw [wi,adV];simp;omega
 have ap:bu a.bv [(t.1,t.2,n,js a.ae)]=aeL (a.bv++[cR a t n]):=eZ (by simp;omega);have se':dU ((fF a.ae).au,(fF a.ae).be,(fF a.ae).bi,((aeK a.bv):Int),t.1,t.2,n,(js a.ae).1,(js a.ae).2,a.bv++[cR a t n],a.aj)=aeL (bX (aeK a.bv+1) (cR a t n) (aeK a.bv) (a.bv++[cR a t n]) a.aj):=se;simp only [ax,gt_iff_lt,aep,if_false,show ((0:Int) !=0)=aeQ from rfl,pp,aJ (show¬n<0 by omega),aJ (show¬1000000<n by omega),bo (show (aeK a.bv)<=1048576 by omega),bo (show (aeK a.aj)<=1048576 by omega),ap,aB,e1,se'];rfl
theorem ve (ht:bm t) (h64:jw t) (n0:0<=n) (n1:n<=1000000):ee a t n=aeL (jt a t n,js a.ae):=by
 have bd:=ok.bd;obtain ⟨h1,h2,h3,h4⟩:=Aa (t:=t) (n:=n) ok op;unfold ee;rw [oB ok];have e1:ai .i64 (((a.bv++[cR a t n]).length:Int) -1)=((aeK a.bv):Int):=by rw [wi,adV];simp;omega
 have ap:bu a.bv [(t.1,t.2,n,js a.ae)]=aeL (a.bv++[cR a t n]):=eZ (by simp;omega);have hx:=GV (n:=n) ok op ht h64 n0 n1;have last:bX (aeK a.bv+1) (cR a t n) (aeK a.bv) (a.bv++[cR a t n]) a.aj=_:=IQ (x:=cR a t n) ht.1 (FG ok op) (IY ok op ht) (fun k k0 hk hp=>by omega);have hs:(a.bv++[cR a t n]).set (aeK a.bv) (cR a t n)=a.bv++[cR a t n]:=eo (by rw [iR (Do _),ae5];rfl);have ws:cb a.aj (js a.ae).1 ((aeK a.bv):Int)=a.aj.set (Ev.n (cR a t n)) ((aeK a.bv):Int):=rfl
 have u1:qE ((fF a.ae).au,(fF a.ae).be,(fF a.ae).bi,((aeK a.bv):Int),a.bv++[cR a t n],a.aj.set (Ev.n (cR a t n)) ((aeK a.bv):Int))=aeL (((gF (cR a t n) (aeK a.bv) (a.bv++[cR a t n]) a.aj).1:Int),(gF (cR a t n) (aeK a.bv) (a.bv++[cR a t n]) a.aj).2.1.set (gF (cR a t n) (aeK a.bv) (a.bv++[cR a t n]) a.aj).1 (cR a t n),(gF (cR a t n) (aeK a.bv) (a.bv++[cR a t n]) a.aj).2.2.set (Ev.n (cR a t n)) ((gF (cR a t n) (aeK a.bv) (a.bv++[cR a t n]) a.aj).1:Int)):=by
  unfold qE;have:=QR (c0:=((fF a.ae).au,(fF a.ae).be,(fF a.ae).bi,((aeK a.bv):Int),a.bv++[cR a t n],a.aj.set (Ev.n (cR a t n)) ((aeK a.bv):Int))) (u:=(fF a.ae).au) (us:=(fF a.ae).be) (fr:=(fF a.ae).bi) hx (show 0<=Ev.ix (cR a t n) by omega) (aeK a.bv) (a.bv++[cR a t n]) a.aj (D9 ok op ht h64 n0 n1) (by omega) (by simp) (by rw [ok.wl];omega) rfl v6;rw [hs] at this;exact this
 have g1:aK a.aj (js a.ae).1=aeL a.aj[cH a.ae]!:=az a.aj (cH a.ae) (by rw [ok.wl];exact h2);simp only [ax,DX ok.so op,ap,g1,aB,e1,ws,u1];unfold jt;rw [last]
end
theorem ti {a:aF} (ok:dT a) (op: ¬vd a.ae) (fit:wN a) {t:Int×Int} (ht:bm t) (h64:jw t) {n:Int} (n0:0<=n) (n1:n<=1000000) (nn: ∀e∈a.bv,Ev.num e≠n):je a t n=aeL (⟨⟨[],[],[]⟩,[],[]⟩,(0,0),18):=by
 have bd:=ok.bd;have hn: ¬ ∃w,w<aeK a.bv/\(a.bv[w]!).2.2.1=n:=by rintro ⟨w,hw,e⟩;exact nn _ (bj hw) e
 unfold je;rw [gO a fit,rc ok,cw h64,rc ht,FF _ _ (by omega),aJ hn,z7 ok.so,ut op];simp only [ax,gt_iff_lt,aep,if_false,show ((0:Int) !=0)=aeQ from rfl,pp,aJ (show¬n<0 by omega),aJ (show¬1000000<n by omega),show ((18:Int) !=0)=aeM from rfl,pi]
theorem rJ {l:List Ev} {n i:Nat} {v:Ev}:(l.set i v).take n=(l.take n).set i v:=by
 apply List.ext_getElem?;intro j;rw [aer,aeu,aeu,aer,If]
 by_cases h1:j<n
 · rw [rc h1]
   by_cases h2:i=j
   · subst h2
     by_cases h3:i<aeK l
     · rw [rc rfl,rc h3,rc rfl,rc (by omega)]
     rw [rc rfl,ut h3,rc rfl,ut (by omega)]
   rw [ut h2,ut h2,rc h1]
 rw [ut h1]
 by_cases h2:i=j
 · rw [rc h2,ut (by omega)]
 rw [ut h2,ut h1]
theorem I0 {n:Nat} {x:Ev}: ∀(i:Nat) (H:List Ev) (W:List Int),i<n->gF x i (H.take n) W=((gF x i H W).1,(gF x i H W).2.1.take n,(gF x i H W).2.2)
 |0,H,W,hi=>by rw [gF,gF]
 |i+1,H,W,hi=>by
  have e:(H.take n)[i / 2]! =H[i / 2]!:=jK (by omega);rw [gF,gF,e]
  by_cases h:less x H[i / 2]!
  · rw [rc h,rc h,<- rJ]
    exact I0 (i / 2) _ _ (by omega)
  rw [ut h,ut h]
termination_by i=>i
decreasing_by omega
theorem QV {x:Ev}: ∀(i:Nat) (H:List Ev) (W:List Int),(gF x i H W).1<=i
 |0,H,W=>by rw [gF];exact Do _
 |i+1,H,W=>by
  rw [gF];split
  · exact aeH (QV (i / 2) _ _) (by omega)
  exact Do _
termination_by i=>i
decreasing_by omega
theorem D' {n:Nat} {H:List Ev} {i:Nat} (hk:2*i+1<n):fV n (H.take n) i=fV n H i:=by
 unfold fV
 by_cases h:2*i+2<n
 · rw [jK h,jK (show 2*i+1<n by omega)]
 rw [ut (fun k=>h k.1),ut (fun k=>h k.1)]
theorem I1 {n:Nat} {x:Ev} {i:Nat} {H:List Ev} {W:List Int} (h:2*i+1<n) (hl:less H[fV n H i]! x):di n x i H W=di n x (fV n H i) (H.set i H[fV n H i]!) (W.set (H[fV n H i]!).n (i:Int)):=by rw [di,dif_pos h,rc hl]
theorem uM {n:Nat} {x:Ev} {i:Nat} {H:List Ev} {W:List Int} (h: ¬(2*i+1<n/\less H[fV n H i]! x)):di n x i H W=(i,H,W):=by
 rw [di];split
 · rename_i h1;rw [ut (fun k=>h ⟨h1,k⟩)]
 rfl
theorem Ea {n : Nat} {x : Ev} : ∀ (d i : Nat) (H : List Ev) (W : List Int), n - i <= d -> di n x i (H.take n) W = ((di n x i H W).1, (di n x i H W).2.1.take n, (di n x i H W).2.2)
  | 0, i, H, W, hd => by
    rw [uM (fun h => by omega), uM (fun h => by omega)]
  | d + 1, i, H, W, hd => by
    have kc := lY n H i
    by_cases h : 2 * i + 1 < n /\ less H[fV n H i]! x
    · have e : (H.take n)[fV n (H.take n) i]! = H[fV n H i]! := by rw [D' h.1, jK (by omega)]
      rw [I1 h.1 h.2, I1 (H := H.take n) h.1 (by rw [e]; exact h.2), e, D' h.1, <- rJ]
      exact Ea d _ _ _ (by omega)
    have h' : ¬ (2 * i + 1 < n /\ less (H.take n)[fV n (H.take n) i]! x) := by
      rintro ⟨k1, k2⟩
      rw [D' k1, jK (by omega)] at k2
      exact h ⟨k1, k2⟩
    rw [uM h, uM h']
theorem ME {x:Ev}: ∀(i:Nat) (H:List Ev) (W:List Int),(gF x i H W).2.1.length=aeK H/\(gF x i H W).2.2.length=aeK W
 |0,H,W=>by rw [gF];exact ⟨rfl,rfl⟩
 |i+1,H,W=>by
  rw [gF];split
  · have:=ME (x:=x) (i / 2) (H.set (i+1) H[i / 2]!) (W.set (H[i / 2]!).n ((i+1:Nat):Int))
    rwa [v6,v6] at this
  exact ⟨rfl,rfl⟩
termination_by i=>i
decreasing_by omega
theorem Ac {n:Nat} {x:Ev} {i:Nat} {H:List Ev} {W:List Int} (hi:i<n):bX n x i (H.take n) W=((bX n x i H W).1.take n,(bX n x i H W).2):=by unfold bX;rw [I0 i H W hi];dsimp only;rw [Ea n _ _ _ (by omega)];dsimp only;rw [rJ]
noncomputable def dI (a:aF) (i:Nat):aF:=
 if i<aeK a.bv-1 then ⟨eG a.ae (a.bv[i]!).2.2.2,(bX (aeK a.bv-1) a.bv[aeK a.bv-1]! i a.bv (a.aj.set (Ev.n a.bv[i]!) (-1))).1.take (aeK a.bv-1),(bX (aeK a.bv-1) a.bv[aeK a.bv-1]! i a.bv (a.aj.set (Ev.n a.bv[i]!) (-1))).2⟩
 else ⟨eG a.ae (a.bv[i]!).2.2.2,a.bv.take (aeK a.bv-1),a.aj.set (Ev.n a.bv[i]!) (-1)⟩
section
variable {a : aF} (ok : dT a) {i : Nat} (hi : i < (aeK a.bv))
include ok hi
theorem tj {w:Nat} (hw:w<aeK a.bv) (dZ:w≠i):Ev.n a.bv[w]!≠Ev.n a.bv[i]!:=by have h1:=(ok.back hw).1;have h2:=(ok.back hi).1;exact ahv h1 h2 fun h=>dZ (ok.inj hw hi h)
theorem FH:kz (aeK a.bv-1) a.bv (a.aj.set (Ev.n a.bv[i]!) (-1)):=by have c:=ok.cells;refine ⟨by omega,c.hb,fun w hw=>?_⟩;rw [v6];exact c.ev w (by omega)
theorem QW (dz:i<aeK a.bv-1):yU (aeK a.bv-1) a.bv[aeK a.bv-1]! (fun e=> ∃w,w<aeK a.bv-1/\w≠i/\a.bv[w]! =e) a.bv (a.aj.set (Ev.n a.bv[i]!) (-1)) i:=by
 obtain ⟨b1,b2,b3,b4,b5⟩:=ok.back (show (aeK a.bv)-1<(aeK a.bv) by omega);refine ⟨dz,by omega,fun w hw GO=>?_,b1,by rw [v6,ok.wl];exact b2,fun e=>ae2⟩;obtain ⟨c1,c2,c3,c4,c5⟩:=ok.back (show w<(aeK a.bv) by omega);refine ⟨c1,by rw [v6,ok.wl];exact c2,?_,fun h=>?_⟩
 · rw [bg,ut (fun h=>tj ok hi (show w<(aeK a.bv) by omega) GO h.1)]
   exact c5
 have:=ok.inj (show w<(aeK a.bv) by omega) (show (aeK a.bv)-1<(aeK a.bv) by omega) h
 omega
theorem XK:Ord (aeK a.bv-1) a.bv i:=
 ⟨fun w hw=>(ok.ev w (by omega)).den,fun k k0 hk _ _=>ok.ord k k0 (by omega),fun i0 k k0 hk hp=>ok.IP i0 k0 (by omega) hp⟩
theorem BK (dz:i<aeK a.bv-1):
 xw (aeK a.bv-1) a.bv[aeK a.bv-1]! (fun e=> ∃w,w<aeK a.bv-1/\w≠i/\a.bv[w]! =e) (fun k=>k≠Ev.n a.bv[aeK a.bv-1]!/\ ∀w,w<aeK a.bv-1->w≠i->Ev.n a.bv[w]!≠k) a.bv (a.aj.set (Ev.n a.bv[i]!) (-1))
  (bX (aeK a.bv-1) a.bv[aeK a.bv-1]! i a.bv (a.aj.set (Ev.n a.bv[i]!) (-1))).1 (bX (aeK a.bv-1) a.bv[aeK a.bv-1]! i a.bv (a.aj.set (Ev.n a.bv[i]!) (-1))).2:=
 wL (ok.ev (aeK a.bv-1) (by omega)).den (QW ok hi dz) (XK ok hi)
theorem FI:dW (eG a.ae (a.bv[i]!).2.2.2):=QK ok.so (ok.handle hi).1
theorem wP {j:Nat} (hj:j<aeK a.ae.au):(eG a.ae (a.bv[i]!).2.2.2).be[j]! =if j=Ev.n a.bv[i]! then aeQ else a.ae.be[j]!:=by
 have _:=hi;show (a.ae.be.set (Ev.n a.bv[i]!) aeQ)[j]! =_;rw [bg];have:=ok.so.ul
 by_cases e:j=Ev.n a.bv[i]!
 · rw [rc ⟨e,by omega⟩,rc e]
 rw [ut (fun k=>e k.1),ut e]
theorem Bf:dT (dI a i):=by
 have hb:=ok.back hi;have hl:(aeK a.bv)-1+(eG a.ae (a.bv[i]!).2.2.2).bi.length=(aeK a.ae.au):=by show (aeK a.bv)-1+(a.ae.bi++[_]).length=_;rw [adV];have:=ok.hl;simp only [aev,aey];omega
 have un: ∀j,j<aeK a.ae.au->(eG a.ae (a.bv[i]!).2.2.2).be[j]! =aeQ->(a.aj.set (Ev.n a.bv[i]!) (-1))[j]! = -1:=by
  intro j hj hu;rw [wP ok hi hj] at hu;rw [bg]
  by_cases e:j=Ev.n a.bv[i]!
  · rw [rc ⟨e.symm▸rfl,by rw [ok.wl];omega⟩]
  rw [ut e] at hu
  rw [ut (fun k=>e k.1)];exact ok.un j hj hu
 unfold dI
 by_cases dz:i<aeK a.bv-1
 · rw [rc dz]
   have st:=BK ok hi dz;refine sC (FI ok hi) st (by omega) (by rw [v6];exact ok.wl) hl (fun j hj hu=>?_) (fun j hj hu=>⟨⟨?_,fun w hw GO=>?_⟩,un j hj hu⟩) ?_ ?_
   · change j<(aeK a.ae.au) at hj
     rw [wP ok hi hj] at hu
     by_cases e:j=Ev.n a.bv[i]!
     · rw [rc e] at hu;cases hu
     rw [ut e] at hu
     obtain ⟨w,hw,e1,e2⟩:=ok.Co hj hu;refine ⟨a.bv[w]!,?_,e1,e2⟩
     by_cases kV:w=aeK a.bv-1
     · left;rw [kV]
     refine .inr ⟨w,by omega,fun h=>e ?_,rfl⟩
     rw [<- h];show j=(Ev.ix a.bv[w]!).toNat;omega
   · change j<(aeK a.ae.au) at hj
     rw [wP ok hi hj] at hu
     by_cases e:j=Ev.n a.bv[i]!
     · rw [e];exact (tj ok hi (by omega) (by omega)).symm
     rw [ut e] at hu
     exact (ok.FD hu (by omega)).symm
   · change j<(aeK a.ae.au) at hj
     rw [wP ok hi hj] at hu
     by_cases e:j=Ev.n a.bv[i]!
     · rw [e];exact tj ok hi (by omega) GO
     rw [ut e] at hu
     exact ok.FD hu (by omega)
   · rintro e (rfl|⟨w,hw,_,rfl⟩)
     · exact ok.ev _ (by omega)
     exact ok.ev w (by omega)
   rintro e f (rfl|⟨v,hv,hvi,rfl⟩) (rfl|⟨w,hw,GO,rfl⟩) he
   · rfl
   · rw [ok.xI (by omega) (by omega) he]
   · rw [ok.xI (by omega) (by omega) he]
   rw [ok.xI (by omega) (by omega) he]
 rw [ut dz]
 have hie:i=aeK a.bv-1:=by omega
 refine Y2 (FI ok hi) (fun e=> ∃w,w<aeK a.bv-1/\a.bv[w]! =e) (by omega) (by rw [v6];exact ok.wl) hl (fun w hw=>?_) (fun e=>ae2) (fun k k0 hk=>ok.ord k k0 (by omega)) (fun j hj hu=>?_) un ?_ ?_
 · obtain ⟨c1,c2,c3,c4,c5⟩:=ok.back (show w<(aeK a.bv) by omega)
   refine ⟨c1,by rw [v6,ok.wl];exact c2,?_⟩;rw [bg,ut (fun h=>tj ok hi (show w<(aeK a.bv) by omega) (by omega) h.1)];exact c5
 · change j<(aeK a.ae.au) at hj
   rw [wP ok hi hj] at hu
   by_cases e:j=Ev.n a.bv[i]!
   · rw [rc e] at hu;cases hu
   rw [ut e] at hu
   obtain ⟨w,hw,e1,e2⟩:=ok.Co hj hu;refine ⟨a.bv[w]!,⟨w,?_,rfl⟩,e1,e2⟩;have:w≠i:=fun h=>e (by rw [<- h];show j=(Ev.ix a.bv[w]!).toNat;omega)
   omega
 · rintro e ⟨w,hw,rfl⟩
   exact ok.ev w (by omega)
 rintro e f ⟨v,hv,rfl⟩ ⟨w,hw,rfl⟩ he
 rw [ok.xI (by omega) (by omega) he]
theorem Eb (e:Ev):e∈(dI a i).bv↔(e∈a.bv/\e≠a.bv[i]!):=by
 have other: ∀w,w<aeK a.bv->(a.bv[w]!≠a.bv[i]!↔w≠i):=fun w hw=>⟨fun h k=>h (by rw [k]),fun h k=>h (ok.inj hw hi (by rw [k]))⟩
 unfold dI
 by_cases dz:i<aeK a.bv-1
 · rw [rc dz]
   have st:=BK ok hi dz;show e∈(_:List Ev).take _↔_;rw [yb (by rw [st.hl];omega)];refine (st.mem e).trans ?_;constructor
   · rintro (h|⟨w,hw,GO,rfl⟩)
     · rw [h];exact ⟨bj (by omega),(other _ (by omega)).2 (by omega)⟩
     exact ⟨bj (by omega),(other _ (by omega)).2 GO⟩
   rintro ⟨h,dZ⟩
   obtain ⟨w,hw,rfl⟩:=aS.1 h
   by_cases c:w=aeK a.bv-1
   · left;rw [c]
   exact .inr ⟨w,by omega,(other w hw).1 dZ,rfl⟩
 rw [ut dz]
 show e∈a.bv.take _↔_;rw [yb (by omega)];constructor
 · rintro ⟨w,hw,rfl⟩
   exact ⟨bj (by omega),(other _ (by omega)).2 (by omega)⟩
 rintro ⟨h,dZ⟩
 obtain ⟨w,hw,rfl⟩:=aS.1 h;have:=(other w hw).1 dZ;exact ⟨w,by omega,rfl⟩
theorem Bg:oz a (i:Int)=aeL (dI a i,a.bv[i]!,0):=by
 have bd:=ok.bd;obtain ⟨b1,b2,b3,b4,b5⟩:=ok.back hi;obtain ⟨c1,c2,c3,c4,c5⟩:=ok.back (show (aeK a.bv)-1<(aeK a.bv) by omega);unfold oz;have e1:ai .i64 (((aeK a.bv):Int) -1)=((aeK a.bv-1:Nat):Int):=uH (by omega) (by omega);have g1:aK a.aj (a.bv[i]!).2.2.2.1=aeL a.aj[(a.bv[i]!).2.2.2.1.toNat]!:=df b1 (by rw [ok.wl];exact b2);have ws:cb a.aj (a.bv[i]!).2.2.2.1 (-1)=a.aj.set (Ev.n a.bv[i]!) (-1):=rfl;simp only [az a.bv i hi,ax,GN ok.so (ok.handle hi).1,show ((0:Int) !=0)=aeQ from rfl,pp,bo (show (aeK a.bv)<=1048576 by omega),bo (show (aeK a.aj)<=1048576 by omega),aB,e1,az a.bv (aeK a.bv-1) (by omega),nU a.bv (aeK a.bv-1) (by omega),g1,ws,AC];unfold dI
 by_cases dz:i<aeK a.bv-1
 · rw [aM (by omega),rc dz]
   have se:=K1 (cap:=aeK a.bv) (u:=(eG a.ae (a.bv[i]!).2.2.2).au) (us:=(eG a.ae (a.bv[i]!).2.2.2).be) (fr:=(eG a.ae (a.bv[i]!).2.2.2).bi) (ok.ev (aeK a.bv-1) (by omega)) (show 0<=Ev.ix a.bv[aeK a.bv-1]! from c1) (FH ok hi) dz (show Ev.ix a.bv[aeK a.bv-1]!<_ by rw [v6,ok.wl];exact c2);rw [se];rfl
 rw [aJ (by omega),ut dz]
 rfl
theorem tn (fit:wN a) {h:Int×Int} (hh:(a.bv[i]!).2.2.2=h):jI a h=aeL (dI a i,a.bv[i]!,0):=by unfold jI;rw [IX ok fit hi hh];simp only [ax,show ((0:Int) !=0)=aeQ from rfl,pp,Bg ok hi]
theorem tp {h:Int×Int} (hh:(a.bv[i]!).2.2.2=h):jJ a h=aeL (dI a i):=by
 have bd:=ok.bd;subst hh;obtain ⟨b1,b2,b3,b4,b5⟩:=ok.back hi;obtain ⟨c1,c2,c3,c4,c5⟩:=ok.back (show (aeK a.bv)-1<(aeK a.bv) by omega);unfold jJ;rw [oB ok];have e1:ai .i64 (((aeK a.bv):Int) -1)=((aeK a.bv-1:Nat):Int):=uH (by omega) (by omega);have g1:aK a.aj (a.bv[i]!).2.2.2.1=aeL (i:Int):=by rw [df (l:=a.aj) b1 (by rw [ok.wl];exact b2)];exact congrArg aeL b5
 have gv:=DW ok.so (ok.handle hi).1;simp only [ax,g1,aB,e1,AC];unfold dI
 by_cases dz:i<aeK a.bv-1
 · rw [dK (show (i:Int)≠((aeK a.bv-1:Nat):Int) by omega),rc dz]
   have dZ:(aeK a.bv)-1≠i:=by omega
   have nn:Ev.n a.bv[aeK a.bv-1]!≠Ev.n a.bv[i]!:=tj ok hi (by omega) dZ;have sw:=z9 (n:=aeK a.bv) (x:=a.bv[i]!) (u:=a.ae.au) (us:=a.ae.be) (fr:=a.ae.bi) (H:=a.bv) (W:=a.aj) hi (show (aeK a.bv)-1<(aeK a.bv) by omega) dZ rfl b1 (by rw [ok.wl];exact b2) c1 (by rw [ok.wl];exact c2);rw [eo (l:=a.bv) rfl,eo (l:=a.aj) b5] at sw;have hs:(a.bv.set i a.bv[aeK a.bv-1]!).set (aeK a.bv-1) a.bv[i]! =(a.bv.set (aeK a.bv-1) a.bv[i]!).set i a.bv[aeK a.bv-1]!:=aeF _ _ (by omega);have ws:cb ((a.aj.set (Ev.n a.bv[aeK a.bv-1]!) (i:Int)).set (Ev.n a.bv[i]!) ((aeK a.bv-1:Nat):Int)) (a.bv[i]!).2.2.2.1 (-1)=(a.aj.set (Ev.n a.bv[i]!) (-1)).set (Ev.n a.bv[aeK a.bv-1]!) (i:Int):=by
    show ((a.aj.set (Ev.n a.bv[aeK a.bv-1]!) (i:Int)).set (Ev.n a.bv[i]!) ((aeK a.bv-1:Nat):Int)).set (Ev.n a.bv[i]!) (-1)=_;rw [List.set_set,aeF _ _ nn]
   have g2:aK ((a.aj.set (Ev.n a.bv[aeK a.bv-1]!) (i:Int)).set (Ev.n a.bv[i]!) ((aeK a.bv-1:Nat):Int)) (a.bv[i]!).2.2.2.1=aeL _:=df b1 (by rw [v6,v6,ok.wl];exact b2);have cells:kz (aeK a.bv-1) (a.bv.set (aeK a.bv-1) a.bv[i]!) (a.aj.set (Ev.n a.bv[i]!) (-1)):=by refine ⟨by rw [v6];omega,by rw [v6];omega,fun w hw=>?_⟩;rw [bg,ut (by omega)];exact (FH ok hi).ev w hw
   have x1:Ev.ix a.bv[aeK a.bv-1]!<(a.aj.set (Ev.n a.bv[i]!) (-1)).length:=by rw [v6,ok.wl];exact c2
   have hx:=ok.ev (aeK a.bv-1) (by omega);have gv':o5 (aQ.mk a.ae.au a.ae.be a.ae.bi) (a.bv[i]!).2.2.2=aeL (eG a.ae (a.bv[i]!).2.2.2):=gv;have tk:(a.bv.set (aeK a.bv-1) a.bv[i]!).take (aeK a.bv-1)=a.bv.take (aeK a.bv-1):=by rw [rJ];exact ae0 (by rw [If];omega)
   have U:mZ ((eG a.ae (a.bv[i]!).2.2.2).au,(eG a.ae (a.bv[i]!).2.2.2).be,(eG a.ae (a.bv[i]!).2.2.2).bi,aeK a.bv-1,((a.bv.set (aeK a.bv-1) a.bv[i]!).set i a.bv[aeK a.bv-1]!).length,(i:Int),(a.bv.set (aeK a.bv-1) a.bv[i]!).set i a.bv[aeK a.bv-1]!,(a.aj.set (Ev.n a.bv[i]!) (-1)).set (Ev.n a.bv[aeK a.bv-1]!) (i:Int))=
    aeL (((gF a.bv[aeK a.bv-1]! i (a.bv.set (aeK a.bv-1) a.bv[i]!) (a.aj.set (Ev.n a.bv[i]!) (-1))).1:Int),(gF a.bv[aeK a.bv-1]! i (a.bv.set (aeK a.bv-1) a.bv[i]!) (a.aj.set (Ev.n a.bv[i]!) (-1))).2.1.set (gF a.bv[aeK a.bv-1]! i (a.bv.set (aeK a.bv-1) a.bv[i]!) (a.aj.set (Ev.n a.bv[i]!) (-1))).1 a.bv[aeK a.bv-1]!,(gF a.bv[aeK a.bv-1]! i (a.bv.set (aeK a.bv-1) a.bv[i]!) (a.aj.set (Ev.n a.bv[i]!) (-1))).2.2.set (Ev.n a.bv[aeK a.bv-1]!) ((gF a.bv[aeK a.bv-1]! i (a.bv.set (aeK a.bv-1) a.bv[i]!) (a.aj.set (Ev.n a.bv[i]!) (-1))).1:Int)):=by
    unfold mZ;exact QN (n:=aeK a.bv-1) (c0:=((eG a.ae (a.bv[i]!).2.2.2).au,(eG a.ae (a.bv[i]!).2.2.2).be,(eG a.ae (a.bv[i]!).2.2.2).bi,aeK a.bv-1,((a.bv.set (aeK a.bv-1) a.bv[i]!).set i a.bv[aeK a.bv-1]!).length,(i:Int),(a.bv.set (aeK a.bv-1) a.bv[i]!).set i a.bv[aeK a.bv-1]!,(a.aj.set (Ev.n a.bv[i]!) (-1)).set (Ev.n a.bv[aeK a.bv-1]!) (i:Int))) hx c1 i _ _ cells dz x1 v6 v6
   have ul:=QV (x:=a.bv[aeK a.bv-1]!) i (a.bv.set (aeK a.bv-1) a.bv[i]!) (a.aj.set (Ev.n a.bv[i]!) (-1));have un:=ME (x:=a.bv[aeK a.bv-1]!) i (a.bv.set (aeK a.bv-1) a.bv[i]!) (a.aj.set (Ev.n a.bv[i]!) (-1));have uc:=fun w hw=>wM (x:=a.bv[aeK a.bv-1]!) cells dz (i:=i) rfl w hw
   have K3:kz (aeK a.bv-1) (gF a.bv[aeK a.bv-1]! i (a.bv.set (aeK a.bv-1) a.bv[i]!) (a.aj.set (Ev.n a.bv[i]!) (-1))).2.1 (gF a.bv[aeK a.bv-1]! i (a.bv.set (aeK a.bv-1) a.bv[i]!) (a.aj.set (Ev.n a.bv[i]!) (-1))).2.2:=by refine ⟨by rw [un.1,v6];omega,by rw [un.1,v6];omega,fun w hw=>?_⟩;rw [un.2];exact uc w hw
   have D:kL ((eG a.ae (a.bv[i]!).2.2.2).au,(eG a.ae (a.bv[i]!).2.2.2).be,(eG a.ae (a.bv[i]!).2.2.2).bi,aeK a.bv-1,((a.bv.set (aeK a.bv-1) a.bv[i]!).set i a.bv[aeK a.bv-1]!).length,((gF a.bv[aeK a.bv-1]! i (a.bv.set (aeK a.bv-1) a.bv[i]!) (a.aj.set (Ev.n a.bv[i]!) (-1))).1:Int),(gF a.bv[aeK a.bv-1]! i (a.bv.set (aeK a.bv-1) a.bv[i]!) (a.aj.set (Ev.n a.bv[i]!) (-1))).2.1.set (gF a.bv[aeK a.bv-1]! i (a.bv.set (aeK a.bv-1) a.bv[i]!) (a.aj.set (Ev.n a.bv[i]!) (-1))).1 a.bv[aeK a.bv-1]!,(gF a.bv[aeK a.bv-1]! i (a.bv.set (aeK a.bv-1) a.bv[i]!) (a.aj.set (Ev.n a.bv[i]!) (-1))).2.2.set (Ev.n a.bv[aeK a.bv-1]!) ((gF a.bv[aeK a.bv-1]! i (a.bv.set (aeK a.bv-1) a.bv[i]!) (a.aj.set (Ev.n a.bv[i]!) (-1))).1:Int))=
    aeL (bX (aeK a.bv-1) a.bv[aeK a.bv-1]! i (a.bv.set (aeK a.bv-1) a.bv[i]!) (a.aj.set (Ev.n a.bv[i]!) (-1))):=by
    unfold kL
    exact IS (n:=aeK a.bv-1) (c0:=((eG a.ae (a.bv[i]!).2.2.2).au,(eG a.ae (a.bv[i]!).2.2.2).be,(eG a.ae (a.bv[i]!).2.2.2).bi,aeK a.bv-1,((a.bv.set (aeK a.bv-1) a.bv[i]!).set i a.bv[aeK a.bv-1]!).length,((gF a.bv[aeK a.bv-1]! i (a.bv.set (aeK a.bv-1) a.bv[i]!) (a.aj.set (Ev.n a.bv[i]!) (-1))).1:Int),(gF a.bv[aeK a.bv-1]! i (a.bv.set (aeK a.bv-1) a.bv[i]!) (a.aj.set (Ev.n a.bv[i]!) (-1))).2.1.set (gF a.bv[aeK a.bv-1]! i (a.bv.set (aeK a.bv-1) a.bv[i]!) (a.aj.set (Ev.n a.bv[i]!) (-1))).1 a.bv[aeK a.bv-1]!,(gF a.bv[aeK a.bv-1]! i (a.bv.set (aeK a.bv-1) a.bv[i]!) (a.aj.set (Ev.n a.bv[i]!) (-1))).2.2.set (Ev.n a.bv[aeK a.bv-1]!) ((gF a.bv[aeK a.bv-1]! i (a.bv.set (aeK a.bv-1) a.bv[i]!) (a.aj.set (Ev.n a.bv[i]!) (-1))).1:Int))) hx c1 (aeK a.bv) (gF a.bv[aeK a.bv-1]! i (a.bv.set (aeK a.bv-1) a.bv[i]!) (a.aj.set (Ev.n a.bv[i]!) (-1))).1 (gF a.bv[aeK a.bv-1]! i (a.bv.set (aeK a.bv-1) a.bv[i]!) (a.aj.set (Ev.n a.bv[i]!) (-1))).2.1 (gF a.bv[aeK a.bv-1]! i (a.bv.set (aeK a.bv-1) a.bv[i]!) (a.aj.set (Ev.n a.bv[i]!) (-1))).2.2 (by omega) K3 (by omega) (by rw [un.2];exact x1) v6 v6
   have st:=Ac (n:=(aeK a.bv-1)) (x:=a.bv[aeK a.bv-1]!) (i:=i) (H:=(a.bv.set (aeK a.bv-1) a.bv[i]!)) (W:=(a.aj.set (Ev.n a.bv[i]!) (-1))) dz;have tz:=Ac (n:=(aeK a.bv-1)) (x:=a.bv[aeK a.bv-1]!) (i:=i) (H:=a.bv) (W:=(a.aj.set (Ev.n a.bv[i]!) (-1))) dz;rw [tk,tz] at st;injection st with mn Kn;simp only [pi,sw,ax,nU _ (aeK a.bv-1) (show (aeK a.bv)-1<=((a.bv.set (aeK a.bv-1) a.bv[i]!).set i a.bv[aeK a.bv-1]!).length by rw [v6,v6];omega),g2,gv',ws,hs,U,D,<- mn,<- Kn]
 rw [bz (show (i:Int)=((aeK a.bv-1:Nat):Int) by omega),ut dz]
 have ws:cb a.aj (a.bv[i]!).2.2.2.1 (-1)=a.aj.set (Ev.n a.bv[i]!) (-1):=rfl;simp only [pp,nU a.bv (aeK a.bv-1) (by omega),ax,gv,ws]
end
abbrev ng:=Int×Int×Int
theorem dT.fit {a:aF} (ok:dT a):wN a:=by have bd:=ok.bd;have:=ok.so.fl;have:=ok.so.n2;exact ⟨by omega,by omega,by omega,fun w hw=>(ok.ev w hw).2.1⟩
theorem Cp (l:List ng) (id:Int) (hl:(aeK l)<=1000000) (hs: ∀i j,i<j->j<aeK l->(l[i]!).1<(l[j]!).1):
 (∀k,k<aeK l->(l[k]!).1=id->aT l id ()=aeL ((k:Int),aeM))/\
 ((∀k,k<aeK l->(l[k]!).1≠id)-> ∃m,m<=aeK l/\(∀i,i<m->(l[i]!).1<id)/\(∀i,m<=i->i<aeK l->id<(l[i]!).1)/\aT l id ()=aeL ((m:Int),aeQ)):=by
 obtain ⟨m,m1,m2,m3⟩:=IN (fun i=>(l[i]!).1) id (aeK l) hs;have run:aT l id ()=aE aR (l,id,((aeK l):Int),(m:Int),(m:Int)):=by
  unfold aT;refine A' (body:=aR) (fun lo hi=>(l,id,((aeK l):Int),(lo:Int),(hi:Int))) (aeK l) m (fun i=>(l[i]!).1<id) (fun lo hi h1 h2=>?_) m2 (fun i h1 h2 h3=>by have:=m3 i h1 h2;omega) (aeK l) 0 (aeK l) (by omega) (by omega) m1 (Do _);have e1:aeR ((lo:Int)<(hi:Int))=aeM:=aM (by omega);have hh:=XE (a:=lo) (b:=hi) (by omega) (by omega);unfold aR o3;simp only [e1,pi,hh,az l ((lo+hi) / 2) (by omega),iS,ax,ba (show (lo+hi) / 2<1000000000 by omega)];constructor
  · intro h
    have:aeR (ir (l[(lo+hi) / 2]!).1 id<0)=aeM:=by rcases dH (l[(lo+hi) / 2]!).1 id with ⟨a,e⟩|⟨a,e⟩|⟨a,e⟩<;>rw [e]<;>first|rfl|omega
    rw [this];rfl
  intro h
  have:aeR (ir (l[(lo+hi) / 2]!).1 id<0)=aeQ:=by rcases dH (l[(lo+hi) / 2]!).1 id with ⟨a,e⟩|⟨a,e⟩|⟨a,e⟩<;>rw [e]<;>first|rfl|omega
  rw [this];rfl
 have fin:aE aR (l,id,((aeK l):Int),(m:Int),(m:Int))=if m<aeK l/\(l[m]!).1=id then aeL ((m:Int),aeM) else aeL ((m:Int),aeQ):=by
  have e1:aeR ((m:Int)<(m:Int))=aeQ:=aJ (by omega)
  by_cases hm:m<aeK l
  · have e2:aeR ((m:Int)<((aeK l):Int))=aeM:=aM (by omega)
    have body:aR (l,id,((aeK l):Int),(m:Int),(m:Int))=aeL (.done ((m:Int),ir (l[m]!).1 id==0)):=by unfold aR o3;simp only [e1,e2,pi,pp,az l m hm,iS,ax]
    rw [aI body];rcases dH (l[m]!).1 id with ⟨a,e⟩|⟨a,e⟩|⟨a,e⟩
    · rw [e,ut (fun h=>by omega)];rfl
    · rw [e,rc ⟨hm,a⟩];rfl
    rw [e,ut (fun h=>by omega)];rfl
  have e2:aeR ((m:Int)<((aeK l):Int))=aeQ:=aJ (by omega)
  have body:aR (l,id,((aeK l):Int),(m:Int),(m:Int))=aeL (.done ((m:Int),aeQ)):=by unfold aR;simp only [e1,e2,pp]
  rw [aI body,ut (fun h=>hm h.1)]
 rw [run,fin];constructor
 · intro k hk he
   have hkm:k=m:=by
    rcases adZ k m with h|h|h
    · have:=m2 k h;omega
    · exact h
    have h1:=m3 m (Do _) (by omega)
    have h2:=hs m k h hk;omega
   subst hkm;rw [rc ⟨hk,he⟩]
 intro h
 refine ⟨m,m1,m2,fun i h1 h2=>?_,?_⟩
 · have:=m3 i h1 h2
   have:=h i h2;omega
 rw [ut (fun k=>h m k.1 k.2)]
theorem adS:cM=aT:=rfl
theorem QX:cE=aT:=rfl
theorem XL:cK=aT:=rfl
theorem qJ {α:Type} (l:List α) (k:Nat):l.eraseIdx k=l.take k++l.drop (k+1):=List.eraseIdx_eq_take_drop_succ l k
theorem BL (l:List ng) (k:Nat) (hk:k<aeK l): ∃L:List ng,eA ((k:Int),((k+1:Nat):Int),l)=aeL (aeK l-1,aeK l,L)/\L.take (aeK l-1)=l.eraseIdx k:=by
 unfold eA;have e1:aeR ((0:Int)<=(k:Int))=aeM:=aM (by omega);have e2:aeR ((k:Int)<=((k+1:Nat):Int))=aeM:=aM (by omega);have e3:aeR (((k+1:Nat):Int)<=((aeK l):Int))=aeM:=aM (by omega);have e4:aeR (((aeK l):Int)<=((aeK l):Int))=aeM:=aM (by omega);have e5:((k:Int)==((k+1:Nat):Int))=aeQ:=eY (by omega);have e6:aeR ((0:Int)<=((k+1:Nat):Int))=aeM:=aM (by omega);have e7:aeR ((k:Int)<=((aeK l):Int))=aeM:=aM (by omega);have dr:(l.drop (k+1)).take (aeK l- (k+1))=l.drop (k+1):=M2 (by rw [ae1];exact Do _);have dl:(l.drop (k+1)).length=aeK l- (k+1):=ae1;simp only [aB,e1,e2,e3,e4,e5,e6,e7,aeG,pi,pp,nU l k (by omega),ax,AC,Nat.zero_add,dr,dl,acl,Bool.and_true]
 by_cases h:k+1=aeK l
 · have em:(l.drop (k+1)).isEmpty=aeM:=by rw [aew,adT];omega
   have n1:aeI (aeK l-k) 0=aeQ:=by
    cases hb:aeI (aeK l-k) 0 with
    |false=>rfl
    |true=>have:=ae8 hb;omega
   have n2:Nat.ble (k+(aeK l-k)) (aeK l)=aeM:=adM (by omega);have ll:(gl l k (aeB (aeK l-k) ((0:Int),(0:Int),(0:Int)))).length=(aeK l):=by unfold gl;simp;omega
   simp only [em,pi,n1,pp,n2,ll,beq_self_eq_true];refine ⟨_,by rw [show k=aeK l-1 by omega],?_⟩;rw [qJ,show (aeK l)-1=k by omega];unfold gl;rw [adc,NE (by rw [If];omega),aeC,aeJ];rw [ae6 (by omega),aez]
 have em:(l.drop (k+1)).isEmpty=aeQ:=by
  cases hb:(l.drop (k+1)).isEmpty with
  |false=>rfl
  |true=>rw [aew,adT] at hb;omega
 have n1:Nat.ble (k+(aeK l- (k+1))) (aeK l)=aeM:=adM (by omega);have n2:aeR ((0:Int)<=((k+(aeK l- (k+1)):Nat):Int))=aeM:=aM (by omega);have n3:aeR (((k+(aeK l- (k+1)):Nat):Int)<=((aeK l):Int))=aeM:=aM (by omega);have n4:aeI (aeK l- (k+(aeK l- (k+1)))) 0=aeQ:=by
  cases hb:aeI (aeK l- (k+(aeK l- (k+1)))) 0 with
  |false=>rfl
  |true=>have:=ae8 hb;omega
 have l1:(gl l k (l.drop (k+1))).length=(aeK l):=by unfold gl;simp;omega
 have n5:Nat.ble (k+(aeK l- (k+1))+(aeK l- (k+(aeK l- (k+1))))) (aeK l)=aeM:=adM (by omega);have l2:(gl (gl l k (l.drop (k+1))) (k+(aeK l- (k+1))) (aeB (aeK l- (k+(aeK l- (k+1)))) ((0:Int),(0:Int),(0:Int)))).length=(aeK l):=by unfold gl;simp;omega
 simp only [em,pp,n1,pi,n2,n3,aeG,n4,l1,n5,l2,beq_self_eq_true];refine ⟨_,by rw [show k+(aeK l- (k+1))=aeK l-1 by omega],?_⟩;rw [qJ];have:k+(aeK l- (k+1))=aeK l-1:=by omega
 unfold gl;rw [adc,NE (by simp;omega),aeC,aeJ,adc];rw [show (l.take k++(l.drop (k+1)++l.drop (k+(l.drop (k+1)).length)))=(l.take k++l.drop (k+1))++l.drop (k+(l.drop (k+1)).length) by rw [adc]];rw [NE (by simp;omega),M2 (by simp;omega)]
theorem K4:jm=eA:=rfl
theorem Ec {α:Type} [Inhabited α] {l:List α} {k i:Nat}:(l.eraseIdx k)[i]! =if i<k then l[i]! else l[i+1]!:=by
 rw [qJ]
 by_cases hk:k<aeK l
 · by_cases h:i<k
   · rw [rc h,gj (by rw [If];omega),jK h]
   rw [ut h,iR (by rw [If];omega),nS,If]
   congr 1;omega
 have e1:l.take k=l:=M2 (by omega)
 have e2:l.drop (k+1)=[]:=ae6 (by omega);rw [e1,e2,aez];split
 · rfl
 rw [getElem!_neg l i (by omega),getElem!_neg l (i+1) (by omega)]
def g8 (x:Int×Int):Prop:=0<=x.1/\x.1<=65535/\0<=x.2/\x.2<=65535/\x.1≠x.2
theorem yc (x:Int×Int):qx x=aeL (aeR (g8 x)):=by
 obtain ⟨a,b⟩:=x;unfold qx;dsimp only
 by_cases h1:0<=a
 · by_cases h3:0<=b
   · have e1:aeR (0<=if b<a then b else a)=aeM:=aM (by split<;>omega)
     rw [e1]
     by_cases h2:a<=65535
     · by_cases h4:b<=65535
       · have e2:aeR ((if b>a then b else a)<=65535)=aeM:=aM (by split<;>omega)
         rw [e2]
         by_cases h5:a=b
         · rw [bz h5,aJ (p:=g8 (a,b)) (fun h=>h.2.2.2.2 h5)];rfl
         rw [dK h5,aM (p:=g8 (a,b)) ⟨h1,h2,h3,h4,h5⟩];rfl
       have e2:aeR ((if b>a then b else a)<=65535)=aeQ:=aJ (by split<;>omega)
       rw [e2,aJ (p:=g8 (a,b)) (fun h=>h4 h.2.2.2.1)];rfl
     have e2:aeR ((if b>a then b else a)<=65535)=aeQ:=aJ (by split<;>omega)
     rw [e2,aJ (p:=g8 (a,b)) (fun h=>h2 h.2.1)];rfl
   have e1:aeR (0<=if b<a then b else a)=aeQ:=aJ (by split<;>omega)
   rw [e1,aJ (p:=g8 (a,b)) (fun h=>h3 h.2.2.1)];rfl
 have e1:aeR (0<=if b<a then b else a)=aeQ:=aJ (by split<;>omega)
 rw [e1,aJ (p:=g8 (a,b)) (fun h=>h1 h.1)];rfl
theorem yd (x:Int×Int):qu x=aeL (aeR (g8 x)):=by
 obtain ⟨a,b⟩:=x;unfold qu;dsimp only
 by_cases h1:0<=a
 · by_cases h2:a<=65535
   · by_cases h3:0<=b
     · by_cases h4:b<=65535
       · by_cases h5:a=b
         · rw [bz h5,aM h1,aM h2,aM h3,aM h4,aJ (p:=g8 (a,b)) (fun h=>h.2.2.2.2 h5)];rfl
         rw [dK h5,aM h1,aM h2,aM h3,aM h4,aM (p:=g8 (a,b)) ⟨h1,h2,h3,h4,h5⟩];rfl
       rw [aM h1,aM h2,aM h3,aJ h4,aJ (p:=g8 (a,b)) (fun h=>h4 h.2.2.2.1)];rfl
     rw [aM h1,aM h2,aJ h3,aJ (p:=g8 (a,b)) (fun h=>h3 h.2.2.1)];rfl
   rw [aM h1,aJ h2,aJ (p:=g8 (a,b)) (fun h=>h2 h.2.1)];rfl
 rw [aJ h1,aJ (p:=g8 (a,b)) (fun h=>h1 h.1)];rfl
structure dR (c:aX):Prop where
 len:(aeK c.ce)<=200
 n0:0<=c.ay
 n1:c.ay<=1000000
 cv: ∀i,i<aeK c.ce->g8 (c.ce[i]!).2
 nr: ∀i,i<aeK c.ce->0<=(c.ce[i]!).1/\(c.ce[i]!).1<c.ay
 up: ∀i j,i<j->j<aeK c.ce->(c.ce[i]!).1<(c.ce[j]!).1
 nd: ∀i j,i<j->j<aeK c.ce->(c.ce[i]!).2≠(c.ce[j]!).2
def wQ (l:List ng) (i:Nat):Int:=if i=0 then -1 else (l[i-1]!).1
def K5 (c:aX) (i:Nat):Prop:=g8 (c.ce[i]!).2/\(∀j,j<i->(c.ce[j]!).2≠(c.ce[i]!).2)/\wQ c.ce i<(c.ce[i]!).1/\(c.ce[i]!).1<c.ay
theorem dR.iff {c:aX} (h1:(aeK c.ce)<=200) (h2:0<=c.ay) (h3:c.ay<=1000000):dR c↔ ∀i,i<aeK c.ce->K5 c i:=by
 constructor
 · intro ok i hi
   refine ⟨ok.cv i hi,fun j hj=>ok.nd j i hj hi,?_,(ok.nr i hi).2⟩;unfold wQ;split
   · have:=(ok.nr i hi).1;omega
   exact ok.up (i-1) i (by omega) hi
 intro h
 have low: ∀i,i<aeK c.ce->0<=(c.ce[i]!).1:=by
  intro i
  induction i with
  |zero=>intro hi;have:=(h 0 hi).2.2.1;unfold wQ at this;rw [rc rfl] at this;omega
  |succ i ih=>intro hi;have h1:=(h (i+1) hi).2.2.1;unfold wQ at h1;rw [ut (by omega),show i+1-1=i by omega] at h1;have:=ih (by omega);omega
 have up: ∀i j,i<j->j<aeK c.ce->(c.ce[i]!).1<(c.ce[j]!).1:=by
  intro i j
  induction j with
  |zero=>intro h;omega
  |succ j ih=>
   intro mf hj;have h1:=(h (j+1) hj).2.2.1;unfold wQ at h1;rw [ut (by omega),show j+1-1=j by omega] at h1
   by_cases e:i=j
   · subst e;exact h1
   have:=ih (by omega) (by omega)
   omega
 exact ⟨h1,h2,h3,fun i hi=>(h i hi).1,fun i hi=>⟨low i hi,(h i hi).2.2.2⟩,up,fun i j mf hj=>(h j hj).2.1 i mf⟩
theorem Ed (l:List ng) (k:Nat) (a b:Int):mC [a,b] ((l.take k).map fun x=>[x.2.1,x.2.2])=aeM:=by unfold mC;rw [List.all_eq_true];intro x hx;obtain ⟨y,hy,rfl⟩:=UV.1 hx;rfl
theorem Ee (l:List ng) (k:Nat) (x:Int×Int):B1 ((l.take k).map fun y=>[y.2.1,y.2.2]) [x.1,x.2]=aeR (∃j,j<k/\j<aeK l/\(l[j]!).2=x):=by
 unfold B1;rw [ae7,List.any_eq_true,decide_eq_true_iff];constructor
 · rintro ⟨y,hy,he⟩
   obtain ⟨z,hz,rfl⟩:=UV.1 hy;obtain ⟨j,h1,h2,rfl⟩:=cN.1 hz;have:[x.1,x.2]=[(l[j]!).2.1,(l[j]!).2.2]:=by simpa using he
   injection this with e1 e2;injection e2 with e2 _;exact ⟨j,h1,h2,PP e1.symm e2.symm⟩
 rintro ⟨j,h1,h2,h3⟩
 refine ⟨[(l[j]!).2.1,(l[j]!).2.2],UV.2 ⟨l[j]!,cN.2 ⟨j,h1,h2,rfl⟩,rfl⟩,?_⟩;rw [h3];simp
theorem sD (c:aX):nH c=aeL (if dR c then 0 else 8):=by
 unfold nH;simp only [aB]
 by_cases h1:200<aeK c.ce
 · rw [aM (show (200:Int)<((aeK c.ce):Int) by omega),ut (fun h=>by have:=h.len;omega)];rfl
 rw [aJ (show¬(200:Int)<((aeK c.ce):Int) by omega)]
 by_cases h2:c.ay<0
 · rw [aM h2,ut (fun h=>by have:=h.n0;omega)];rfl
 rw [aJ h2]
 by_cases h3:1000000<c.ay
 · rw [aM h3,ut (fun h=>by have:=h.n1;omega)];rfl
 rw [aJ h3];simp only [pp];have key:=c7 (body:=ou) (fun i=>(wQ c.ce i,c.ce,((aeK c.ce):Int),(i:Int),c.ay,c.ce,(c.ce.take i).map fun x=>[x.2.1,x.2.2])) (aeK c.ce) (fun i=> ¬K5 c i) (r:=8) (e:=0) (fun i hi=>by
  have e1:aeR ((i:Int)<((aeK c.ce):Int))=aeM:=aM (by omega);have has:HY ((c.ce.take i).map fun x=>[x.2.1,x.2.2]) [(c.ce[i]!).2.1,(c.ce[i]!).2.2]=aeL (aeR (∃j,j<i/\j<aeK c.ce/\(c.ce[j]!).2=(c.ce[i]!).2)):=by unfold HY;rw [Ed,Ee];rfl
  have nx:(c.ce.take (i+1)).map (fun x=>[x.2.1,x.2.2])=((c.ce.take i).map fun x=>[x.2.1,x.2.2])++[[(c.ce[i]!).2.1,(c.ce[i]!).2.2]]:=by rw [iU hi,List.map_append];rfl
  have ln:wQ c.ce (i+1)=(c.ce[i]!).1:=by unfold wQ;rw [ut (by omega),show i+1-1=i by omega]
  unfold ou;simp only [e1,pi,az c.ce i hi,ax,yc,has,nx,ln,ba (show i<1000000000 by omega)];unfold K5
  by_cases b1:g8 (c.ce[i]!).2
  case neg=>rw [aJ b1];exact ⟨fun _=>rfl,fun h=>absurd (v4.1 h).1 b1⟩
  rw [aM b1]
  by_cases b2: ∃j,j<i/\j<aeK c.ce/\(c.ce[j]!).2=(c.ce[i]!).2
  · rw [aM b2]
    refine ⟨fun _=>rfl,fun h=>?_⟩;obtain ⟨j,j1,j2,j3⟩:=b2;exact absurd j3 ((v4.1 h).2.1 j j1)
  rw [aJ b2];have b2': ∀j,j<i->(c.ce[j]!).2≠(c.ce[i]!).2:=fun j hj he=>b2 ⟨j,hj,by omega,he⟩
  by_cases b3:(c.ce[i]!).1<=wQ c.ce i
  · rw [aM b3]
    exact ⟨fun _=>rfl,fun h=>absurd (v4.1 h).2.2.1 (by omega)⟩
  rw [aJ b3]
  by_cases b4:c.ay<=(c.ce[i]!).1
  · rw [aM b4]
    exact ⟨fun _=>rfl,fun h=>absurd (v4.1 h).2.2.2 (by omega)⟩
  rw [aJ b4];have ins:HZ ((c.ce.take i).map fun x=>[x.2.1,x.2.2]) [(c.ce[i]!).2.1,(c.ce[i]!).2.2]=aeL (((c.ce.take i).map fun x=>[x.2.1,x.2.2])++[[(c.ce[i]!).2.1,(c.ce[i]!).2.2]]):=by unfold HZ Kc;rw [Ed,Ee,aJ b2];rfl
  rw [ins];exact ⟨fun h=>absurd ⟨b1,b2',by omega,by omega⟩ h,fun _=>rfl⟩) (by
  unfold ou;have:aeR (((aeK c.ce):Int)<((aeK c.ce):Int))=aeQ:=aJ (by omega);simp only [this,pp])
 have h0:wQ c.ce 0= -1:=rfl;rw [h0] at key
 by_cases ok:dR c
 · rw [rc ok]
   exact key.2 fun i hi=>v4.2 ((dR.iff (by omega) (by omega) (by omega)).1 ok i hi)
 rw [ut ok]
 rw [dR.iff (by omega) (by omega) (by omega)] at ok;obtain ⟨i,h⟩:=EQ.1 ok;obtain ⟨hi,hx⟩:=IR.1 h;exact key.1 ⟨i,hi,hx⟩
theorem I2 (c:aX) (i:Nat) (hi:i<aeK c.ce) (hl:(aeK c.ce)<=200):
 ((∃j,j<i/\(c.ce[j]!).2=(c.ce[i]!).2)->aE eV ((i:Int),0,c.ay,c.ce,c.ce[i]!)=aeL (.done 8))/\
 ((∀j,j<i-> ¬(c.ce[j]!).2=(c.ce[i]!).2)->aE eV ((i:Int),0,c.ay,c.ce,c.ce[i]!)=aeL (.next (((i+1:Nat):Int),c.ay,c.ce))):=by
 refine c7 (body:=eV) (fun j=>((i:Int),(j:Int),c.ay,c.ce,c.ce[i]!)) i (fun j=>(c.ce[j]!).2=(c.ce[i]!).2) (r:= .done 8) (e:= .next (((i+1:Nat):Int),c.ay,c.ce)) (fun j hj=>?_) ?_
 · have e1:aeR ((j:Int)<(i:Int))=aeM:=aM (by omega)
   unfold eV;simp only [e1,pi,az c.ce j (by omega),ax,ba (show j<1000000000 by omega)];generalize c.ce[j]! =x;generalize c.ce[i]! =y;constructor
   · intro h;rw [fb (congrArg aeD h),fb (congrArg aeE h)];rfl
   intro h
   by_cases h1:x.2.1=y.2.1
   · rw [fb h1,eY (fun h2=>h (PP h1 h2))];rfl
   rw [eY h1];rfl
 unfold eV
 have:aeR ((i:Int)<(i:Int))=aeQ:=aJ (by omega);simp only [this,pp,ba (show i<1000000000 by omega)]
theorem wR (c:aX):oS c=aeL (if dR c then 0 else 8):=by
 unfold oS;simp only [aB]
 by_cases h1:200<aeK c.ce
 · rw [aM (show (200:Int)<((aeK c.ce):Int) by omega),ut (fun h=>by have:=h.len;omega)];rfl
 rw [aJ (show¬(200:Int)<((aeK c.ce):Int) by omega)]
 by_cases h2:c.ay<0
 · rw [aM h2,ut (fun h=>by have:=h.n0;omega)];rfl
 rw [aJ h2]
 by_cases h3:1000000<c.ay
 · rw [aM h3,ut (fun h=>by have:=h.n1;omega)];rfl
 rw [aJ h3];simp only [pp];have key:=c7 (body:=mJ) (fun i=>((i:Int),c.ay,c.ce)) (aeK c.ce) (fun i=> ¬(g8 (c.ce[i]!).2/\0<=(c.ce[i]!).1/\(c.ce[i]!).1<c.ay/\(0<i->(c.ce[i-1]!).1<(c.ce[i]!).1)/\ ∀j,j<i-> ¬(c.ce[j]!).2=(c.ce[i]!).2)) (r:=8) (e:=0) (fun i hi=>by
  have e1:aeR ((i:Int)<((aeK c.ce):Int))=aeM:=aM (by omega);have l1:=I2 c i hi (by omega);unfold mJ;simp only [aB,e1,pi,az c.ce i hi,ax,yd]
  by_cases b1:g8 (c.ce[i]!).2
  case neg=>rw [aJ b1];exact ⟨fun _=>rfl,fun h=>absurd (v4.1 h).1 b1⟩
  rw [aM b1]
  by_cases b2:(c.ce[i]!).1<0
  · rw [aM b2]
    exact ⟨fun _=>rfl,fun h=>absurd (v4.1 h).2.1 (by omega)⟩
  rw [aJ b2]
  by_cases b3:c.ay<=(c.ce[i]!).1
  · rw [aM b3]
    exact ⟨fun _=>rfl,fun h=>absurd (v4.1 h).2.2.1 (by omega)⟩
  rw [aJ b3];simp only [ww,pp];have go:(0<i->(c.ce[i-1]!).1<(c.ce[i]!).1)->(¬(g8 (c.ce[i]!).2/\0<=(c.ce[i]!).1/\(c.ce[i]!).1<c.ay/\(0<i->(c.ce[i-1]!).1<(c.ce[i]!).1)/\ ∀j,j<i-> ¬(c.ce[j]!).2=(c.ce[i]!).2)->aE eV ((i:Int),0,c.ay,c.ce,c.ce[i]!)=aeL (.done 8))/\
   (¬¬(g8 (c.ce[i]!).2/\0<=(c.ce[i]!).1/\(c.ce[i]!).1<c.ay/\(0<i->(c.ce[i-1]!).1<(c.ce[i]!).1)/\ ∀j,j<i-> ¬(c.ce[j]!).2=(c.ce[i]!).2)->aE eV ((i:Int),0,c.ay,c.ce,c.ce[i]!)=aeL (.next (((i+1:Nat):Int),c.ay,c.ce))):=by
   intro hp;constructor
   · intro h
     refine l1.1 (Classical.byContradiction fun hx=>h ⟨b1,by omega,by omega,hp,fun j hj he=>hx ⟨j,hj,he⟩⟩)
   intro h
   exact l1.2 (v4.1 h).2.2.2.2
  by_cases b4:0<i
  · have f1:aeR ((0:Int)<(i:Int))=aeM:=aM (by omega)
    simp only [f1,pi,uH (show i<1000000000 by omega) b4,az c.ce (i-1) (by omega),ax]
    by_cases b5:(c.ce[i]!).1<=(c.ce[i-1]!).1
    · rw [aM b5]
      exact ⟨fun _=>rfl,fun h=>absurd ((v4.1 h).2.2.2.1 b4) (by omega)⟩
    rw [aJ b5]
    exact go fun _=>by omega
  · have f1:aeR ((0:Int)<(i:Int))=aeQ:=aJ (by omega)
    rw [f1];exact go fun h=>absurd h b4) (by
  unfold mJ;have:aeR (((aeK c.ce):Int)<((aeK c.ce):Int))=aeQ:=aJ (by omega);simp only [aB,this,pp])
 have same:dR c↔ ∀i,i<aeK c.ce->(g8 (c.ce[i]!).2/\0<=(c.ce[i]!).1/\(c.ce[i]!).1<c.ay/\(0<i->(c.ce[i-1]!).1<(c.ce[i]!).1)/\ ∀j,j<i-> ¬(c.ce[j]!).2=(c.ce[i]!).2):=by
  constructor
  · intro ok i hi
    exact ⟨ok.cv i hi,(ok.nr i hi).1,(ok.nr i hi).2,fun h=>ok.up (i-1) i (by omega) hi,fun j hj=>ok.nd j i hj hi⟩
  intro h
  rw [dR.iff (by omega) (by omega) (by omega)];intro i hi;obtain ⟨a1,a2,a3,a4,a5⟩:=h i hi;refine ⟨a1,a5,?_,a3⟩;unfold wQ;split
  · omega
  exact a4 (by omega)
 by_cases ok:dR c
 · rw [rc ok]
   exact key.2 fun i hi=>v4.2 (same.1 ok i hi)
 rw [ut ok]
 rw [same] at ok;obtain ⟨i,h⟩:=EQ.1 ok;obtain ⟨hi,hx⟩:=IR.1 h;exact key.1 ⟨i,hi,hx⟩
def lD (l:List ng) (x:Int×Int):Prop:= ∃i,i<aeK l/\(l[i]!).2=x
theorem Ef (l:List ng) (x:Int×Int) (hl:(aeK l)<=1000000):bW l x=aeL (aeR (lD l x)):=by
 unfold bW eF;have key:=gZ (body:=cT) (fun i=>(l,x.1,x.2,((aeK l):Int),(i:Int))) (aeK l) (fun i=>(l[i]!).2=x) (fun i=>(i:Int)) (e:= -1) (fun i hi=>by
  have e1:aeR ((i:Int)<((aeK l):Int))=aeM:=aM (by omega);unfold cT yS;simp only [e1,pi,az l i hi,ax,ba (show i<1000000000 by omega)];generalize l[i]! =y;constructor
  · intro h;rw [fb (congrArg aeD h),fb (congrArg aeE h)];rfl
  · intro h
    by_cases h1:y.2.1=x.1
    · rw [fb h1,eY (fun h2=>h (PP h1 h2))];rfl
    rw [eY h1];rfl) (by
  unfold cT;have:aeR (((aeK l):Int)<((aeK l):Int))=aeQ:=aJ (by omega);simp only [this,pp])
 rw [aB]
 by_cases hx:lD l x
 · obtain ⟨k,h1,h2,h3⟩:=least hx
   have:=key.1 k h1 h2 h3;rw [show ((0:Nat):Int)=0 from rfl] at this;rw [this,aM hx];simp only [ax,aM (show (0:Int)<=(k:Int) by omega)]
 have:=key.2 fun i hi he=>hx ⟨i,hi,he⟩
 rw [show ((0:Nat):Int)=0 from rfl] at this;rw [this,aJ hx];rfl
theorem qg:dB=bW:=rfl
theorem uN (c:aX) (x:Int×Int) (hl:(aeK c.ce)<=1000000):qe c x=aeL (aeR (lD c.ce x)):=by
 unfold qe;have key:=c7 (body:=pW) (fun i=>((i:Int),c.ay,c.ce,x)) (aeK c.ce) (fun i=>(c.ce[i]!).2=x) (r:=aeM) (e:=aeQ) (fun i hi=>by
  have e1:aeR ((i:Int)<((aeK c.ce):Int))=aeM:=aM (by omega);unfold pW;simp only [aB,e1,pi,az c.ce i hi,ax,ba (show i<1000000000 by omega)];generalize c.ce[i]! =y;constructor
  · intro h;rw [fb (congrArg aeD h),fb (congrArg aeE h)];rfl
  · intro h
    by_cases h1:y.2.1=x.1
    · rw [fb h1,eY (fun h2=>h (PP h1 h2))];rfl
    rw [eY h1];rfl) (by
  unfold pW;have:aeR (((aeK c.ce):Int)<((aeK c.ce):Int))=aeQ:=aJ (by omega);simp only [aB,this,pp])
 by_cases hx:lD c.ce x
 · rw [aM hx];exact key.1 hx
 rw [aJ hx];exact key.2 fun i hi he=>hx ⟨i,hi,he⟩
def m8 (c:aX) (x:Int×Int):aX:=⟨c.ay+1,c.ce++[(c.ay,x)]⟩
def Ad (c:aX):Prop:=aeK c.ce=200\/c.ay=1000000
theorem I3 {c:aX} (ok:dR c) {x:Int×Int} (hx:g8 x):z0 c x=aeL (if lD c.ce x then (⟨0,[]⟩,0,14) else if Ad c then (⟨0,[]⟩,0,18) else (m8 c x,c.ay,0)):=by
 have:=ok.len;have:=ok.n0;have:=ok.n1;unfold z0;rw [sD,rc ok,yc,aM hx,Ef _ _ (by omega)];simp only [ax,show ((0:Int) !=0)=aeQ from rfl,pp,ww,aB]
 by_cases h1:lD c.ce x
 · rw [aM h1,rc h1];rfl
 rw [aJ h1,ut h1];unfold Ad
 by_cases h2:(aeK c.ce)=200
 · rw [fb (show ((aeK c.ce):Int)=200 by omega),rc (.inl h2)];rfl
 rw [eY (show¬((aeK c.ce):Int)=200 by omega)]
 by_cases h3:c.ay=1000000
 · rw [fb h3,rc (.inr h3)];rfl
 rw [eY h3,ut (by omega)];have e:ai .i64 (c.ay+1)=c.ay+1:=by rw [wi];omega
 simp only [pp,bo (show (aeK c.ce)<=1048576 by omega),ax,eZ (show (aeK c.ce)+[(c.ay,x)].length<=1048576 by simp;omega),e];rfl
theorem GW {c:aX} (ok:dR c) {x:Int×Int} (hx:g8 x):A9 c x=aeL (if lD c.ce x then (⟨0,[]⟩,0,14) else if Ad c then (⟨0,[]⟩,0,18) else (m8 c x,c.ay,0)):=by
 have:=ok.len;have:=ok.n0;have:=ok.n1;unfold A9 uE;rw [wR,rc ok,yd,aM hx,uN _ _ (by omega)];simp only [ax,show ((0:Int) !=0)=aeQ from rfl,pp,ww,aB]
 by_cases h1:lD c.ce x
 · rw [aM h1,rc h1];rfl
 rw [aJ h1,ut h1];unfold Ad
 by_cases h2:(aeK c.ce)=200
 · rw [fb (show ((aeK c.ce):Int)=200 by omega),rc (.inl h2)];rfl
 rw [eY (show¬((aeK c.ce):Int)=200 by omega)]
 by_cases h3:c.ay=1000000
 · rw [fb h3,rc (.inr h3)];rfl
 rw [eY h3,ut (by omega)];have e:ai .i64 (c.ay+1)=c.ay+1:=by rw [wi];omega
 simp only [pp,bo (show (aeK c.ce)<=1048576 by omega),ax,eZ (show (aeK c.ce)+[(c.ay,x)].length<=1048576 by simp;omega),e];rfl
theorem qK {c:aX} {x:Int×Int} {i:Nat}:(m8 c x).ce[i]! =if i<(aeK c.ce) then c.ce[i]! else if i=(aeK c.ce) then (c.ay,x) else default:=by
 show (c.ce++[(c.ay,x)])[i]! =_
 by_cases h:i<aeK c.ce
 · rw [rc h,gj h]
 rw [ut h,iR (by omega)]
 by_cases e:i=aeK c.ce
 · rw [rc e,e,ae5];rfl
 rw [ut e,getElem!_neg _ _ (by simp;omega)]
theorem xz {c:aX} {x:Int×Int}:(m8 c x).ce.length=aeK c.ce+1:=by show (c.ce++[(c.ay,x)]).length=_;simp
theorem K6 {c:aX} (ok:dR c) {x:Int×Int} (hx:g8 x) (hn: ¬lD c.ce x) (hf: ¬Ad c):dR (m8 c x):=by
 have h1:=ok.len;have h2:=ok.n0;have h3:=ok.n1;unfold Ad at hf;refine ⟨by rw [xz];omega,by show 0<=c.ay+1;omega,by show c.ay+1<=1000000;omega,?_,?_,?_,?_⟩
 · intro i hi
   rw [xz] at hi;rw [qK]
   by_cases h:i<aeK c.ce
   · rw [rc h];exact ok.cv i h
   rw [ut h,rc (by omega)];exact hx
 · intro i hi
   rw [xz] at hi;rw [qK];show 0<=_/\_<c.ay+1
   by_cases h:i<aeK c.ce
   · rw [rc h];have:=ok.nr i h;omega
   rw [ut h,rc (by omega)];dsimp only;omega
 · intro i j mf hj
   rw [xz] at hj;rw [qK,qK,rc (by omega)]
   by_cases h:j<aeK c.ce
   · rw [rc h];exact ok.up i j mf h
   rw [ut h,rc (by omega)]
   exact (ok.nr i (by omega)).2
 intro i j mf hj
 rw [xz] at hj;rw [qK,qK,rc (by omega)]
 by_cases h:j<aeK c.ce
 · rw [rc h];exact ok.nd i j mf h
 rw [ut h,rc (by omega)]
 exact fun he=>hn ⟨i,by omega,he⟩
def kN (c:aX) (k:Nat):aX:=⟨c.ay,c.ce.eraseIdx k⟩
theorem MF {α:Type} {l:List α} {k:Nat} (hk:k<aeK l):(l.eraseIdx k).length=aeK l-1:=by rw [List.length_eraseIdx,rc hk]
theorem Eg {c:aX} (ok:dR c) {k:Nat} (hk:k<aeK c.ce):dR (kN c k):=by
 have h1:=ok.len;have len:(kN c k).ce.length=aeK c.ce-1:=MF hk;have cell: ∀i,∃j,i<=j/\j<=i+1/\(i<aeK c.ce-1->j<aeK c.ce)/\(kN c k).ce[i]! =c.ce[j]!/\(i<k->j=i)/\(k<=i->j=i+1):=by
  intro i
  by_cases h:i<k
  · exact ⟨i,by omega,by omega,by omega,by show (c.ce.eraseIdx k)[i]! =_;rw [Ec,rc h],fun _=>rfl,by omega⟩
  exact ⟨i+1,by omega,by omega,by omega,by show (c.ce.eraseIdx k)[i]! =_;rw [Ec,ut h],by omega,fun _=>rfl⟩
 refine ⟨by omega,ok.n0,ok.n1,?_,?_,?_,?_⟩
 · intro i hi
   obtain ⟨j,j1,j2,j3,j4,j5,j6⟩:=cell i;rw [j4];exact ok.cv j (j3 (by omega))
 · intro i hi
   obtain ⟨j,j1,j2,j3,j4,j5,j6⟩:=cell i;rw [j4];exact ok.nr j (j3 (by omega))
 · intro i i' mf hi
   obtain ⟨j,j1,j2,j3,j4,j5,j6⟩:=cell i;obtain ⟨m,m1,m2,m3,m4,m5,m6⟩:=cell i';rw [j4,m4];exact ok.up j m (by omega) (m3 (by omega))
 intro i i' mf hi
 obtain ⟨j,j1,j2,j3,j4,j5,j6⟩:=cell i;obtain ⟨m,m1,m2,m3,m4,m5,m6⟩:=cell i';rw [j4,m4];exact ok.nd j m (by omega) (m3 (by omega))
theorem Eh {c:aX} (ok:dR c) {k:Nat} (hk:k<aeK c.ce) {n:Int} (hn:(c.ce[k]!).1=n):rD c n=aeL (kN c k,(c.ce[k]!).2,0):=by have h1:=ok.len;unfold rD A7;obtain ⟨L,d1,d2⟩:=BL c.ce k hk;rw [sD,rc ok,(Cp c.ce n (by omega) ok.up).1 k hk hn];simp only [ax,show ((0:Int) !=0)=aeQ from rfl,pp,ww,bo (show (aeK c.ce)<=1048576 by omega),ba (show k<1000000000 by omega),d1,az c.ce k hk,d2];rfl
theorem GX {l:List ng} {k:Nat} (hk:k<aeK l) (hs: ∀i j,i<j->j<aeK l->(l[i]!).1<(l[j]!).1) {n:Int} (hn:(l[k]!).1=n):l.filter (fun x=>x.1 !=n)=l.eraseIdx k:=by
 rw [qJ];have e:l.filter (fun x=>x.1 !=n)=(l.take k++l[k]!::l.drop (k+1)).filter (fun x=>x.1 !=n):=congrArg _ (QD hk);rw [e,aes,List.filter_cons_of_neg (by rw [hn];simp)]
 congr 1
 · rw [aeo]
   intro x hx;obtain ⟨i,h1,h2,rfl⟩:=cN.1 hx;have:=hs i k h1 hk;exact dK (by omega)
 rw [aeo]
 intro x hx;obtain ⟨i,h1,rfl⟩:=aS.1 hx;rw [ae1] at h1;rw [nS];have:=hs k (k+1+i) (by omega) (by omega);exact dK (by omega)
theorem Bh {c:aX} (ok:dR c) {k:Nat} (hk:k<aeK c.ce) {n:Int} (hn:(c.ce[k]!).1=n):sm c n=aeL (kN c k):=by
 have h1:=ok.len;unfold sm;have key:=eC (body:=iQ) (fun i=>(n,(i:Int),c.ay,c.ce,0,c.ay,(c.ce.take i).filter (fun x=>x.1 !=n))) (aeK c.ce) (fun i hi=>by
  have e1:aeR ((i:Int)<((aeK c.ce):Int))=aeM:=aM (by omega);have nx:(c.ce.take (i+1)).filter (fun x=>x.1 !=n)=(c.ce.take i).filter (fun x=>x.1 !=n)++(if (c.ce[i]!).1 !=n then [c.ce[i]!] else []):=by rw [iU hi,aes,List.filter_cons,List.filter_nil]
  have fl:((c.ce.take i).filter (fun x=>x.1 !=n)).length<=200:=aeH (List.length_filter_le _ _) (by rw [If];omega);unfold iQ;simp only [aB,e1,pi,az c.ce i hi,ax,ba (show i<1000000000 by omega),nx]
  by_cases h:(c.ce[i]!).1=n
  · rw [bz h];simp
  rw [dK h]
  simp only [pi,if_true,eZ (show ((c.ce.take i).filter (fun x=>x.1 !=n)).length+[c.ce[i]!].length<=1048576 by simp only [aev,aey];omega),ax])
 have fin:iQ (n,((aeK c.ce):Int),c.ay,c.ce,0,c.ay,(c.ce.take (aeK c.ce)).filter (fun x=>x.1 !=n))=aeL (.done (kN c k)):=by unfold iQ;have:aeR (((aeK c.ce):Int)<((aeK c.ce):Int))=aeQ:=aJ (by omega);simp only [aB,this,pp,List.take_length];rw [GX hk ok.up hn];rfl
 refine Eq.trans ?_ (aI fin);exact key
def pB (l:List Pt) (id:Int):Prop:= ∃k,k<aeK l/\(l[k]!).1=id
noncomputable def bS (l:List Pt) (id:Int):Pt:=if h:pB l id then l[h.choose]! else (-1,0,0)
theorem Cq {l:List Pt} (hs:jr l) {k:Nat} (hk:k<aeK l) {id:Int} (h:(l[k]!).1=id):bS l id=l[k]!:=by have hp:pB l id:=⟨k,hk,h⟩;unfold bS;rw [dif_pos hp];have:=hp.choose_spec;rw [DU hs this.1 hk (by rw [this.2,h])]
theorem dL {l:List Pt} (ok:dQ l) {id:Int} (h:pB l id):ff (bS l id)/\(bS l id).1=id:=by obtain ⟨k,hk,he⟩:=h;rw [Cq ok.2.2 hk he];exact ⟨ok.2.1 _ (bj hk),he⟩
theorem Bi {l:List Pt} {id:Int} (h: ¬pB l id):bS l id=(-1,0,0):=by unfold bS;rw [dif_neg h]
theorem kA {l:List Pt} (ok:dQ l) (id:Int):gW ⟨l⟩ id=aeL (bS l id):=by
 have h1:=ok.1;have bs:=Cp l id (by omega) (fun i j=>qf ok.2.2);unfold gW;dsimp only;rw [QX]
 by_cases h:pB l id
 · obtain ⟨k,hk,he⟩:=h
   rw [bs.1 k hk he];simp only [ax,ww,pp,az l k hk,Cq ok.2.2 hk he]
 obtain ⟨m,m1,m2,m3,e⟩:=bs.2 (fun k hk he=>h ⟨k,hk,he⟩)
 rw [e,Bi h];rfl
theorem yW {l:List Pt} (ok:dQ l) {id:Int} (h:pB l id): ∃k,k<aeK l/\gA ⟨l⟩ id=aeL (k:Int)/\l[k]! =bS l id:=by have h1:=ok.1;obtain ⟨k,hk,he⟩:=h;exact ⟨k,hk,N1 ok.2.2 (by omega) hk he,(Cq ok.2.2 hk he).symm⟩
theorem K7 {l:List Pt} (ok:dQ l) {id:Int} (h: ¬pB l id):gA ⟨l⟩ id=aeL (-1):=by have h1:=ok.1;exact XI (by omega) fun k hk he=>h ⟨k,hk,he⟩
def iY (l:List Pt) (x:Int×Int):Prop:=pB l x.1/\pB l x.2
noncomputable def bk (l:List Pt) (x t:Int×Int):(Int×Int)×Bool:=iT (bS l x.2) (bS l x.1) t
theorem sE {l:List Pt} (ok:dQ l) {x t:Int×Int} (hx:g8 x) (ht:bm t) (h64:jw t):
 nL ⟨l⟩ x t=aeL (if iY l x then ((bk l x t).1,(bk l x t).2,0) else ((0,0),aeQ,8)):=by
 unfold nL;rw [kA ok,kA ok];simp only [ax,B5 h64];have bad: ¬ff (-1,0,0):=by unfold ff;dsimp only;omega
 by_cases h1:pB l x.1
 · by_cases h2:pB l x.2
   · obtain ⟨p1,p2⟩:=dL ok h1
     obtain ⟨q1,q2⟩:=dL ok h2;rw [rc ⟨q1,p1,ht,by rw [p2,q2];exact fun h=>hx.2.2.2.2 h.symm⟩,rc ⟨h1,h2⟩];rfl
   rw [Bi h2,ut (fun h=>bad h.1),ut (fun h=>bad h.1),ut (fun h=>h2 h.2)]
 rw [Bi h1,ut (fun h=>bad h.2.1),ut (fun h=>bad h.2.1),ut (fun h=>h1 h.1)]
theorem sF {l:List Pt} (ok:dQ l) {x t:Int×Int} (h64:jw t) (hb:iY l x):nG ⟨l⟩ x t=aeL (bk l x t):=by obtain ⟨h1,h2⟩:=hb;obtain ⟨j,j1,j2,j3⟩:=yW ok h1;obtain ⟨k,k1,k2,k3⟩:=yW ok h2;unfold nG;simp only [j2,k2,ax,az l j j1,az l k k1,j3,k3,KU (dL ok h2).1 (dL ok h1).1 h64];rfl
theorem QY (c:aX) {l:List Pt} (ok:dQ l) (hl:(aeK c.ce)<=200):rz c ⟨l⟩=aeL (aeR (∀i,i<aeK c.ce->iY l (c.ce[i]!).2)):=by
 unfold rz;have key:=c7 (body:=mK) (fun i=>((i:Int),c.ay,c.ce,l)) (aeK c.ce) (fun i=> ¬iY l (c.ce[i]!).2) (r:=aeQ) (e:=aeM) (fun i hi=>by
  have e1:aeR ((i:Int)<((aeK c.ce):Int))=aeM:=aM (by omega);unfold mK iY;simp only [aB,e1,pi,az c.ce i hi,ax,ba (show i<1000000000 by omega)]
  by_cases h1:pB l (c.ce[i]!).2.1
  · obtain ⟨k,k1,k2,_⟩:=yW ok h1
    rw [k2];simp only [ax,aJ (show¬(k:Int)<0 by omega),pp]
    by_cases h2:pB l (c.ce[i]!).2.2
    · obtain ⟨j,j1,j2,_⟩:=yW ok h2
      rw [j2];simp only [ax,aJ (show¬(j:Int)<0 by omega),pp];exact ⟨fun h=>absurd ⟨h1,h2⟩ h,fun _=>trivial⟩
    rw [K7 ok h2]
    exact ⟨fun _=>rfl,fun h=>absurd (v4.1 h).2 h2⟩
  · rw [K7 ok h1]
    exact ⟨fun _=>rfl,fun h=>absurd (v4.1 h).1 h1⟩) (by
  unfold mK;have:aeR (((aeK c.ce):Int)<((aeK c.ce):Int))=aeQ:=aJ (by omega);simp only [aB,this,pp])
 by_cases hx: ∀i,i<aeK c.ce->iY l (c.ce[i]!).2
 · rw [aM hx];exact key.2 fun i hi=>v4.2 (hx i hi)
 rw [aJ hx]
 obtain ⟨i,h⟩:=EQ.1 hx;obtain ⟨hi,hx⟩:=IR.1 h;exact key.1 ⟨i,hi,hx⟩
def aV (l:List Pt) (t:Int×Int) (H:List Ev):List ng->List ng->Prop
 | [],ds=>ds=[]
 |x::cs,ds=>((bk l x.2 t).2=aeM-> ∃d vT,ds=d::vT/\d.1=x.1/\((bk l x.2 t).1.1,(bk l x.2 t).1.2,x.1,d.2)∈H/\aV l t H cs vT)/\((bk l x.2 t).2=aeQ->aV l t H cs ds)
structure aU (c:aG):Prop where
 jE:bm c.ci
 iV:jw c.ci
 jT:dQ c.ii.am
 oC:dR c.af
 kO:dT c.aa
 Ei:(aeK c.aa.aj)=200
 hd:(aeK c.aa.bv)=aeK c.io
 known: ∀i,i<aeK c.af.ce->iY c.ii.am (c.af.ce[i]!).2
 yX:aV c.ii.am c.ci c.aa.bv c.af.ce c.io
structure tq (c:aG):Prop where
 iV:jw c.ci
 ag:wN c.aa
 du:(aeK c.io)<=1000000
theorem Y3 {a:aF} (ok:dT a) (w2:(aeK a.aj)=200) (t:Int×Int) (n:Int) (h:Int×Int):
 (0<=h.1/\h.1<200/\0<=a.aj[h.1.toNat]!/\a.bv[(a.aj[h.1.toNat]!).toNat]! =(t.1,t.2,n,h))↔((t.1,t.2,n,h):Ev)∈a.bv:=by
 have wl:=ok.wl;have hu:=ok.so.ul;constructor
 · rintro ⟨h1,h2,h3,h4⟩
   cases hb:a.ae.be[h.1.toNat]! with
   |false=>have:=ok.un h.1.toNat (by omega) hb;omega
   |true=>have:=ok.fwd h.1.toNat (by omega) hb;rw [<- h4];exact bj (by omega)
 intro hm
 obtain ⟨w,hw,he⟩:=aS.1 hm;obtain ⟨b1,b2,b3,b4,b5⟩:=ok.back hw;have e:Ev.ix a.bv[w]! =h.1:=by rw [he]
 have e2:Ev.n a.bv[w]! =h.1.toNat:=by rw [he]
 rw [e] at b1 b2;rw [e2] at b5;refine ⟨b1,by omega,by omega,?_⟩;rw [b5,AC,he]
theorem QZ {a:aF} (ok:dT a) {i:Nat} (hi:i<aeK a.ae.au) (h:0<=a.aj[i]!):a.aj[i]!<(aeK a.bv):=by
 cases hb:a.ae.be[i]! with
 |false=>have:=ok.un i hi hb;omega
 |true=>exact (ok.fwd i hi hb).2.1
theorem lZ {α:Type} [Inhabited α] {l:List α} {i:Nat} (h:i<aeK l):l.drop i=l[i]!::l.drop (i+1):=by rw [getElem!_pos l i h];exact List.drop_eq_getElem_cons h
theorem I4 {c:aG} (jE:bm c.ci) (iV:jw c.ci) (jT:dQ c.ii.am) (oC:dR c.af) (kO:dT c.aa) (w2:(aeK c.aa.aj)=200):
 ∀(d i:Nat) (ds:List ng),aeK c.af.ce-i<=d->i<=aeK c.af.ce->aeK ds<=1000000->
  aE cu (ds,c.af.ce,((aeK c.af.ce):Int),(i:Int),c.ci.1,c.ci.2,c.ii.am,c.af.ay,c.af.ce,c.aa.ae.au,c.aa.ae.be,c.aa.ae.bi,c.aa.bv,c.aa.aj,c.io)=
   aeL (.done (if (∀j,i<=j->j<aeK c.af.ce->iY c.ii.am (c.af.ce[j]!).2)/\aV c.ii.am c.ci c.aa.bv (c.af.ce.drop i) ds then 0 else 8)):=by
 have hl:=oC.len;have wl:=kO.wl;have fin: ∀(ds:List ng),aE cu (ds,c.af.ce,((aeK c.af.ce):Int),((aeK c.af.ce):Int),c.ci.1,c.ci.2,c.ii.am,c.af.ay,c.af.ce,c.aa.ae.au,c.aa.ae.be,c.aa.ae.bi,c.aa.bv,c.aa.aj,c.io)=aeL (.done (if ds=[] then 0 else 8)):=by
  intro ds;refine aI ?_;unfold cu;have e1:aeR (((aeK c.af.ce):Int)<((aeK c.af.ce):Int))=aeQ:=aJ (by omega);simp only [aB,e1,pp];cases ds with
  |nil=>rw [aJ (by simp),rc rfl];rfl
  |cons d ds=>rw [aM (by simp),ut (by simp)];rfl
 intro d
 induction d with
 |zero=>
  intro i ds hd hi RP;have:i=(aeK c.af.ce):=by omega
  subst this;rw [fin ds,adR];have:((∀j,aeK c.af.ce<=j->j<aeK c.af.ce->iY c.ii.am (c.af.ce[j]!).2)/\aV c.ii.am c.ci c.aa.bv [] ds)↔ds=[]:=⟨fun h=>h.2,fun h=>⟨fun j h1 h2=>by omega,h⟩⟩
  by_cases h:ds=[]
  · rw [rc h,rc (this.2 h)]
  rw [ut h,ut (fun k=>h (this.1 k))]
 |succ d ih=>
  intro i ds hd hi RP
  by_cases he:i=aeK c.af.ce
  · subst he
    rw [fin ds,adR];have:((∀j,aeK c.af.ce<=j->j<aeK c.af.ce->iY c.ii.am (c.af.ce[j]!).2)/\aV c.ii.am c.ci c.aa.bv [] ds)↔ds=[]:=⟨fun h=>h.2,fun h=>⟨fun j h1 h2=>by omega,h⟩⟩
    by_cases h:ds=[]
    · rw [rc h,rc (this.2 h)]
    rw [ut h,ut (fun k=>h (this.1 k))]
  have pE:i<(aeK c.af.ce):=by omega
  have e1:aeR ((i:Int)<((aeK c.af.ce):Int))=aeM:=aM (by omega);have hw:=sE jT (x:=(c.af.ce[i]!).2) (t:=(c.ci.1,c.ci.2)) (oC.cv i pE) jE iV;have dr:=lZ pE;have all:(∀j,i<=j->j<aeK c.af.ce->iY c.ii.am (c.af.ce[j]!).2)↔(iY c.ii.am (c.af.ce[i]!).2/\ ∀j,i+1<=j->j<aeK c.af.ce->iY c.ii.am (c.af.ce[j]!).2):=by
   constructor
   · intro h;exact ⟨h i (Do _) pE,fun j h1 h2=>h j (by omega) h2⟩
   rintro ⟨h1,h2⟩ j h3 h4
   by_cases e:j=i
   · rw [e];exact h1
   exact h2 j (by omega) h4
  have sc:=ba (show i<1000000000 by omega)
  by_cases hb:iY c.ii.am (c.af.ce[i]!).2
  case neg=>rw [ut (fun h=>hb (all.1 h.1).1)];refine aI ?_;unfold cu;simp only [e1,pi,az c.af.ce i pE,ax,hw,ut hb];rfl
  rw [rc hb] at hw
  by_cases is:(bk c.ii.am (c.af.ce[i]!).2 c.ci).2=aeM
  case neg=>
   have is':(bk c.ii.am (c.af.ce[i]!).2 c.ci).2=aeQ:=by simpa using is
   rw [aW (y:=(ds,c.af.ce,((aeK c.af.ce):Int),((i+1:Nat):Int),c.ci.1,c.ci.2,c.ii.am,c.af.ay,c.af.ce,c.aa.ae.au,c.aa.ae.be,c.aa.ae.bi,c.aa.bv,c.aa.aj,c.io)) (by unfold cu;simp only [e1,pi,az c.af.ce i pE,ax,hw,sc,is',show ((0:Int) !=0)=aeQ from rfl,pp,acl]),ih (i+1) ds (by omega) (by omega) RP];have same:((∀j,i<=j->j<aeK c.af.ce->iY c.ii.am (c.af.ce[j]!).2)/\aV c.ii.am c.ci c.aa.bv (c.af.ce.drop i) ds)↔((∀j,i+1<=j->j<aeK c.af.ce->iY c.ii.am (c.af.ce[j]!).2)/\aV c.ii.am c.ci c.aa.bv (c.af.ce.drop (i+1)) ds):=by
    rw [dr,all];constructor
    · rintro ⟨⟨_,h1⟩,h2⟩;exact ⟨h1,h2.2 is'⟩
    rintro ⟨h1,h2⟩;exact ⟨⟨hb,h1⟩,fun h=>absurd h is,fun _=>h2⟩
   simp only [same]
  have stop:(¬((∀j,i<=j->j<aeK c.af.ce->iY c.ii.am (c.af.ce[j]!).2)/\aV c.ii.am c.ci c.aa.bv (c.af.ce.drop i) ds))->cu (ds,c.af.ce,((aeK c.af.ce):Int),(i:Int),c.ci.1,c.ci.2,c.ii.am,c.af.ay,c.af.ce,c.aa.ae.au,c.aa.ae.be,c.aa.ae.bi,c.aa.bv,c.aa.aj,c.io)=aeL (.done (.done 8))->aE cu (ds,c.af.ce,((aeK c.af.ce):Int),(i:Int),c.ci.1,c.ci.2,c.ii.am,c.af.ay,c.af.ce,c.aa.ae.au,c.aa.ae.be,c.aa.ae.bi,c.aa.bv,c.aa.aj,c.io)=
   aeL (.done (if (∀j,i<=j->j<aeK c.af.ce->iY c.ii.am (c.af.ce[j]!).2)/\aV c.ii.am c.ci c.aa.bv (c.af.ce.drop i) ds then 0 else 8)):=by
   intro h1 h2;rw [ut h1];exact aI h2
  cases ds with
  |nil=>
   refine stop (fun h=>?_) ?_
   · rw [dr] at h
     obtain ⟨d,vT,h1,_⟩:=h.2.1 is;cases h1
   unfold cu
   simp only [e1,pi,az c.af.ce i pE,ax,hw,is,show ((0:Int) !=0)=aeQ from rfl,pp,ww];rfl
  |cons d0 ds=>
   have l0:((((d0::ds).length:Nat):Int)==0)=aeQ:=eY (by simp;omega);have g0:aK (d0::ds) 0=aeL d0:=rfl;have yX: ∀P:Prop,(P↔d0.1=(c.af.ce[i]!).1/\(((bk c.ii.am (c.af.ce[i]!).2 c.ci).1.1,(bk c.ii.am (c.af.ce[i]!).2 c.ci).1.2,(c.af.ce[i]!).1,d0.2):Ev)∈c.aa.bv)-> ¬P-> ¬((∀j,i<=j->j<aeK c.af.ce->iY c.ii.am (c.af.ce[j]!).2)/\aV c.ii.am c.ci c.aa.bv (c.af.ce.drop i) (d0::ds)):=by intro P hP hn h;rw [dr] at h;obtain ⟨d,vT,h1,h2,h3,_⟩:=h.2.1 is;injection h1 with h1 _;subst h1;exact hn (hP.2 ⟨h2,h3⟩)
   by_cases b1:d0.1=(c.af.ce[i]!).1
   case neg=>refine stop (yX (d0.1=(c.af.ce[i]!).1/\_) ae2 (fun h=>b1 h.1)) ?_;unfold cu;simp only [aB,e1,pi,az c.af.ce i pE,ax,hw,is,show ((0:Int) !=0)=aeQ from rfl,pp,ww,l0,g0,dK b1]
   have ea:=Y3 kO w2 (bk c.ii.am (c.af.ce[i]!).2 c.ci).1 (c.af.ce[i]!).1 d0.2
   by_cases b2:d0.2.1<0
   · refine stop (yX (d0.1=(c.af.ce[i]!).1/\_) ae2 (fun h=>by have:=(ea.2 h.2).1;omega)) ?_
     unfold cu;simp only [aB,e1,pi,az c.af.ce i pE,ax,hw,is,show ((0:Int) !=0)=aeQ from rfl,pp,ww,l0,g0,bz b1,aM b2]
   by_cases b3:200<=d0.2.1
   · refine stop (yX (d0.1=(c.af.ce[i]!).1/\_) ae2 (fun h=>by have:=(ea.2 h.2).2.1;omega)) ?_
     unfold cu;simp only [aB,e1,pi,az c.af.ce i pE,ax,hw,is,show ((0:Int) !=0)=aeQ from rfl,pp,ww,l0,g0,bz b1,aJ b2,aM b3]
   have gw:=df (l:=c.aa.aj) (i:=d0.2.1) (by omega) (by omega)
   by_cases b4:c.aa.aj[d0.2.1.toNat]!<0
   · refine stop (yX (d0.1=(c.af.ce[i]!).1/\_) ae2 (fun h=>by have:=(ea.2 h.2).2.2.1;omega)) ?_
     unfold cu;simp only [aB,e1,pi,az c.af.ce i pE,ax,hw,is,show ((0:Int) !=0)=aeQ from rfl,pp,ww,l0,g0,bz b1,aJ b2,aJ b3,gw,aM b4]
   have gh:=df (l:=c.aa.bv) (i:=c.aa.aj[d0.2.1.toNat]!) (by omega) (QZ kO (by omega) (by omega));have sl:hM (d0::ds) 1 ((((d0::ds).length:Nat):Int))=aeL ds:=by unfold hM;rw [rc ⟨by omega,by simp;omega,by omega⟩];simp
   have evq: ∀(e:Ev) (p:Int×Int) (n:Int) (h:Int×Int),((e.1==p.1)&&((e.2.1==p.2)&&((e.2.2.1==n)&&((e.2.2.2.1==h.1)&&(e.2.2.2.2==h.2)))))=aeR (e=(p.1,p.2,n,h)):=by
    intro e p n h;rw [ae7,decide_eq_true_iff];simp only [aex,beq_iff_eq];constructor
    · rintro ⟨h1,h2,h3,h4,h5⟩
      exact PP h1 (PP h2 (PP h3 (PP h4 h5)))
    intro h;rw [h];exact ⟨rfl,rfl,rfl,rfl,rfl⟩
   have ahy:=evq c.aa.bv[(c.aa.aj[d0.2.1.toNat]!).toNat]! (bk c.ii.am (c.af.ce[i]!).2 c.ci).1 (c.af.ce[i]!).1 d0.2
   by_cases b5:c.aa.bv[(c.aa.aj[d0.2.1.toNat]!).toNat]! =((bk c.ii.am (c.af.ce[i]!).2 c.ci).1.1,(bk c.ii.am (c.af.ce[i]!).2 c.ci).1.2,(c.af.ce[i]!).1,d0.2)
   case neg=>refine stop (yX (d0.1=(c.af.ce[i]!).1/\_) ae2 (fun h=>b5 (ea.2 h.2).2.2.2)) ?_;unfold cu;simp only [aB,e1,pi,az c.af.ce i pE,ax,hw,is,show ((0:Int) !=0)=aeQ from rfl,pp,ww,l0,g0,bz b1,aJ b2,aJ b3,gw,aJ b4,gh];rw [ahy,aJ b5];rfl
   have xE:=ea.1 ⟨by omega,by omega,by omega,b5⟩;rw [aW (y:=(ds,c.af.ce,((aeK c.af.ce):Int),((i+1:Nat):Int),c.ci.1,c.ci.2,c.ii.am,c.af.ay,c.af.ce,c.aa.ae.au,c.aa.ae.be,c.aa.ae.bi,c.aa.bv,c.aa.aj,c.io)) (by unfold cu;simp only [aB,e1,pi,az c.af.ce i pE,ax,hw,is,show ((0:Int) !=0)=aeQ from rfl,pp,ww,l0,g0,bz b1,aJ b2,aJ b3,gw,aJ b4,gh,sl,sc];rw [ahy,aM b5];rfl),ih (i+1) ds (by omega) (by omega) (by simp at RP;omega)];have same:((∀j,i<=j->j<aeK c.af.ce->iY c.ii.am (c.af.ce[j]!).2)/\aV c.ii.am c.ci c.aa.bv (c.af.ce.drop i) (d0::ds))↔((∀j,i+1<=j->j<aeK c.af.ce->iY c.ii.am (c.af.ce[j]!).2)/\aV c.ii.am c.ci c.aa.bv (c.af.ce.drop (i+1)) ds):=by
    rw [dr,all];constructor
    · rintro ⟨⟨_,h1⟩,h2⟩
      obtain ⟨d,vT,k1,k2,k3,k4⟩:=h2.1 is;injection k1 with k1 k5;subst k5;exact ⟨h1,k4⟩
    rintro ⟨h1,h2⟩
    exact ⟨⟨hb,h1⟩,fun _=>⟨d0,ds,rfl,b1,xE,h2⟩,fun h=>by rw [is] at h;cases h⟩
   simp only [same]
theorem aU.iff {c:aG} (fit:tq c):aU c↔bm c.ci/\dQ c.ii.am/\dR c.af/\dT c.aa/\aeK c.aa.aj=200/\aeK c.aa.bv=aeK c.io/\(∀i,i<aeK c.af.ce->iY c.ii.am (c.af.ce[i]!).2)/\aV c.ii.am c.ci c.aa.bv c.af.ce c.io:=
 ⟨fun h=>⟨h.jE,h.jT,h.oC,h.kO,h.Ei,h.hd,h.known,h.yX⟩,fun ⟨h1,h2,h3,h4,h5,h6,h7,h8⟩=>⟨h1,fit.iV,h2,h3,h4,h5,h6,h7,h8⟩⟩
theorem aU.fit {c:aG} (ok:aU c):tq c:=⟨ok.iV,ok.kO.fit,by have:=ok.hd;have:=ok.kO.bd;omega⟩
theorem I5 {c:aG} {n0 n1 n2 n3:Int}:
 aE dY (4,0,c.ci.1,c.ci.2,c.ii.am,c.af.ay,c.af.ce,c.aa.ae.au,c.aa.ae.be,c.aa.ae.bi,c.aa.bv,c.aa.aj,c.io,[n0,n1,n2,n3])=
  if n0=0/\n1=0/\n2=0/\n3=0 then aE dY (4,4,c.ci.1,c.ci.2,c.ii.am,c.af.ay,c.af.ce,c.aa.ae.au,c.aa.ae.be,c.aa.ae.bi,c.aa.bv,c.aa.aj,c.io,[n0,n1,n2,n3]) else aeL 8:=by
 have st: ∀(i:Nat) (n:Int),i<4->aK [n0,n1,n2,n3] (i:Int)=aeL n->aE dY (4,(i:Int),c.ci.1,c.ci.2,c.ii.am,c.af.ay,c.af.ce,c.aa.ae.au,c.aa.ae.be,c.aa.ae.bi,c.aa.bv,c.aa.aj,c.io,[n0,n1,n2,n3])=
  if n=0 then aE dY (4,((i+1:Nat):Int),c.ci.1,c.ci.2,c.ii.am,c.af.ay,c.af.ce,c.aa.ae.au,c.aa.ae.be,c.aa.ae.bi,c.aa.bv,c.aa.aj,c.io,[n0,n1,n2,n3]) else aeL 8:=by
  intro i n hi hg;have e1:aeR ((i:Int)<4)=aeM:=aM (by omega)
  by_cases h:n=0
  · rw [rc h]
    refine aW ?_;unfold dY;simp only [e1,pi,hg,ax,bz h,pp,ba (show i<1000000000 by omega)]
  rw [ut h]
  refine aI ?_;unfold dY;simp only [e1,pi,hg,ax,dK h]
 have s0:=st 0 n0 (by omega) rfl;have s1:=st 1 n1 (by omega) rfl;have s2:=st 2 n2 (by omega) rfl;have s3:=st 3 n3 (by omega) rfl;have c0:((0:Nat):Int)=0:=rfl;have c4:((3+1:Nat):Int)=4:=rfl;rw [c0] at s0;rw [c4] at s3;rw [s0]
 by_cases h0:n0=0
 · rw [rc h0,show ((0+1:Nat):Int)=((1:Nat):Int) from rfl,s1]
   by_cases h1:n1=0
   · rw [rc h1,show ((1+1:Nat):Int)=((2:Nat):Int) from rfl,s2]
     by_cases h2:n2=0
     · rw [rc h2,show ((2+1:Nat):Int)=((3:Nat):Int) from rfl,s3]
       by_cases h3:n3=0
       · rw [rc h3,rc ⟨h0,h1,h2,h3⟩]
       rw [ut h3,ut (fun h=>h3 h.2.2.2)]
     rw [ut h2,ut (fun h=>h2 h.2.2.1)]
   rw [ut h1,ut (fun h=>h1 h.2.1)]
 rw [ut h0,ut (fun h=>h0 h.1)]
theorem kB {c:aG} (fit:tq c):gf c=aeL (if aU c then 0 else 8):=by
 unfold gf;rw [cw fit.iV,qI,sD,gO _ fit.ag];simp only [ax];have h4:Int.ofNat [if bm c.ci then (0:Int) else 8,qH c.ii.am,if dR c.af then (0:Int) else 8,if dT c.aa then (0:Int) else 8].length=4:=rfl;rw [h4,I5];have z: ∀(p:Prop) [Decidable p],(if p then (0:Int) else 8)=0↔p:=fun p _=>by by_cases h:p<;>simp [h]
 simp only [z,o6];have f1:=aU.iff fit
 by_cases ok:bm c.ci/\dQ c.ii.am/\dR c.af/\dT c.aa
 case neg=>rw [ut ok,ut (c:=aU c) (fun h=>ok ⟨h.jE,h.jT,h.oC,h.kO⟩)]
 obtain ⟨jE,jT,oC,kO⟩:=ok;rw [rc ⟨jE,jT,oC,kO⟩]
 by_cases w2:(aeK c.aa.aj)=200
 case neg=>rw [ut (c:=aU c) (fun h=>w2 h.Ei)];refine aI ?_;unfold dY;simp only [aB,aJ (show¬(4:Int)<4 by omega),pp,dK (show¬((aeK c.aa.aj):Int)=200 by omega),pi]
 by_cases hd:(aeK c.aa.bv)=aeK c.io
 case neg=>rw [ut (c:=aU c) (fun h=>hd h.hd)];refine aI ?_;unfold dY;simp only [aB,aJ (show¬(4:Int)<4 by omega),pp,bz (show ((aeK c.aa.aj):Int)=200 by omega),dK (show¬((aeK c.aa.bv):Int)=((aeK c.io):Int) by omega),pi]
 have run:=I4 jE fit.iV jT oC kO w2 (aeK c.af.ce) 0 c.io (by omega) (by omega) fit.du;rw [aen] at run;have same:((∀j,0<=j->j<aeK c.af.ce->iY c.ii.am (c.af.ce[j]!).2)/\aV c.ii.am c.ci c.aa.bv c.af.ce c.io)↔aU c:=by
  rw [f1];constructor
  · rintro ⟨h1,h2⟩;exact ⟨jE,jT,oC,kO,w2,hd,fun i hi=>h1 i (by omega) hi,h2⟩
  rintro ⟨_,_,_,_,_,_,h1,h2⟩;exact ⟨fun j _ hj=>h1 j hj,h2⟩
 simp only [same] at run;refine aI ?_;unfold dY;simp only [aB,aJ (show¬(4:Int)<4 by omega),pp,bz (show ((aeK c.aa.aj):Int)=200 by omega),bz (show ((aeK c.aa.bv):Int)=((aeK c.io):Int) by omega)];exact run
theorem XM {a:aF} (ok:dT a) (h:Int×Int):qw a h=aeL (if rI a.ae h then (a.bv[(a.aj[h.1.toNat]!).toNat]!,0) else ((0,0,0,0,0),6)):=by
 unfold qw;rw [wO a ok.fit,rc ok,MC ok.so];simp only [ax,show ((0:Int) !=0)=aeQ from rfl,pp]
 by_cases lv:rI a.ae h
 · obtain ⟨i,hi,hw,hh⟩:=ok.live lv
   have:=lv.1;have:=lv.2.1;have:=ok.wl;rw [aM lv,rc lv,df (l:=a.aj) lv.1 (by omega),hw];simp only [ww,pp,ax,az a.bv i hi,AC]
 rw [aJ lv,ut lv];rfl
theorem I6 {c:aG} (iV:jw c.ci) (jT:dQ c.ii.am) (oC:dR c.af) (kO:dT c.aa) (w2:(aeK c.aa.aj)=200) (hdu:(aeK c.io)<=1000000)
 (kn: ∀i,i<aeK c.af.ce->iY c.ii.am (c.af.ce[i]!).2):
 ∀(d i k:Nat),aeK c.af.ce-i<=d->i<=aeK c.af.ce->k<=aeK c.io->
  aE cX ((k:Int),(i:Int),c.ci.1,c.ci.2,c.ii.am,c.af.ay,c.af.ce,c.aa.ae.au,c.aa.ae.be,c.aa.ae.bi,c.aa.bv,c.aa.aj,c.io)=
   aeL (if aV c.ii.am c.ci c.aa.bv (c.af.ce.drop i) (c.io.drop k) then 0 else 8):=by
 have hl:=oC.len;have wl:=kO.wl;have fin: ∀k:Nat,k<=aeK c.io->aE cX ((k:Int),((aeK c.af.ce):Int),c.ci.1,c.ci.2,c.ii.am,c.af.ay,c.af.ce,c.aa.ae.au,c.aa.ae.be,c.aa.ae.bi,c.aa.bv,c.aa.aj,c.io)=aeL (if aV c.ii.am c.ci c.aa.bv (c.af.ce.drop (aeK c.af.ce)) (c.io.drop k) then 0 else 8):=by
  intro k hk;rw [adR];refine aI ?_;unfold cX;have e1:aeR (((aeK c.af.ce):Int)<((aeK c.af.ce):Int))=aeQ:=aJ (by omega);simp only [aB,e1,pp];have:aV c.ii.am c.ci c.aa.bv [] (c.io.drop k)↔k=(aeK c.io):=by show c.io.drop k=[]↔_;rw [adT];omega
  by_cases h:k=aeK c.io
  · rw [rc (this.2 h),bz (by omega)];rfl
  rw [ut (fun x=>h (this.1 x)),dK (by omega)];rfl
 intro d
 induction d with
 |zero=>
  intro i k hd hi hk;have:i=(aeK c.af.ce):=by omega
  subst this;exact fin k hk
 |succ d ih=>
  intro i k hd hi hk
  by_cases he:i=aeK c.af.ce
  · subst he;exact fin k hk
  have pE:i<(aeK c.af.ce):=by omega
  have e1:aeR ((i:Int)<((aeK c.af.ce):Int))=aeM:=aM (by omega);have hw:=sF jT (x:=(c.af.ce[i]!).2) (t:=(c.ci.1,c.ci.2)) iV (kn i pE);have dr:=lZ pE;have sc:=ba (show i<1000000000 by omega);have sk:=ba (show k<1000000000 by omega)
  by_cases is:(bk c.ii.am (c.af.ce[i]!).2 c.ci).2=aeM
  case neg=>
   have is':(bk c.ii.am (c.af.ce[i]!).2 c.ci).2=aeQ:=by simpa using is
   rw [aW (y:=((k:Int),((i+1:Nat):Int),c.ci.1,c.ci.2,c.ii.am,c.af.ay,c.af.ce,c.aa.ae.au,c.aa.ae.be,c.aa.ae.bi,c.aa.bv,c.aa.aj,c.io)) (by unfold cX;simp only [aB,e1,pi,az c.af.ce i pE,ax,hw,sc,is',acl]),ih (i+1) k (by omega) (by omega) hk];have same:aV c.ii.am c.ci c.aa.bv (c.af.ce.drop i) (c.io.drop k)↔aV c.ii.am c.ci c.aa.bv (c.af.ce.drop (i+1)) (c.io.drop k):=by rw [dr];exact ⟨fun h=>h.2 is',fun h=>⟨fun h'=>absurd h' is,fun _=>h⟩⟩
   simp only [same]
  have stop:(¬aV c.ii.am c.ci c.aa.bv (c.af.ce.drop i) (c.io.drop k))->cX ((k:Int),(i:Int),c.ci.1,c.ci.2,c.ii.am,c.af.ay,c.af.ce,c.aa.ae.au,c.aa.ae.be,c.aa.ae.bi,c.aa.bv,c.aa.aj,c.io)=aeL (.done 8)->
   aE cX ((k:Int),(i:Int),c.ci.1,c.ci.2,c.ii.am,c.af.ay,c.af.ce,c.aa.ae.au,c.aa.ae.be,c.aa.ae.bi,c.aa.bv,c.aa.aj,c.io)=aeL (if aV c.ii.am c.ci c.aa.bv (c.af.ce.drop i) (c.io.drop k) then 0 else 8):=by
   intro h1 h2;rw [ut h1];exact aI h2
  by_cases Ol:k=aeK c.io
  · refine stop (fun h=>?_) ?_
    · rw [dr] at h
      obtain ⟨d,vT,h1,_⟩:=h.1 is;rw [Ol,adR] at h1;cases h1
    unfold cX
    simp only [aB,e1,pi,az c.af.ce i pE,ax,hw,is,ww,pp,aM (show ((aeK c.io):Int)<=(k:Int) by omega)]
  have HQ:k<(aeK c.io):=by omega
  have dk:=lZ HQ;have e2:aeR (((aeK c.io):Int)<=(k:Int))=aeQ:=aJ (by omega);have yX: ¬((c.io[k]!).1=(c.af.ce[i]!).1/\(((bk c.ii.am (c.af.ce[i]!).2 c.ci).1.1,(bk c.ii.am (c.af.ce[i]!).2 c.ci).1.2,(c.af.ce[i]!).1,(c.io[k]!).2):Ev)∈c.aa.bv)-> ¬aV c.ii.am c.ci c.aa.bv (c.af.ce.drop i) (c.io.drop k):=by intro hn h;rw [dr,dk] at h;obtain ⟨d,vT,h1,h2,h3,_⟩:=h.1 is;injection h1 with h1 _;subst h1;exact hn ⟨h2,h3⟩
  by_cases b1:(c.io[k]!).1=(c.af.ce[i]!).1
  case neg=>refine stop (yX (fun h=>b1 h.1)) ?_;unfold cX;simp only [aB,e1,pi,az c.af.ce i pE,ax,hw,is,ww,pp,e2,az c.io k HQ,dK b1]
  have fi:=XM kO (c.io[k]!).2;have ea:=Y3 kO w2 (bk c.ii.am (c.af.ce[i]!).2 c.ci).1 (c.af.ce[i]!).1 (c.io[k]!).2;have fi':qw (aF.mk (aQ.mk c.aa.ae.au c.aa.ae.be c.aa.ae.bi) c.aa.bv c.aa.aj) (c.io[k]!).2=_:=fi
  by_cases lv:rI c.aa.ae (c.io[k]!).2
  case neg=>
   rw [ut lv] at fi';refine stop (yX (fun h=>lv ?_)) ?_
   · obtain ⟨w,Rw,fW⟩:=aS.1 h.2
     have:=(kO.handle Rw).1
     rwa [fW] at this
   unfold cX
   simp only [aB,e1,pi,az c.af.ce i pE,ax,hw,is,ww,pp,e2,az c.io k HQ,bz b1,fi',show ((6:Int) !=0)=aeM from rfl]
  rw [rc lv] at fi';obtain ⟨w,hw1,RQ,hw3⟩:=kO.live lv;rw [RQ,AC] at fi';have q1:(0<=(c.io[k]!).2.1/\(c.io[k]!).2.1<200/\0<=c.aa.aj[(c.io[k]!).2.1.toNat]!):=⟨lv.1,by have:=lv.2.1;omega,by rw [RQ];omega⟩
  by_cases b2:(c.aa.bv[w]!).2.2.1=(c.af.ce[i]!).1
  case neg=>
   refine stop (yX (fun h=>b2 ?_)) ?_
   · have:=(ea.2 h.2).2.2.2
     rw [RQ,AC] at this;rw [this]
   unfold cX
   simp only [aB,e1,pi,az c.af.ce i pE,ax,hw,is,ww,pp,e2,az c.io k HQ,bz b1,fi',show ((0:Int) !=0)=aeQ from rfl,dK b2]
  have teq:((c.aa.bv[w]!).1==(bk c.ii.am (c.af.ce[i]!).2 c.ci).1.1&&(c.aa.bv[w]!).2.1==(bk c.ii.am (c.af.ce[i]!).2 c.ci).1.2)=aeR (((c.aa.bv[w]!).1,(c.aa.bv[w]!).2.1)=(bk c.ii.am (c.af.ce[i]!).2 c.ci).1):=by
   rw [ae7,decide_eq_true_iff];simp only [aex,beq_iff_eq];constructor
   · rintro ⟨h1,h2⟩;exact PP h1 h2
   intro h;rw [<- h];exact ⟨rfl,rfl⟩
  by_cases b3:((c.aa.bv[w]!).1,(c.aa.bv[w]!).2.1)=(bk c.ii.am (c.af.ce[i]!).2 c.ci).1
  case neg=>
   refine stop (yX (fun h=>b3 ?_)) ?_
   · have:=(ea.2 h.2).2.2.2
     rw [RQ,AC] at this;rw [this]
   unfold cX
   simp only [aB,e1,pi,az c.af.ce i pE,ax,hw,is,ww,pp,e2,az c.io k HQ,bz b1,fi',show ((0:Int) !=0)=aeQ from rfl,bz b2];rw [teq,aJ b3];rfl
  have xE:=ea.1 ⟨q1.1,q1.2.1,q1.2.2,by rw [RQ,AC];have t1:=congrArg aeD b3;have t2:=congrArg aeE b3;exact PP t1 (PP t2 (PP b2 hw3))⟩;rw [aW (y:=(((k+1:Nat):Int),((i+1:Nat):Int),c.ci.1,c.ci.2,c.ii.am,c.af.ay,c.af.ce,c.aa.ae.au,c.aa.ae.be,c.aa.ae.bi,c.aa.bv,c.aa.aj,c.io)) (by unfold cX;simp only [aB,e1,pi,az c.af.ce i pE,ax,hw,is,ww,pp,e2,az c.io k HQ,bz b1,fi',show ((0:Int) !=0)=aeQ from rfl,bz b2,sc,sk];rw [teq,aM b3];rfl),ih (i+1) (k+1) (by omega) (by omega) (by omega)];have same:aV c.ii.am c.ci c.aa.bv (c.af.ce.drop i) (c.io.drop k)↔aV c.ii.am c.ci c.aa.bv (c.af.ce.drop (i+1)) (c.io.drop (k+1)):=by
   rw [dr,dk];constructor
   · intro h2
     obtain ⟨d,vT,k1,k2,k3,k4⟩:=h2.1 is;injection k1 with k1 k5;subst k5;exact k4
   intro h2
   exact ⟨fun _=>⟨_,_,rfl,b1,xE,h2⟩,fun h=>by rw [is] at h;cases h⟩
  simp only [same]
theorem Ej {c:aG} (fit:tq c):rB c=aeL (if aU c then 0 else 8):=by
 unfold rB;rw [qF fit.iV,DT,wR,wO _ fit.ag];simp only [ax]
 by_cases jE:bm c.ci
 case neg=>rw [ut jE,ut (c:=aU c) (fun h=>jE h.jE)];rfl
 rw [rc jE]
 by_cases jT:dQ c.ii.am
 case neg=>rw [dK (fun h=>jT (o6.1 h)),ut (c:=aU c) (fun h=>jT h.jT)];rfl
 rw [bz (o6.2 jT)]
 by_cases oC:dR c.af
 case neg=>rw [ut oC,ut (c:=aU c) (fun h=>oC h.oC)];rfl
 rw [rc oC];have kn:=QY c.af jT oC.len;simp only [show ((0:Int) !=0)=aeQ from rfl,pp,kn,ax]
 by_cases known: ∀i,i<aeK c.af.ce->iY c.ii.am (c.af.ce[i]!).2
 case neg=>rw [aJ known,ut (c:=aU c) (fun h=>known h.known)];rfl
 rw [aM known]
 by_cases kO:dT c.aa
 case neg=>rw [ut kO,ut (c:=aU c) (fun h=>kO h.kO)];rfl
 rw [rc kO];simp only [aB,show ((0:Int) !=0)=aeQ from rfl,pp,ww]
 by_cases w2:(aeK c.aa.aj)=200
 case neg=>rw [dK (by omega),ut (c:=aU c) (fun h=>w2 h.Ei)];rfl
 rw [bz (by omega)]
 by_cases hd:(aeK c.aa.bv)=aeK c.io
 case neg=>rw [dK (by omega),ut (c:=aU c) (fun h=>hd h.hd)];rfl
 rw [bz (by omega)];have run:=I6 fit.iV jT oC kO w2 fit.du known (aeK c.af.ce) 0 0 (by omega) (by omega) (by omega);rw [aen,aen] at run;have same:aV c.ii.am c.ci c.aa.bv c.af.ce c.io↔aU c:=by rw [aU.iff fit];exact ⟨fun h=>⟨jE,jT,oC,kO,w2,hd,known,h⟩,fun h=>h.2.2.2.2.2.2.2⟩
 simp only [same] at run;simp only [pp];exact run
section
variable {l : List Pt} {t : Int × Int}
theorem aV.gr {H:List Ev} {x:ng} {cs ds:List ng} (h:(bk l x.2 t).2=aeM):aV l t H (x::cs) ds↔ ∃d vT,ds=d::vT/\d.1=x.1/\(((bk l x.2 t).1.1,(bk l x.2 t).1.2,x.1,d.2):Ev)∈H/\aV l t H cs vT:=
 ⟨fun k=>k.1 h,fun k=>⟨fun _=>k,fun k'=>(by rw [h] at k';cases k')⟩⟩
theorem aV.fu {H:List Ev} {x:ng} {cs ds:List ng} (h:(bk l x.2 t).2=aeQ):aV l t H (x::cs) ds↔aV l t H cs ds:=
 ⟨fun k=>k.2 h,fun k=>⟨fun k'=>(by rw [h] at k';cases k'),fun _=>k⟩⟩
theorem aV.mono {H H':List Ev}: ∀{cs ds:List ng},(∀x∈cs,∀e:Ev,e.num=x.1->e∈H->e∈H')->aV l t H cs ds->aV l t H' cs ds
 | [],_,_,h=>h
 |x::cs,ds,hm,h=>by
  have AM: ∀y∈cs,∀e:Ev,e.num=y.1->e∈H->e∈H':=fun y hy=>hm y (by simp [hy])
  cases hx:(bk l x.2 t).2 with
  |true=>rw [aV.gr hx] at h ⊢;obtain ⟨d,vT,h1,h2,h3,h4⟩:=h;exact ⟨d,vT,h1,h2,hm x (by simp) _ rfl h3,aV.mono AM h4⟩
  |false=>rw [aV.fu hx] at h ⊢;exact aV.mono AM h
theorem aV.io {H:List Ev}: ∀{cs ds:List ng},aV l t H cs ds-> ∀d∈ds,∃x∈cs,d.1=x.1/\(bk l x.2 t).2=aeM/\(((bk l x.2 t).1.1,(bk l x.2 t).1.2,x.1,d.2):Ev)∈H
 | [],ds,h,d,hd=>by have:ds=[]:=h;subst this;cases hd
 |x::cs,ds,h,d,hd=>by
  cases hx:(bk l x.2 t).2 with
  |true=>
   rw [aV.gr hx] at h;obtain ⟨e,vT,h1,h2,h3,h4⟩:=h;subst h1;rcases aeq.1 hd with rfl|hd
   · exact ⟨x,by simp,h2,hx,h3⟩
   obtain ⟨y,hy,k⟩:=aV.io h4 d hd
   exact ⟨y,by simp [hy],k⟩
  |false=>rw [aV.fu hx] at h;obtain ⟨y,hy,k⟩:=aV.io h d hd;exact ⟨y,by simp [hy],k⟩
theorem aV.has {H:List Ev}: ∀{cs ds:List ng},aV l t H cs ds-> ∀x∈cs,(bk l x.2 t).2=aeM-> ∃d∈ds,d.1=x.1/\(((bk l x.2 t).1.1,(bk l x.2 t).1.2,x.1,d.2):Ev)∈H
 | [],_,_,x,hx,_=>by cases hx
 |y::cs,ds,h,x,hx,hf=>by
  cases hy:(bk l y.2 t).2 with
  |true=>
   rw [aV.gr hy] at h;obtain ⟨e,vT,h1,h2,h3,h4⟩:=h;subst h1;rcases aeq.1 hx with rfl|hx
   · exact ⟨e,by simp,h2,h3⟩
   obtain ⟨d,hd,k⟩:=aV.has h4 x hx hf
   exact ⟨d,by simp [hd],k⟩
  |false=>
   rw [aV.fu hy] at h;rcases aeq.1 hx with rfl|hx
   · rw [hf] at hy;cases hy
   exact aV.has h x hx hf
def Up (cs:List ng):Prop:=cs.Pairwise fun x y=>x.1<y.1
theorem p6 {cs:List ng}:Up cs↔ ∀i j,i<j->j<aeK cs->(cs[i]!).1<(cs[j]!).1:=by
 unfold Up;rw [List.pairwise_iff_getElem];constructor
 · intro h i j mf hj
   rw [getElem!_pos cs i (by omega),getElem!_pos cs j hj];exact h i j (by omega) hj mf
 intro h i j hi hj mf
 have:=h i j mf hj
 rwa [getElem!_pos cs i hi,getElem!_pos cs j hj] at this
theorem aV.up {H:List Ev}: ∀{cs ds:List ng},aV l t H cs ds->Up cs->Up ds
 | [],ds,h,_=>by have:ds=[]:=h;subst this;exact List.Pairwise.nil
 |x::cs,ds,h,hu=>by
  have An:=aet.1 hu;cases hx:(bk l x.2 t).2 with
  |true=>rw [aV.gr hx] at h;obtain ⟨e,vT,h1,h2,h3,h4⟩:=h;subst h1;refine aet.2 ⟨fun d hd=>?_,aV.up h4 An.2⟩;obtain ⟨y,hy,k,_⟩:=aV.io h4 d hd;have:=An.1 y hy;omega
  |false=>rw [aV.fu hx] at h;exact aV.up h An.2
theorem aV.snoc {H:List Ev}: ∀{cs ds:List ng} {x:ng},aV l t H cs ds->((bk l x.2 t).2=aeQ->aV l t H (cs++[x]) ds)/\
 (∀d:ng,(bk l x.2 t).2=aeM->d.1=x.1->(((bk l x.2 t).1.1,(bk l x.2 t).1.2,x.1,d.2):Ev)∈H->aV l t H (cs++[x]) (ds++[d]))
 | [],ds,x,h=>by have:ds=[]:=h;subst this;refine ⟨fun hx=>(aV.fu hx).2 rfl,fun d hx h1 h2=>(aV.gr hx).2 ⟨d,[],rfl,h1,h2,rfl⟩⟩
 |y::cs,ds,x,h=>by
  cases hy:(bk l y.2 t).2 with
  |true=>rw [aV.gr hy] at h;obtain ⟨e,vT,h1,h2,h3,h4⟩:=h;subst h1;have ih:=aV.snoc (x:=x) h4;refine ⟨fun hx=>(aV.gr hy).2 ⟨e,vT,rfl,h2,h3,ih.1 hx⟩,fun d hx k1 k2=>(aV.gr hy).2 ⟨e,vT++[d],rfl,h2,h3,ih.2 d hx k1 k2⟩⟩
  |false=>rw [aV.fu hy] at h;have ih:=aV.snoc (x:=x) h;exact ⟨fun hx=>(aV.fu hy).2 (ih.1 hx),fun d hx k1 k2=>(aV.fu hy).2 (ih.2 d hx k1 k2)⟩
theorem aV.erase {H:List Ev}: ∀{cs ds:List ng} {i:Nat},aV l t H cs ds->i<aeK cs->((bk l (cs[i]!).2 t).2=aeQ->aV l t H (cs.eraseIdx i) ds)/\
 ((bk l (cs[i]!).2 t).2=aeM-> ∃k,k<aeK ds/\(ds[k]!).1=(cs[i]!).1/\(((bk l (cs[i]!).2 t).1.1,(bk l (cs[i]!).2 t).1.2,(cs[i]!).1,(ds[k]!).2):Ev)∈H/\aV l t H (cs.eraseIdx i) (ds.eraseIdx k))
 | [],_,i,_,hi=>by cases hi
 |y::cs,ds,0,h,_=>by show ((bk l y.2 t).2=aeQ->aV l t H cs ds)/\((bk l y.2 t).2=aeM-> ∃k,k<aeK ds/\(ds[k]!).1=y.1/\(((bk l y.2 t).1.1,(bk l y.2 t).1.2,y.1,(ds[k]!).2):Ev)∈H/\aV l t H cs (ds.eraseIdx k));refine ⟨fun hy=>(aV.fu hy).1 h,fun hy=>?_⟩;obtain ⟨e,vT,h1,h2,h3,h4⟩:=(aV.gr hy).1 h;subst h1;exact ⟨0,by simp,h2,h3,h4⟩
 |y::cs,ds,i+1,h,hi=>by
  have pE:i<(aeK cs):=by simpa using hi
  show ((bk l (cs[i]!).2 t).2=aeQ->aV l t H (y::cs.eraseIdx i) ds)/\((bk l (cs[i]!).2 t).2=aeM-> ∃k,k<aeK ds/\(ds[k]!).1=(cs[i]!).1/\(((bk l (cs[i]!).2 t).1.1,(bk l (cs[i]!).2 t).1.2,(cs[i]!).1,(ds[k]!).2):Ev)∈H/\aV l t H (y::cs.eraseIdx i) (ds.eraseIdx k));cases hy:(bk l y.2 t).2 with
  |true=>obtain ⟨e,vT,h1,h2,h3,h4⟩:=(aV.gr hy).1 h;subst h1;have ih:=aV.erase (i:=i) h4 pE;refine ⟨fun hx=>(aV.gr hy).2 ⟨e,vT,rfl,h2,h3,ih.1 hx⟩,fun hx=>?_⟩;obtain ⟨k,k1,k2,k3,k4⟩:=ih.2 hx;exact ⟨k+1,by simp;omega,k2,k3,(aV.gr hy).2 ⟨e,vT.eraseIdx k,rfl,h2,h3,k4⟩⟩
  |false=>have h:=(aV.fu hy).1 h;have ih:=aV.erase (i:=i) h pE;refine ⟨fun hx=>(aV.fu hy).2 (ih.1 hx),fun hx=>?_⟩;obtain ⟨k,k1,k2,k3,k4⟩:=ih.2 hx;exact ⟨k,k1,k2,k3,(aV.fu hy).2 k4⟩
end
theorem BM {H:List Ev} {ns:List Int} (hd:ns.Nodup) (hl:(aeK H)<=aeK ns) (he: ∀n∈ns,∃e∈H,Ev.num e=n): ∀e∈H,Ev.num e∈ns:=by
 have pos: ∀n,n∈ns-> ∃w,w<aeK H/\Ev.num H[w]! =n:=fun n hn=>by obtain ⟨e,he,h2⟩:=he n hn;obtain ⟨w,hw,rfl⟩:=aS.1 he;exact ⟨w,hw,h2⟩
 let f:Int->Nat:=fun n=>if h: ∃w,w<aeK H/\Ev.num H[w]! =n then h.choose else 0
 have hf: ∀n∈ns,f n<aeK H/\Ev.num H[f n]! =n:=fun n hn=>by have h:=pos n hn;show (if h: ∃w,w<aeK H/\Ev.num H[w]! =n then h.choose else 0)<_/\Ev.num H[(if h: ∃w,w<aeK H/\Ev.num H[w]! =n then h.choose else 0)]! =n;rw [dif_pos h];exact h.choose_spec
 have full:=BH (n:=aeK H) (l:=ns.map f) (xy hd fun x hx y hy h=>by
  have h1:=(hf x hx).2;have h2:=(hf y hy).2;rw [h] at h1;omega) (fun x hx=>by
  obtain ⟨n,hn,rfl⟩:=UV.1 hx;exact (hf n hn).1) (by rw [aeA];exact hl)
 intro e hm;obtain ⟨w,hw,rfl⟩:=aS.1 hm;obtain ⟨n,hn,h⟩:=UV.1 (full w hw);rw [<- h,(hf n hn).2];exact hn
theorem I7 {cs:List ng} (h:Up cs):(cs.map fun x=>x.1).Nodup:=by
 refine xy ?_ ?_
 · unfold Up at h
   exact h.imp fun M7 he=>by rw [he] at M7;omega
 intro x hx y hy he
 obtain ⟨i,hi,rfl⟩:=aS.1 hx;obtain ⟨j,hj,rfl⟩:=aS.1 hy;rcases adZ i j with h1|h1|h1
 · have:=p6.1 h i j h1 hj;omega
 · rw [h1]
 have:=p6.1 h j i h1 hi;omega
theorem aU.nX {c:aG} (ok:aU c):Up c.af.ce:=p6.2 ok.oC.up
theorem aU.Ek {c:aG} (ok:aU c):Up c.io:=ok.yX.up ok.nX
theorem aU.xI {c:aG} (ok:aU c): ∀e∈c.aa.bv,∃d∈c.io,d.1=Ev.num e:=by have:=BM (H:=c.aa.bv) (I7 ok.Ek) (by rw [aeA,ok.hd];exact Do _) (fun n hn=>by obtain ⟨d,hd,rfl⟩:=UV.1 hn;obtain ⟨x,hx,h1,h2,h3⟩:=ok.yX.io d hd;exact ⟨_,h3,h1.symm⟩);intro e he;obtain ⟨d,hd,h⟩:=UV.1 (this e he);exact ⟨d,hd,h⟩
end Go.Proofs.YtclphlgnjkajbaaGreat
