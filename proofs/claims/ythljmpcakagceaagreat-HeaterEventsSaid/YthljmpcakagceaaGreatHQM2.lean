/- Plain laws (2). -/
import Derived.Test.YthljmpcakagceaaGreatHQM1
open Classical renaming not_not->v6,not_forall->If,not_imp->M2
open List renaming length_set->ww,length_take->IR,take_of_length_le->NE,take_append_of_le_length->PP,mem_map->aa2,append_assoc->aa9,drop_length->aaj,drop_eq_nil_iff->aak,length_append->aal,set_eq_of_length_le->aap,length_drop->aaq,drop_eq_nil_of_le->aat,drop_zero->aaw,filter_eq_self->aay,mem_cons->aaE,getElem?_take->aaF,filter_append->aaS,pairwise_cons->aaV,getElem?_set->aaX,length_cons->ab0,isEmpty_iff->ab1,length_nil->aba,append_nil->abe,length_map->abg,replicate->abj,take_take->abo,set_comm->abr,length->abI
open Bool renaming not_true->AC,not_false->aa6,eq_iff_iff->aau,and_eq_true->ab5,and_self->abt,true->abQ,false->abW
open Int renaming toNat_natCast->Do,lt_irrefl->aaA
open Nat renaming le_refl->EQ,ble_eq_true_of_le->aai,lt_trichotomy->aam,sub_self->aas,eq_of_beq_eq_true->aav,le_trans->abx,beq->abz,min_self->abE
open Prod renaming ext->UV,fst->abp,snd->abq
open Iff renaming rfl->aar
open Option renaming some->abK
open Decidable renaming decide->abY
namespace Go.Proofs.YthljmpcakagceaaGreat
open Go.Vm Classical
theorem IG (a:aJ) (fit:yd a) (so:ef a.ae) (wl:(abI a.aj)=abI a.ae.ar):
 aB kx (a.aj,((abI a.aj):Int),0,a.ae.ar,a.ae.be,a.ae.bi,a.bv,a.aj)=abK (if (∀i,i<abI a.ae.ar->FL a i)/\(∀k,k<abI a.bv->Gw a.bv k) then 0 else 8):=by
 have hu:=so.ul;have hn:=so.n2;have hh:=fit.hp;have FC:=IF a.bv a.ae.ar a.ae.bi a.aj a.ae.be fit.hp fit.MG;have key:=cP (body:=kx) (fun i=>(a.aj,((abI a.aj):Int),(i:Int),a.ae.ar,a.ae.be,a.ae.bi,a.bv,a.aj)) (abI a.aj) (fun i=> ¬FL a i) (r:=8) (e:=if (∀k,k<abI a.bv->Gw a.bv k) then 0 else 8) (fun i hi=>by
  have e1:abY ((i:Int)<((abI a.aj):Int))=abQ:=aH (by omega);unfold kx;simp only [ay,e1,lw,aq a.aj i hi,aq a.ae.be i (by omega),aq a.ae.ar i (by omega),ao,aV (show i<1000000000 by omega)];unfold FL;generalize a.aj[i]! =w at*;cases hb:a.ae.be[i]! with
  |false=>
   simp only [aa6,lw]
   by_cases hw:w= -1
   · rw [bV hw]
     exact ⟨fun h=>absurd ⟨fun h=>(by cases h),fun _=>hw⟩ h,fun _=>rfl⟩
   rw [dN hw]
   exact ⟨fun _=>rfl,fun h=>absurd ((v6.1 h).2 trivial) hw⟩
  |true=>
   simp only [AC,pp]
   by_cases b1:w<0
   · rw [aH b1]
     exact ⟨fun _=>rfl,fun h=>absurd ((v6.1 h).1 trivial).1 (by omega)⟩
   by_cases b2:((abI a.bv):Int)<=w
   · rw [aD b1,aH b2]
     exact ⟨fun _=>rfl,fun h=>absurd ((v6.1 h).1 trivial).2.1 (by omega)⟩
   rw [aD b1,aD b2];simp only [pp,c6 (l:=a.bv) (i:=w) (by omega) (by omega),ao]
   by_cases b3:(a.bv[w.toNat]!).2.2.2.1=i
   · by_cases b4:(a.bv[w.toNat]!).2.2.2.2=a.ae.ar[i]!
     · rw [ed b3,ed b4]
       exact ⟨fun h=>absurd ⟨fun _=>⟨by omega,by omega,b3,b4⟩,fun h=>(by cases h)⟩ h,fun _=>rfl⟩
     rw [ed b3,eD b4]
     exact ⟨fun _=>rfl,fun h=>absurd ((v6.1 h).1 trivial).2.2.2 b4⟩
   rw [eD b3]
   exact ⟨fun _=>rfl,fun h=>absurd ((v6.1 h).1 trivial).2.2.1 b3⟩) (by
  unfold kx;have:abY (((abI a.aj):Int)<((abI a.aj):Int))=abW:=aD (by omega);simp only [ay,this,pp]
  by_cases hx: ∀k,k<abI a.bv->Gw a.bv k
  · rw [rc hx];exact FC.1 hx
  rw [ut hx];exact FC.2 hx)
 by_cases hw: ∀i,i<abI a.ae.ar->FL a i
 · refine (key.2 fun i hi=>v6.2 (hw i (by omega))).trans ?_
   by_cases hx: ∀k,k<abI a.bv->Gw a.bv k
   · rw [rc hx,rc ⟨hw,hx⟩]
   rw [ut hx,ut (fun h=>hx h.2)]
 rw [ut (fun h=>hw h.1)]
 obtain ⟨i,h⟩:=If.1 hw;obtain ⟨hi,hx⟩:=M2.1 h;exact key.1 ⟨i,by omega,hx⟩
theorem iO (a:aJ) (fit:yd a):iU a=abK (if dW a then 0 else 8):=by
 have hh:=fit.hp;unfold iU;rw [tU _ fit.fr];simp only [ay]
 by_cases so:ef a.ae
 case neg=>rw [ut so,ut (fun h=>so h.so)];rfl
 have hu:=so.ul;have hn:=so.n2;have hf:=so.fl;rw [rc so];simp only [ao,show ((0:Int) !=0)=abW from rfl,pp]
 by_cases wl:(abI a.aj)=abI a.ae.ar
 case neg=>rw [dN (by omega),ut (fun h=>wl h.wl)];rfl
 rw [bV (by omega)];have e:ai .i64 (((abI a.ae.be):Int) - ((abI a.ae.bi):Int))=((abI a.ae.ar-(abI a.ae.bi):Nat):Int):=by rw [wi];omega
 rw [e]
 by_cases hl:(abI a.bv)+abI a.ae.bi=abI a.ae.ar
 case neg=>rw [dN (by omega),ut (fun h=>hl h.hl)];rfl
 rw [bV (by omega)];simp only [pp];rw [IG a fit so wl]
 by_cases ok:dW a
 · rw [rc ok,rc ok.to]
 rw [ut ok,ut]
 intro h;exact ok (dW.of fit so wl hl h.1 h.2)
theorem Tg {x y:Ev} (hx:iJ (x.1,x.2.1)) (hy:iJ (y.1,y.2.1)):dM x y=abK (abY (less x y)):=by
 unfold dM less;rw [wc hx hy];simp only [ao];generalize dC (x.1,x.2.1) (y.1,y.2.1)=c
 by_cases h1:c<0
 · simp [h1]
 by_cases h2:c=0
 · subst h2;simp
 simp only [h1,eD h2,h2,decide_false,pp,false_or,false_and]
theorem Oi {s:aU} (ok:ef s) (h:Int×Int):rW s h=abK (abY (th s h)):=by
 have hu:=ok.ul;unfold rW th;simp only [ay]
 by_cases a1:0<=h.1
 · by_cases a2:h.1<abI s.ar
   · simp only [a1,a2,decide_true,lw,c6 (l:=s.be) a1 (by omega),c6 (l:=s.ar) a1 a2,ao,true_and]
     generalize s.ar[h.1.toNat]! =u;cases s.be[h.1.toNat]!<;>simp [Ob]
   simp [a1,a2]
 simp [a1]
theorem P6 (a:aJ) (so:ef a.ae):qZ a=abK (abY (abI a.aj=abI a.ae.ar/\abI a.bv+abI a.ae.bi=abI a.ae.ar/\ ∀i,i<abI a.ae.ar->FL a i)):=by
 have hu:=so.ul;have hn:=so.n2;have hf:=so.fl;unfold qZ;simp only [ay]
 by_cases wl:(abI a.aj)=abI a.ae.ar
 case neg=>rw [dN (by omega),aD (fun h=>wl h.1)];rfl
 rw [bV (by omega)];have e:ai .i64 (((abI a.ae.ar):Int) - ((abI a.ae.bi):Int))=((abI a.ae.ar-(abI a.ae.bi):Nat):Int):=by rw [wi];omega
 rw [e]
 by_cases hl:(abI a.bv)+abI a.ae.bi=abI a.ae.ar
 case neg=>rw [dN (by omega),aD (fun h=>hl h.2.1)];rfl
 rw [bV (by omega)];simp only [pp];have key:=cP (body:=mE) (fun i=>(((abI a.ae.ar):Int),(i:Int),a.ae.ar,a.ae.be,a.ae.bi,a.bv,a.aj)) (abI a.ae.ar) (fun i=> ¬FL a i) (r:=abW) (e:=abQ) (fun i hi=>by
  have e1:abY ((i:Int)<((abI a.ae.ar):Int))=abQ:=aH (by omega);unfold mE;simp only [ay,e1,lw,aq a.aj i (by omega),aq a.ae.be i (by omega),ao,aV (show i<1000000000 by omega)];unfold FL;generalize a.aj[i]! =w at*;cases hb:a.ae.be[i]! with
  |false=>
   simp only [aa6,lw]
   by_cases hw:w= -1
   · rw [bV hw]
     exact ⟨fun h=>absurd ⟨fun h=>(by cases h),fun _=>hw⟩ h,fun _=>rfl⟩
   rw [dN hw]
   exact ⟨fun _=>rfl,fun h=>absurd ((v6.1 h).2 trivial) hw⟩
  |true=>
   simp only [AC,pp]
   by_cases b1:w<0
   · rw [aH b1]
     exact ⟨fun _=>rfl,fun h=>absurd ((v6.1 h).1 trivial).1 (by omega)⟩
   by_cases b2:((abI a.bv):Int)<=w
   · rw [aD b1,aH b2]
     exact ⟨fun _=>rfl,fun h=>absurd ((v6.1 h).1 trivial).2.1 (by omega)⟩
   rw [aD b1,aD b2];simp only [pp,c6 (l:=a.bv) (i:=w) (by omega) (by omega),ao]
   by_cases b3:(a.bv[w.toNat]!).2.2.2.1=i
   · rw [bV b3]
     simp only [pp];rw [Oi (s:=⟨a.ae.ar,a.ae.be,a.ae.bi⟩) so];have lv:th ⟨a.ae.ar,a.ae.be,a.ae.bi⟩ (a.bv[w.toNat]!).2.2.2↔(a.bv[w.toNat]!).2.2.2.2=a.ae.ar[i]!:=by
      unfold th;dsimp only;rw [b3];constructor
      · intro h;exact h.2.2.2.symm
      intro h;exact ⟨by omega,by omega,by rw [Do];exact hb,by rw [Do];exact h.symm⟩
     simp only [ao,lv]
     by_cases b4:(a.bv[w.toNat]!).2.2.2.2=a.ae.ar[i]!
     · rw [aH b4]
       exact ⟨fun h=>absurd ⟨fun _=>⟨by omega,by omega,b3,b4⟩,fun h=>(by cases h)⟩ h,fun _=>rfl⟩
     rw [aD b4]
     exact ⟨fun _=>rfl,fun h=>absurd ((v6.1 h).1 trivial).2.2.2 b4⟩
   rw [dN b3]
   exact ⟨fun _=>rfl,fun h=>absurd ((v6.1 h).1 trivial).2.2.1 b3⟩) (by
  unfold mE;have:abY (((abI a.ae.ar):Int)<((abI a.ae.ar):Int))=abW:=aD (by omega);simp only [this,pp])
 by_cases hw: ∀i,i<abI a.ae.ar->FL a i
 · rw [aH ⟨wl,hl,hw⟩]
   exact key.2 fun i hi=>v6.2 (hw i hi)
 rw [aD (fun h=>hw h.2.2)]
 obtain ⟨i,h⟩:=If.1 hw;obtain ⟨hi,hx⟩:=M2.1 h;exact key.1 ⟨i,hi,hx⟩
theorem KC (H:List Ev) (u fr W:List Int) (us:List Bool) (k:Nat) (hk:k<abI H) (hl:(abI H)<=1000000) (x:Ev):
 ((∃j,j<k/\(H[j]!).2.2.1=x.2.2.1)->aB jD ((k:Int),0,u,us,fr,H,W,x)=abK (.done 8))/\
 ((∀j,j<k-> ¬(H[j]!).2.2.1=x.2.2.1)->aB jD ((k:Int),0,u,us,fr,H,W,x)=abK (.next (((k+1:Nat):Int),u,us,fr,H,W))):=by
 refine cP (body:=jD) (fun j=>((k:Int),(j:Int),u,us,fr,H,W,x)) k (fun j=>(H[j]!).2.2.1=x.2.2.1) (r:= .done 8) (e:= .next (((k+1:Nat):Int),u,us,fr,H,W)) (fun j hj=>?_) ?_
 · have e1:abY ((j:Int)<(k:Int))=abQ:=aH (by omega)
   unfold jD;simp only [e1,lw,aq H j (by omega),ao,aV (show j<1000000000 by omega)];constructor
   · intro h;rw [ed h];rfl
   intro h;rw [eD h];rfl
 unfold jD
 have:abY ((k:Int)<(k:Int))=abW:=aD (by omega);simp only [this,pp,aV (show k<1000000000 by omega)]
theorem KD (H:List Ev) (u fr W:List Int) (us:List Bool) (hl:(abI H)<=1000000) (lF: ∀w,w<abI H->iJ ((H[w]!).1,(H[w]!).2.1)):
 aB jE (1,u,us,fr,H,W)=abK (.done (if∀k,0<k->k<abI H-> ¬less H[k]! H[(k-1) / 2]! then 0 else 8)):=by
 by_cases h0:(abI H)=0
 · rw [rc (fun k _ hk=>by omega)]
   refine aC ?_;unfold jE;have:abY ((1:Int)<((abI H):Int))=abW:=aD (by omega);simp only [ay,this,pp]
 have key:=cP (body:=jE) (fun i=>(((i+1:Nat):Int),u,us,fr,H,W)) (abI H-1) (fun i=>less H[i+1]! H[i / 2]!) (r:= .done 8) (e:= .done 0) (fun i hi=>by
  have e1:abY (((i+1:Nat):Int)<((abI H):Int))=abQ:=aH (by omega);unfold jE;simp only [ay,e1,lw,qB (show i<1000000000 by omega),aq H (i+1) (by omega),aq H (i / 2) (by omega),ao,Tg (lF (i+1) (by omega)) (lF (i / 2) (by omega)),aV (show i+1<1000000000 by omega)];constructor
  · intro h;rw [aH h];rfl
  · intro h;rw [aD h];rfl) (by
  unfold jE;have:abY (((abI H-1+1:Nat):Int)<((abI H):Int))=abW:=aD (by omega);simp only [ay,this,pp])
 by_cases ho: ∀k,0<k->k<abI H-> ¬less H[k]! H[(k-1) / 2]!
 · rw [rc ho]
   refine key.2 fun i hi hc=>ho (i+1) (by omega) (by omega) ?_
   rwa [show (i+1-1) / 2=i / 2 by omega]
 rw [ut ho]
 obtain ⟨k,h⟩:=If.1 ho;obtain ⟨k0,h⟩:=M2.1 h;obtain ⟨hk,hx⟩:=M2.1 h;refine key.1 ⟨k-1,by omega,?_⟩;rw [show k-1+1=k by omega];exact v6.1 hx
def IH (H:List Ev) (k:Nat):Prop:=aW ((H[k]!).1,(H[k]!).2.1)/\0<=(H[k]!).2.2.1/\(H[k]!).2.2.1<=1000000/\(∀j,j<k-> ¬(H[j]!).2.2.1=(H[k]!).2.2.1)
theorem ye (a:aJ) (fit:yd a):qc a=abK (if dW a then 0 else 8):=by
 have hh:=fit.hp;unfold qc;rw [FK _ fit.fr]
 by_cases so:ef a.ae
 case neg=>rw [ut so,ut (fun h=>so h.so)];rfl
 rw [rc so];simp only [ao,show ((0:Int) !=0)=abW from rfl,pp,P6 a so]
 by_cases pl:(abI a.aj)=abI a.ae.ar/\abI a.bv+abI a.ae.bi=abI a.ae.ar/\ ∀i,i<abI a.ae.ar->FL a i
 case neg=>rw [aD pl,ut (fun h=>pl ⟨h.wl,h.hl,h.to.1⟩)];rfl
 rw [aH pl];obtain ⟨wl,hl,hw⟩:=pl;simp only [AC,pp];have key:=cP (body:=oe) (fun k=>((k:Int),a.ae.ar,a.ae.be,a.ae.bi,a.bv,a.aj)) (abI a.bv) (fun k=> ¬IH a.bv k) (r:=8) (e:=if∀k,0<k->k<abI a.bv-> ¬less a.bv[k]! a.bv[(k-1) / 2]! then 0 else 8) (fun k hk=>by
  have e1:abY ((k:Int)<((abI a.bv):Int))=abQ:=aH (by omega);have l1:=KC a.bv a.ae.ar a.ae.bi a.aj a.ae.be k hk hh a.bv[k]!;unfold oe;simp only [ay,e1,lw,aq a.bv k hk,ao,lC (fit.MG k hk)];unfold IH
  by_cases b1:aW ((a.bv[k]!).1,(a.bv[k]!).2.1)
  case neg=>rw [ut b1];exact ⟨fun _=>rfl,fun h=>absurd (v6.1 h).1 b1⟩
  rw [rc b1]
  by_cases b2:(a.bv[k]!).2.2.1<0
  · rw [aH b2]
    exact ⟨fun _=>rfl,fun h=>absurd (v6.1 h).2.1 (by omega)⟩
  by_cases b3:1000000<(a.bv[k]!).2.2.1
  · rw [aD b2,aH b3]
    exact ⟨fun _=>rfl,fun h=>absurd (v6.1 h).2.2.1 (by omega)⟩
  rw [aD b2,aD b3];simp only [show ((0:Int) !=0)=abW from rfl,pp]
  by_cases b4: ∃j,j<k/\(a.bv[j]!).2.2.1=(a.bv[k]!).2.2.1
  · refine ⟨fun _=>l1.1 b4,fun h=>?_⟩
    obtain ⟨j,j1,j2⟩:=b4;exact absurd j2 ((v6.1 h).2.2.2 j j1)
  · have b4': ∀j,j<k-> ¬(a.bv[j]!).2.2.1=(a.bv[k]!).2.2.1:=fun j h1 h2=>b4 ⟨j,h1,h2⟩
    exact ⟨fun h=>absurd ⟨b1,by omega,by omega,b4'⟩ h,fun _=>l1.2 b4'⟩) (by
  unfold oe;have:abY (((abI a.bv):Int)<((abI a.bv):Int))=abW:=aD (by omega);simp only [ay,this,pp];exact KD a.bv _ _ _ _ hh fit.MG)
 have same:dW a↔(∀k,k<abI a.bv->IH a.bv k)/\ ∀k,0<k->k<abI a.bv-> ¬less a.bv[k]! a.bv[(k-1) / 2]!:=by
  constructor
  · intro ok
    refine ⟨fun k hk=>?_,ok.ord⟩;have:=ok.to.2 k hk;exact ⟨this.1,this.2.1,this.2.2.1,this.2.2.2.1⟩
  rintro ⟨h1,h2⟩
  refine dW.of fit so wl hl hw fun k hk=>?_
  obtain ⟨c1,c2,c3,c4⟩:=h1 k hk;refine ⟨c1,c2,c3,c4,fun k0=>?_⟩;unfold MH;rw [rc ⟨c1,(h1 ((k-1) / 2) (by omega)).1⟩,Bp];exact h2 k k0 hk
 by_cases he: ∀k,k<abI a.bv->IH a.bv k
 · refine (key.2 fun i hi=>v6.2 (he i hi)).trans ?_
   by_cases ho: ∀k,0<k->k<abI a.bv-> ¬less a.bv[k]! a.bv[(k-1) / 2]!
   · rw [rc ho,rc (same.2 ⟨he,ho⟩)]
   rw [ut ho,ut (fun h=>ho (same.1 h).2)]
 rw [ut (fun h=>he (same.1 h).1)]
 obtain ⟨i,h⟩:=If.1 he;obtain ⟨hi,hx⟩:=M2.1 h;exact key.1 ⟨i,hi,hx⟩
theorem zw {l:List Ev} {n:Nat} {e:Ev} (hn:n<=abI l):e∈l.take n↔ ∃w,w<n/\l[w]! =e:=by
 rw [ck];constructor
 · rintro ⟨i,h1,_,h3⟩;exact ⟨i,h1,h3⟩
 rintro ⟨i,h1,h3⟩;exact ⟨i,h1,by omega,h3⟩
theorem abb {s:aU} (so:ef s) {n:Nat} {H:List Ev} {W:List Int} (E:Ev->Prop) (hn:n<=abI H) (wl:(abI W)=abI s.ar) (hl:n+abI s.bi=abI s.ar)
 (ix: ∀w,w<n->0<=(H[w]!).ix/\(H[w]!).ix<abI W/\W[(H[w]!).n]! =(w:Int)) (mem: ∀e,(∃w,w<n/\H[w]! =e)↔E e) (ord: ∀k,0<k->k<n-> ¬less H[k]! H[(k-1) / 2]!)
 (ue: ∀i,i<abI s.ar->s.be[i]! =abQ-> ∃e:Ev,E e/\e.ix=i/\e.2.2.2.2=s.ar[i]!) (un: ∀i,i<abI s.ar->s.be[i]! =abW->W[i]! = -1)
 (ev: ∀e,E e->o3 e) (yf: ∀e f:Ev,E e->E f->e.num=f.num->e.ix=f.ix):dW ⟨s,H.take n,W⟩:=by
 have len:(H.take n).length=n:=by rw [IR];omega
 have cell: ∀w,w<n->(H.take n)[w]! =H[w]!:=fun w hw=>jH hw
 refine ⟨so,wl,by show (H.take n).length+_=_;rw [len];exact hl,?_,un,?_,?_,?_⟩
 · intro i hi hu
   dsimp only at hi hu ⊢;rw [len];obtain ⟨e,he,e1,e2⟩:=ue i hi hu;obtain ⟨w,hw,rfl⟩:=(mem e).2 he;obtain ⟨a1,a2,a3⟩:=ix w hw;have hn':(H[w]!).n=i:=by show ((H[w]!).ix).toNat=i;omega
   rw [hn'] at a3;rw [a3,Do,cell w hw];exact ⟨by omega,by omega,e1,e2⟩
 · intro w hw
   dsimp only at hw ⊢;rw [len] at hw;rw [cell w hw];exact ev _ ((mem _).1 ⟨w,hw,rfl⟩)
 · intro v w hv hw
   dsimp only at hw ⊢;rw [len] at hw;rw [cell v (by omega),cell w hw];intro hc;have:=yf _ _ ((mem _).1 ⟨v,by omega,rfl⟩) ((mem _).1 ⟨w,hw,rfl⟩) hc;obtain ⟨a1,a2,a3⟩:=ix v (by omega);obtain ⟨b1,b2,b3⟩:=ix w hw;have hn':(H[v]!).n=(H[w]!).n:=by show ((H[v]!).ix).toNat=((H[w]!).ix).toNat;rw [this]
   rw [hn'] at a3;omega
 intro k k0 hk
 dsimp only at hk ⊢;rw [len] at hk;rw [cell k hk,cell _ (by omega)];exact ord k k0 hk
theorem tY {s:aU} (so:ef s) {n:Nat} {x:Ev} {M:Ev->Prop} {K:Nat->Prop} {H H1:List Ev} {W W1:List Int} (st:yS n x M K H W H1 W1) (hn:n<=abI H) (wl:(abI W)=abI s.ar) (hl:n+abI s.bi=abI s.ar)
 (ue: ∀i,i<abI s.ar->s.be[i]! =abQ-> ∃e:Ev,(e=x\/M e)/\e.ix=i/\e.2.2.2.2=s.ar[i]!) (un: ∀i,i<abI s.ar->s.be[i]! =abW->K i/\W[i]! = -1)
 (ev: ∀e,(e=x\/M e)->o3 e) (yf: ∀e f:Ev,(e=x\/M e)->(f=x\/M f)->e.num=f.num->e.ix=f.ix):dW ⟨s,H1.take n,W1⟩:=by
 refine abb so (fun e=>e=x\/M e) (by rw [st.hl];exact hn) (by rw [st.wl];exact wl) hl (by rw [st.wl];exact st.ix) st.mem st.ord ue ?_ ev yf;intro i hi hu;rw [st.out i (un i hi hu).1];exact (un i hi hu).2
theorem dW.bd {a:aJ} (ok:dW a):(abI a.bv)<=200/\abI a.aj<=200:=by have:=ok.hl;have:=ok.wl;have:=ok.so.n2;omega
theorem dW.cells {a:aJ} (ok:dW a):lD (abI a.bv) a.bv a.aj:=by have:=ok.bd;refine ⟨EQ _,by omega,fun w hw=>?_⟩;obtain ⟨b1,b2,b3,b4,b5⟩:=ok.back hw;exact ⟨ok.ev w hw,b1,by rw [ok.wl];exact b2⟩
theorem dW.inj {a:aJ} (ok:dW a) {v w:Nat} (hv:v<abI a.bv) (hw:w<abI a.bv) (h:Ev.ix a.bv[v]! =Ev.ix a.bv[w]!):v=w:=by
 have h1:=(ok.back hv).2.2.2.2;have h2:=(ok.back hw).2.2.2.2;have:Ev.n a.bv[v]! =Ev.n a.bv[w]!:=by show (Ev.ix a.bv[v]!).toNat=(Ev.ix a.bv[w]!).toNat;rw [h]
 rw [this] at h1;omega
theorem dW.Kx {a:aJ} (ok:dW a) {i k:Nat} (i0:0<i) (k0:0<k) (hk:k<abI a.bv) (hp:(k-1) / 2=i): ¬less a.bv[k]! a.bv[(i-1) / 2]!:=by have h1:=ok.ord k k0 hk;rw [hp] at h1;exact uQ (ok.ev _ (by omega)).den (ok.ev _ (by omega)).den (ok.ev _ hk).den (ok.ord i i0 (by omega)) h1
theorem dW.live {a:aJ} (ok:dW a) {h:Int×Int} (lv:th a.ae h): ∃i,i<abI a.bv/\a.aj[h.1.toNat]! =(i:Int)/\(a.bv[i]!).2.2.2=h:=by
 obtain ⟨l1,l2,l3,l4⟩:=lv;obtain ⟨f1,f2,f3,f4⟩:=ok.fwd h.1.toNat (by omega) l3;refine ⟨(a.aj[h.1.toNat]!).toNat,by omega,by omega,?_⟩;have e1:(a.bv[(a.aj[h.1.toNat]!).toNat]!).2.2.2.1=h.1:=by have:Ev.ix a.bv[(a.aj[h.1.toNat]!).toNat]! =(h.1.toNat:Int):=f3;have h2:Ev.ix a.bv[(a.aj[h.1.toNat]!).toNat]! =(a.bv[(a.aj[h.1.toNat]!).toNat]!).2.2.2.1:=rfl;omega
 exact UV e1 (by rw [f4,l4])
theorem dW.handle {a:aJ} (ok:dW a) {i:Nat} (hi:i<abI a.bv):th a.ae (a.bv[i]!).2.2.2/\a.aj[((a.bv[i]!).2.2.2.1).toNat]! =(i:Int):=by obtain ⟨b1,b2,b3,b4,b5⟩:=ok.back hi;exact ⟨⟨b1,b2,b3,b4⟩,b5⟩
theorem dW.DU {a:aJ} (ok:dW a) {i:Nat} (hi:i<abI a.ae.ar) (hu:a.ae.be[i]! =abQ): ∃w,w<abI a.bv/\Ev.ix a.bv[w]! =i/\(a.bv[w]!).2.2.2.2=a.ae.ar[i]!:=by obtain ⟨f1,f2,f3,f4⟩:=ok.fwd i hi hu;exact ⟨(a.aj[i]!).toNat,by omega,f3,f4⟩
theorem dW.Hm {a:aJ} (ok:dW a) {i:Nat} (hu:a.ae.be[i]! =abW) {w:Nat} (hw:w<abI a.bv):Ev.n a.bv[w]!≠i:=by intro h;have:=(ok.back hw).2.2.1;rw [h,hu] at this;cases this
theorem dW.yf {a:aJ} (ok:dW a) {v w:Nat} (hv:v<abI a.bv) (hw:w<abI a.bv) (h:Ev.num a.bv[v]! =Ev.num a.bv[w]!):v=w:=by
 rcases aam v w with h1|h1|h1
 · exact absurd h (ok.nd v w h1 hw)
 · exact h1
 exact absurd h.symm (ok.nd w v h1 hv)
theorem eN {α:Type} [Inhabited α] {l:List α} {k:Nat} {v:α} (h:l[k]! =v):l.set k v=l:=by
 by_cases hk:k<abI l
 · apply ya (by rw [ww])
   intro i hi;rw [ba];split
   · rename_i e;rw [e.1];exact h.symm
   rfl
 exact aap (by omega)
def o5 (x:Ev) (t:Int×Int):Ev:=(t.1,t.2,x.2.2)
noncomputable def jr (a:aJ) (i:Nat) (t:Int×Int):aJ:=⟨a.ae,(bZ (abI a.bv) (o5 a.bv[i]! t) i a.bv a.aj).1,(bZ (abI a.bv) (o5 a.bv[i]! t) i a.bv a.aj).2⟩
theorem FM {a:aJ} (ok:dW a) {i:Nat} (hi:i<abI a.bv) {t:Int×Int} (ht:aW t) (h64:iJ t):o3 (o5 a.bv[i]! t):=by have:=ok.ev i hi;exact ⟨ht,h64,this.2.2.1,this.2.2.2⟩
theorem FN {a:aJ} (ok:dW a) {i:Nat} (hi:i<abI a.bv) (t:Int×Int):Ar (abI a.bv) (o5 a.bv[i]! t) (fun e=> ∃w,w<abI a.bv/\w≠i/\a.bv[w]! =e) a.bv a.aj i:=by obtain ⟨b1,b2,b3,b4,b5⟩:=ok.back hi;refine ⟨hi,EQ _,fun w hw IC=>?_,b1,by rw [ok.wl];exact b2,fun e=>aar⟩;obtain ⟨c1,c2,c3,c4,c5⟩:=ok.back hw;exact ⟨c1,by rw [ok.wl];exact c2,c5,fun h=>IC (ok.inj hw hi h)⟩
theorem Hn {a:aJ} (ok:dW a) (i:Nat):Ord (abI a.bv) a.bv i:=
 ⟨fun w hw=>(ok.ev w hw).den,fun k k0 hk _ _=>ok.ord k k0 hk,fun i0 _k k0 hk hp=>ok.Kx i0 k0 hk hp⟩
theorem my {a:aJ} (ok:dW a) {i:Nat} (hi:i<abI a.bv) {t:Int×Int} (ht:aW t):
 yS (abI a.bv) (o5 a.bv[i]! t) (fun e=> ∃w,w<abI a.bv/\w≠i/\a.bv[w]! =e) (fun k=>k≠Ev.n (o5 a.bv[i]! t)/\ ∀w,w<abI a.bv->w≠i->Ev.n a.bv[w]!≠k) a.bv a.aj (jr a i t).bv (jr a i t).aj:=
 yb (x:=o5 a.bv[i]! t) ht.1 (FN ok hi t) (Hn ok i)
theorem Cz {a:aJ} (ok:dW a) {i:Nat} (hi:i<abI a.bv) {t:Int×Int} (ht:aW t):(jr a i t).bv.length=abI a.bv/\(jr a i t).aj.length=(abI a.aj):=
 ⟨(my ok hi ht).hl,(my ok hi ht).wl⟩
theorem P7 {a:aJ} (ok:dW a) {i:Nat} (hi:i<abI a.bv) {t:Int×Int} (ht:aW t) (e:Ev):e∈(jr a i t).bv↔(e=o5 a.bv[i]! t\/(e∈a.bv/\e≠a.bv[i]!)):=by
 have st:=my ok hi ht;have h1:e∈(jr a i t).bv↔ ∃w,w<abI a.bv/\((jr a i t).bv)[w]! =e:=by rw [aP,(Cz ok hi ht).1]
 rw [h1];refine (st.mem e).trans ?_;constructor
 · rintro (h|⟨w,hw,IC,rfl⟩)
   · exact .inl h
   exact .inr ⟨aN hw,fun h=>IC (ok.inj hw hi (by rw [h]))⟩
 rintro (h|⟨h,dE⟩)
 · exact .inl h
 obtain ⟨w,hw,rfl⟩:=aP.1 h
 exact .inr ⟨w,hw,fun h=>dE (by rw [h]),rfl⟩
theorem Th {a:aJ} (ok:dW a) {i:Nat} (hi:i<abI a.bv) {t:Int×Int} (ht:aW t) (h64:iJ t):dW (jr a i t):=by
 have st:=my ok hi ht;have len:=(Cz ok hi ht).1;have hx:Ev.ix (o5 a.bv[i]! t)=Ev.ix a.bv[i]!:=rfl;have key:=tY ok.so st (EQ _) ok.wl ok.hl (fun j hj hu=>by
  obtain ⟨w,hw,e1,e2⟩:=ok.DU hj hu
  by_cases e:w=i
  · subst e;exact ⟨o5 a.bv[w]! t,.inl rfl,e1,e2⟩
  · exact ⟨a.bv[w]!,.inr ⟨w,hw,e,rfl⟩,e1,e2⟩) (fun j hj hu=>⟨⟨(ok.Hm hu hi).symm,fun w hw _=>ok.Hm hu hw⟩,ok.un j hj hu⟩) (by
  rintro e (rfl|⟨w,hw,_,rfl⟩)
  · exact FM ok hi ht h64
  · exact ok.ev w hw) (by
  rintro e f (rfl|⟨v,hv,hvi,rfl⟩) (rfl|⟨w,hw,IC,rfl⟩) he
  · rfl
  · exact absurd (ok.yf hi hw he).symm IC
  · exact absurd (ok.yf hv hi he) hvi
  rw [ok.yf hv hw he])
 have:(jr a i t).bv.take (abI a.bv)=(jr a i t).bv:=NE (by rw [len];exact EQ _);show dW ⟨a.ae,(jr a i t).bv,(jr a i t).aj⟩;rw [<- this];exact key
theorem KE {a:aJ} (ok:dW a) (fit:yd a) {h:Int×Int} {i:Nat} (hi:i<abI a.bv) (hh:(a.bv[i]!).2.2.2=h):nU a h=abK ((i:Int),0):=by
 obtain ⟨lv,wv⟩:=ok.handle hi;rw [hh] at lv;unfold nU;rw [iO a fit,rc ok];simp only [ao,show ((0:Int) !=0)=abW from rfl,pp,C9 ok.so,aH lv,AC];have:=lv.2.1;have:=lv.1;have:=ok.wl;have e:(a.bv[i]!).2.2.2.1=h.1:=by rw [hh]
 rw [c6 (l:=a.aj) lv.1 (by omega),<- e,wv];rfl
theorem Dy {a:aJ} (ok:dW a) (fit:yd a) {h t:Int×Int} {i:Nat} (hi:i<abI a.bv) (hh:(a.bv[i]!).2.2.2=h) (ht:aW t) (h64:iJ t):qY a h t=abK (jr a i t,0):=by
 have bd:=ok.bd;obtain ⟨b1,b2,b3,b4,b5⟩:=ok.back hi;unfold qY;rw [iO a fit,rc ok,c7 h64,rc ht];have pl:=KE ok fit hi hh;have se:=FH (u:=a.ae.ar) (us:=a.ae.be) (fr:=a.ae.bi) (FM ok hi ht h64) (show 0<=Ev.ix (o5 a.bv[i]! t) from b1) ok.cells rfl hi (show Ev.ix (o5 a.bv[i]! t)<(abI a.aj) by rw [ok.wl];exact b2);have se':dX (a.ae.ar,a.ae.be,a.ae.bi,(i:Int),t.1,t.2,(a.bv[i]!).2.2.1,(a.bv[i]!).2.2.2.1,(a.bv[i]!).2.2.2.2,a.bv,a.aj)=abK (bZ (abI a.bv) (o5 a.bv[i]! t) i a.bv a.aj):=se;simp only [ao,gt_iff_lt,aaA,if_false,show ((0:Int) !=0)=abW from rfl,pp,pl,bj (show (abI a.bv)<=1048576 by omega),bj (show (abI a.aj)<=1048576 by omega),aq a.bv i hi,se'];rfl
theorem pI {a:aJ} (ok:dW a):oU a=abK a:=by have bd:=ok.bd;unfold oU;simp only [tV ok.so,ao,bj (show (abI a.bv)<=1048576 by omega),bj (show (abI a.aj)<=1048576 by omega)]
theorem CA {a:aJ} (ok:dW a) {h t:Int×Int} {i:Nat} (hi:i<abI a.bv) (hh:(a.bv[i]!).2.2.2=h) (ht:aW t) (h64:iJ t):tQ a h t=abK (jr a i t):=by
 have bd:=ok.bd;obtain ⟨b1,b2,b3,b4,b5⟩:=ok.back hi;obtain ⟨lv,wv⟩:=ok.handle hi;have hx:=FM ok hi ht h64;have x1:Ev.ix (o5 a.bv[i]! t)<(abI a.aj):=by rw [ok.wl];exact b2
 have st:=my ok hi ht;obtain ⟨j,H1,W1,e1,e3,e4,e5,e6,e7,e8,e9,e10⟩:=DR (x:=o5 a.bv[i]! t) ht.1 i a.bv a.aj (FN ok hi t) (Hn ok i);have w1:a.aj.set (Ev.n (o5 a.bv[i]! t)) (i:Int)=a.aj:=eN b5;unfold tQ;rw [pI ok];have g1:aG a.aj h.1=abK (i:Int):=by
  have e:(a.bv[i]!).2.2.2.1=h.1:=by rw [hh]
  rw [c6 (l:=a.aj) (i:=h.1) (by rw [<- e];exact b1) (by rw [<- e,ok.wl];exact b2),<- e,wv]
 have u1:sd ((i:Int),a.ae.ar,a.ae.be,a.ae.bi,a.bv.set i (o5 a.bv[i]! t),a.aj)=abK ((j:Int),a.ae.ar,a.ae.be,a.ae.bi,H1.set j (o5 a.bv[i]! t),W1.set (Ev.n (o5 a.bv[i]! t)) (j:Int)):=by unfold sd;have:=Tc (c0:=((i:Int),a.ae.ar,a.ae.be,a.ae.bi,a.bv.set i (o5 a.bv[i]! t),a.aj)) (u:=a.ae.ar) (us:=a.ae.be) (fr:=a.ae.bi) hx b1 rfl rfl rfl i a.bv a.aj ok.cells hi rfl x1 ww rfl;rw [w1,e1] at this;exact this
 have MJ:lD (abI a.bv) H1 W1:=by refine ⟨by rw [e5];exact EQ _,by omega,fun w hw=>?_⟩;exact ⟨(yc ok.cells hi e1 w hw).1,(yc ok.cells hi e1 w hw).2.1,by rw [e6];exact (yc ok.cells hi e1 w hw).2.2⟩
 have d1:oX ((j:Int),a.ae.ar,a.ae.be,a.ae.bi,H1.set j (o5 a.bv[i]! t),W1.set (Ev.n (o5 a.bv[i]! t)) (j:Int))=abK (a.ae.ar,a.ae.be,a.ae.bi,(bZ (abI a.bv) (o5 a.bv[i]! t) i a.bv a.aj).1,(bZ (abI a.bv) (o5 a.bv[i]! t) i a.bv a.aj).2):=by
  unfold oX;have:=KA (c0:=((j:Int),a.ae.ar,a.ae.be,a.ae.bi,H1.set j (o5 a.bv[i]! t),W1.set (Ev.n (o5 a.bv[i]! t)) (j:Int))) (n:=abI a.bv) (u:=a.ae.ar) (us:=a.ae.be) (fr:=a.ae.bi) hx b1 rfl rfl rfl (abI a.bv) j H1 W1 (by omega) MJ e3.lt e5 (by rw [e6];exact x1) ww ww;rw [this];unfold bZ;rw [e1]
 have s1:bO a.bv (i:Int) (t.1,t.2,(a.bv[i]!).2.2)=a.bv.set i (o5 a.bv[i]! t):=rfl;simp only [ao,g1,aq a.bv i hi,s1,u1,d1];rfl
theorem Ho (H:List Ev) (n:Int) (hl:(abI H)<=1000000):cA H n=abK (abY (∃w,w<abI H/\(H[w]!).2.2.1=n)):=by
 unfold cA dT;have key:=jS (body:=cz) (fun i=>(H,n,((abI H):Int),(i:Int))) (abI H) (fun i=>(H[i]!).2.2.1=n) (fun i=>(i:Int)) (e:= -1) (fun i hi=>by
  have e1:abY ((i:Int)<((abI H):Int))=abQ:=aH (by omega);unfold cz tN;simp only [e1,lw,aq H i hi,ao,aV (show i<1000000000 by omega)];constructor
  · intro h;rw [ed h];rfl
  · intro h;rw [eD h];rfl) (by
  unfold cz;have:abY (((abI H):Int)<((abI H):Int))=abW:=aD (by omega);simp only [this,pp])
 rw [ay]
 by_cases hx: ∃w,w<abI H/\(H[w]!).2.2.1=n
 · obtain ⟨k,h1,h2,h3⟩:=least hx
   have:=key.1 k h1 h2 h3;rw [show ((0:Nat):Int)=0 from rfl] at this;rw [this,aH hx];simp only [ao,aH (show (0:Int)<=(k:Int) by omega)]
 have:=key.2 fun i hi he=>hx ⟨i,hi,he⟩
 rw [show ((0:Nat):Int)=0 from rfl] at this;rw [this,aD hx];rfl
noncomputable def cT (a:aJ) (t:Int×Int) (n:Int):Ev:=(t.1,t.2,n,j0 a.ae)
noncomputable def j7 (a:aJ) (t:Int×Int) (n:Int):aJ:=
 ⟨fO a.ae,(bZ (abI a.bv+1) (cT a t n) (abI a.bv) (a.bv++[cT a t n]) a.aj).1,(bZ (abI a.bv+1) (cT a t n) (abI a.bv) (a.bv++[cT a t n]) a.aj).2⟩
section
variable {a : aJ} (ok : dW a) (op : uP a.ae) {t : Int × Int} (ht : aW t) (h64 : iJ t) {n : Int} (n0 : 0 <= n) (n1 : n <= 1000000)
include ok op
theorem Br:Ev.ix (cT a t n)=(cB a.ae:Int)/\cB a.ae<abI a.ae.ar/\a.ae.be[cB a.ae]! =abW/\abI a.ae.bi=(fO a.ae).bi.length+1:=by
 obtain ⟨h1,h2,h3⟩:=wg ok.so op.1;refine ⟨rfl,h1,?_,?_⟩
 · have:=ok.so.uf (cB a.ae) h1
   cases h:a.ae.be[cB a.ae]! with
   |false=>rfl
   |true=>exact absurd h3 (this.1 h)
 show _=(a.ae.bi.take (abI a.ae.bi-1)).length+1
 have:=op.1;rw [IR];omega
theorem Hq:Ar (abI a.bv+1) (cT a t n) (fun e=>e∈a.bv) (a.bv++[cT a t n]) a.aj (abI a.bv):=by
 obtain ⟨h1,h2,h3,h4⟩:=Br (t:=t) (n:=n) ok op;have cell: ∀w,w<abI a.bv->(a.bv++[cT a t n])[w]! =a.bv[w]!:=fun w hw=>dQ hw
 refine ⟨by omega,by simp,fun w hw IC=>?_,by rw [h1];omega,by rw [h1,ok.wl];omega,fun e=>?_⟩
 · have TV:w<(abI a.bv):=by omega
   rw [cell w TV];obtain ⟨c1,c2,c3,c4,c5⟩:=ok.back TV;refine ⟨c1,by rw [ok.wl];exact c2,c5,fun h=>?_⟩;rw [h1] at h;have:Ev.n a.bv[w]! =cB a.ae:=by show (Ev.ix a.bv[w]!).toNat=_;omega
   exact ok.Hm h3 TV this
 constructor
 · rintro ⟨w,hw,IC,rfl⟩
   rw [cell w (by omega)];exact aN (by omega)
 intro h
 obtain ⟨w,hw,rfl⟩:=aP.1 h;exact ⟨w,by omega,by omega,cell w hw⟩
theorem KF (ht:aW t):Ord (abI a.bv+1) (a.bv++[cT a t n]) (abI a.bv):=by
 have _:=op;have cell: ∀w,w<abI a.bv->(a.bv++[cT a t n])[w]! =a.bv[w]!:=fun w hw=>dQ hw
 refine ⟨fun w hw=>?_,fun k k0 hk k1 k2=>?_,fun i0 k k0 hk hp=>by omega⟩
 · by_cases h:w<abI a.bv
   · rw [cell w h];exact (ok.ev w h).den
   have:w=(abI a.bv):=by omega
   subst this;rw [fA (EQ _),aas];exact ht.1
 rw [cell k (by omega),cell _ (by omega)]
 exact ok.ord k k0 (by omega)
theorem wm (ht:aW t):yS (abI a.bv+1) (cT a t n) (fun e=>e∈a.bv) (fun k=>k≠Ev.n (cT a t n)/\ ∀w,w<abI a.bv+1->w≠abI a.bv->Ev.n (a.bv++[cT a t n])[w]!≠k) (a.bv++[cT a t n]) a.aj (j7 a t n).bv (j7 a t n).aj:=
 yb (x:=cT a t n) ht.1 (Hq ok op) (KF ok op ht)
theorem Bs (ht:aW t):(j7 a t n).bv.length=abI a.bv+1:=by have:=(wm (n:=n) ok op ht).hl;rw [this];simp
theorem KG (ht:aW t) (e:Ev):e∈(j7 a t n).bv↔(e=cT a t n\/e∈a.bv):=by have st:=wm (n:=n) ok op ht;rw [aP,Bs ok op ht];exact st.mem e
theorem II (ht:aW t) (h64:iJ t) (n0:0<=n) (n1:n<=1000000):o3 (cT a t n):=by have _:=ok;have _:=op;exact ⟨ht,h64,n0,n1⟩
theorem Oj (ht:aW t) (h64:iJ t) (n0:0<=n) (n1:n<=1000000) (nn: ∀e∈a.bv,Ev.num e≠n):dW (j7 a t n):=by
 have st:=wm (n:=n) ok op ht;have len:=Bs (n:=n) ok op ht;obtain ⟨h1,h2,h3,h4⟩:=Br (t:=t) (n:=n) ok op;have hu:=ok.so.ul;have ul:(fO a.ae).ar.length=(abI a.ae.ar):=ww;have key:=tY (S9 ok.so op) st (by simp) (by rw [ul];exact ok.wl) (by rw [ul];have:=ok.hl;omega) (fun j hj BJ=>by
  rw [ul] at hj;change (a.ae.be.set (cB a.ae) abQ)[j]! =abQ at BJ;rw [ba] at BJ;show∃e:Ev,_/\_/\_=(a.ae.ar.set (cB a.ae) (a.ae.ar[cB a.ae]!+1))[j]!;rw [ba]
  by_cases e:j=cB a.ae
  · rw [rc ⟨e,h2⟩]
    exact ⟨cT a t n,.inl rfl,by rw [h1,e],rfl⟩
  · rw [ut (fun k=>e k.1)]
    rw [ut (fun k=>e k.1)] at BJ;obtain ⟨w,hw,e1,e2⟩:=ok.DU hj BJ;exact ⟨a.bv[w]!,.inr (aN hw),e1,e2⟩) (fun j hj BJ=>by
  rw [ul] at hj;change (a.ae.be.set (cB a.ae) abQ)[j]! =abW at BJ;rw [ba] at BJ
  by_cases e:j=cB a.ae
  · rw [rc ⟨e,by omega⟩] at BJ;cases BJ
  · rw [ut (fun k=>e k.1)] at BJ
    refine ⟨⟨?_,fun w hw IC=>?_⟩,ok.un j hj BJ⟩
    · show j≠(Ev.ix (cT a t n)).toNat
      omega
    rw [dQ (by omega)]
    exact ok.Hm BJ (by omega)) (by
  rintro e (rfl|h)
  · exact II ok op ht h64 n0 n1
  · obtain ⟨w,hw,rfl⟩:=aP.1 h
    exact ok.ev w hw) (by
  rintro e f (rfl|he) (rfl|hf) hn
  · rfl
  · exact absurd hn.symm (nn f hf)
  · exact absurd hn (nn e he)
  obtain ⟨v,hv,rfl⟩:=aP.1 he
  obtain ⟨w,hw,rfl⟩:=aP.1 hf;rw [ok.yf hv hw hn])
 have:(j7 a t n).bv.take (abI a.bv+1)=(j7 a t n).bv:=NE (by rw [len];exact EQ _);show dW ⟨fO a.ae,(j7 a t n).bv,(j7 a t n).aj⟩;rw [<- this];exact key
theorem FO (ht:aW t) (h64:iJ t) (n0:0<=n) (n1:n<=1000000):lD (abI a.bv+1) (a.bv++[cT a t n]) a.aj:=by
 have bd:=ok.bd;obtain ⟨h1,h2,h3,h4⟩:=Br (t:=t) (n:=n) ok op;refine ⟨by simp,by simp;omega,fun w hw=>?_⟩
 by_cases h:w<abI a.bv
 · rw [dQ h];exact ok.cells.ev w h
 have:w=(abI a.bv):=by omega
 subst this;rw [fA (EQ _),aas];exact ⟨II ok op ht h64 n0 n1,by show 0<=Ev.ix (cT a t n);omega,by show Ev.ix (cT a t n)<_;rw [ok.wl];omega⟩
theorem uR (fit:yd a) (ht:aW t) (h64:iJ t) (n0:0<=n) (n1:n<=1000000) (nn: ∀e∈a.bv,Ev.num e≠n):jP a t n=abK (j7 a t n,j0 a.ae,0):=by
 have bd:=ok.bd;obtain ⟨h1,h2,h3,h4⟩:=Br (t:=t) (n:=n) ok op;have hn: ¬ ∃w,w<abI a.bv/\(a.bv[w]!).2.2.1=n:=by rintro ⟨w,hw,e⟩;exact nn _ (aN hw) e
 unfold jP;rw [iO a fit,rc ok,c7 h64,rc ht,Ho _ _ (by omega),aD hn,Bo ok.so,rc op];have se:=FH (u:=(fO a.ae).ar) (us:=(fO a.ae).be) (fr:=(fO a.ae).bi) (II ok op ht h64 n0 n1) (show 0<=Ev.ix (cT a t n) by omega) (FO ok op ht h64 n0 n1) (by simp) (show (abI a.bv)<abI a.bv+1 by omega) (show Ev.ix (cT a t n)<(abI a.aj) by rw [ok.wl];omega);have e1:ai .i64 (((a.bv++[cT a t n]).length:Int) -1)=((abI a.bv):Int):=by rw [wi,aal];simp;omega
 have ap:bm a.bv [(t.1,t.2,n,j0 a.ae)]=abK (a.bv++[cT a t n]):=cM (by simp;omega);have se':dX ((fO a.ae).ar,(fO a.ae).be,(fO a.ae).bi,((abI a.bv):Int),t.1,t.2,n,(j0 a.ae).1,(j0 a.ae).2,a.bv++[cT a t n],a.aj)=abK (bZ (abI a.bv+1) (cT a t n) (abI a.bv) (a.bv++[cT a t n]) a.aj):=se;simp only [ao,gt_iff_lt,aaA,if_false,show ((0:Int) !=0)=abW from rfl,pp,aD (show¬n<0 by omega),aD (show¬1000000<n by omega),bj (show (abI a.bv)<=1048576 by omega),bj (show (abI a.aj)<=1048576 by omega),ap,ay,e1,se'];rfl
theorem wS (ht:aW t) (h64:iJ t) (n0:0<=n) (n1:n<=1000000):eF a t n=abK (j7 a t n,j0 a.ae):=by
 have bd:=ok.bd;obtain ⟨h1,h2,h3,h4⟩:=Br (t:=t) (n:=n) ok op;unfold eF;rw [pI ok];have e1:ai .i64 (((a.bv++[cT a t n]).length:Int) -1)=((abI a.bv):Int):=by rw [wi,aal];simp;omega
 have ap:bm a.bv [(t.1,t.2,n,j0 a.ae)]=abK (a.bv++[cT a t n]):=cM (by simp;omega);have hx:=II (n:=n) ok op ht h64 n0 n1;have last:bZ (abI a.bv+1) (cT a t n) (abI a.bv) (a.bv++[cT a t n]) a.aj=_:=Ky (x:=cT a t n) ht.1 (Hq ok op) (KF ok op ht) (fun k k0 hk hp=>by omega);have hs:(a.bv++[cT a t n]).set (abI a.bv) (cT a t n)=a.bv++[cT a t n]:=eN (by rw [fA (EQ _),aas];rfl);have ws:bO a.aj (j0 a.ae).1 ((abI a.bv):Int)=a.aj.set (Ev.n (cT a t n)) ((abI a.bv):Int):=rfl
 have u1:sf ((fO a.ae).ar,(fO a.ae).be,(fO a.ae).bi,((abI a.bv):Int),a.bv++[cT a t n],a.aj.set (Ev.n (cT a t n)) ((abI a.bv):Int))=abK (((iw (cT a t n) (abI a.bv) (a.bv++[cT a t n]) a.aj).1:Int),(iw (cT a t n) (abI a.bv) (a.bv++[cT a t n]) a.aj).2.1.set (iw (cT a t n) (abI a.bv) (a.bv++[cT a t n]) a.aj).1 (cT a t n),(iw (cT a t n) (abI a.bv) (a.bv++[cT a t n]) a.aj).2.2.set (Ev.n (cT a t n)) ((iw (cT a t n) (abI a.bv) (a.bv++[cT a t n]) a.aj).1:Int)):=by
  unfold sf;have:=Te (c0:=((fO a.ae).ar,(fO a.ae).be,(fO a.ae).bi,((abI a.bv):Int),a.bv++[cT a t n],a.aj.set (Ev.n (cT a t n)) ((abI a.bv):Int))) (u:=(fO a.ae).ar) (us:=(fO a.ae).be) (fr:=(fO a.ae).bi) hx (show 0<=Ev.ix (cT a t n) by omega) (abI a.bv) (a.bv++[cT a t n]) a.aj (FO ok op ht h64 n0 n1) (by omega) (by simp) (by rw [ok.wl];omega) rfl ww;rw [hs] at this;exact this
 have g1:aG a.aj (j0 a.ae).1=abK a.aj[cB a.ae]!:=aq a.aj (cB a.ae) (by rw [ok.wl];exact h2);simp only [ao,FE ok.so op,ap,g1,ay,e1,ws,u1];unfold j7;rw [last]
end
theorem uS {a:aJ} (ok:dW a) (op: ¬uP a.ae) (fit:yd a) {t:Int×Int} (ht:aW t) (h64:iJ t) {n:Int} (n0:0<=n) (n1:n<=1000000) (nn: ∀e∈a.bv,Ev.num e≠n):jP a t n=abK (⟨⟨[],[],[]⟩,[],[]⟩,(0,0),18):=by
 have bd:=ok.bd;have hn: ¬ ∃w,w<abI a.bv/\(a.bv[w]!).2.2.1=n:=by rintro ⟨w,hw,e⟩;exact nn _ (aN hw) e
 unfold jP;rw [iO a fit,rc ok,c7 h64,rc ht,Ho _ _ (by omega),aD hn,Bo ok.so,ut op];simp only [ao,gt_iff_lt,aaA,if_false,show ((0:Int) !=0)=abW from rfl,pp,aD (show¬n<0 by omega),aD (show¬1000000<n by omega),show ((18:Int) !=0)=abQ from rfl,lw]
theorem ti {l:List Ev} {n i:Nat} {v:Ev}:(l.set i v).take n=(l.take n).set i v:=by
 apply List.ext_getElem?;intro j;rw [aaF,aaX,aaX,aaF,IR]
 by_cases h1:j<n
 · rw [rc h1]
   by_cases h2:i=j
   · subst h2
     by_cases h3:i<abI l
     · rw [rc rfl,rc h3,rc rfl,rc (by omega)]
     rw [rc rfl,ut h3,rc rfl,ut (by omega)]
   rw [ut h2,ut h2,rc h1]
 rw [ut h1]
 by_cases h2:i=j
 · rw [rc h2,ut (by omega)]
 rw [ut h2,ut h1]
theorem KH {n:Nat} {x:Ev}: ∀(i:Nat) (H:List Ev) (W:List Int),i<n->iw x i (H.take n) W=((iw x i H W).1,(iw x i H W).2.1.take n,(iw x i H W).2.2)
 |0,H,W,hi=>by rw [iw,iw]
 |i+1,H,W,hi=>by
  have e:(H.take n)[i / 2]! =H[i / 2]!:=jH (by omega);rw [iw,iw,e]
  by_cases h:less x H[i / 2]!
  · rw [rc h,rc h,<- ti]
    exact KH (i / 2) _ _ (by omega)
  rw [ut h,ut h]
termination_by i=>i
decreasing_by omega
theorem Ti {x:Ev}: ∀(i:Nat) (H:List Ev) (W:List Int),(iw x i H W).1<=i
 |0,H,W=>by rw [iw];exact EQ _
 |i+1,H,W=>by
  rw [iw];split
  · exact abx (Ti (i / 2) _ _) (by omega)
  exact EQ _
termination_by i=>i
decreasing_by omega
theorem FP {n:Nat} {H:List Ev} {i:Nat} (hk:2*i+1<n):gH n (H.take n) i=gH n H i:=by
 unfold gH
 by_cases h:2*i+2<n
 · rw [jH h,jH (show 2*i+1<n by omega)]
 rw [ut (fun k=>h k.1),ut (fun k=>h k.1)]
theorem KI {n:Nat} {x:Ev} {i:Nat} {H:List Ev} {W:List Int} (h:2*i+1<n) (hl:less H[gH n H i]! x):dp n x i H W=dp n x (gH n H i) (H.set i H[gH n H i]!) (W.set (H[gH n H i]!).n (i:Int)):=by rw [dp,dif_pos h,rc hl]
theorem wq {n:Nat} {x:Ev} {i:Nat} {H:List Ev} {W:List Int} (h: ¬(2*i+1<n/\less H[gH n H i]! x)):dp n x i H W=(i,H,W):=by
 rw [dp];split
 · rename_i h1;rw [ut (fun k=>h ⟨h1,k⟩)]
 rfl
theorem FQ {n : Nat} {x : Ev} : ∀ (d i : Nat) (H : List Ev) (W : List Int), n - i <= d -> dp n x i (H.take n) W = ((dp n x i H W).1, (dp n x i H W).2.1.take n, (dp n x i H W).2.2)
  | 0, i, H, W, hd => by
    rw [wq (fun h => by omega), wq (fun h => by omega)]
  | d + 1, i, H, W, hd => by
    have kc := nq n H i
    by_cases h : 2 * i + 1 < n /\ less H[gH n H i]! x
    · have e : (H.take n)[gH n (H.take n) i]! = H[gH n H i]! := by rw [FP h.1, jH (by omega)]
      rw [KI h.1 h.2, KI (H := H.take n) h.1 (by rw [e]; exact h.2), e, FP h.1, <- ti]
      exact FQ d _ _ _ (by omega)
    have h' : ¬ (2 * i + 1 < n /\ less (H.take n)[gH n (H.take n) i]! x) := by
      rintro ⟨k1, k2⟩
      rw [FP k1, jH (by omega)] at k2
      exact h ⟨k1, k2⟩
    rw [wq h, wq h']
theorem Ol {x:Ev}: ∀(i:Nat) (H:List Ev) (W:List Int),(iw x i H W).2.1.length=abI H/\(iw x i H W).2.2.length=abI W
 |0,H,W=>by rw [iw];exact ⟨rfl,rfl⟩
 |i+1,H,W=>by
  rw [iw];split
  · have:=Ol (x:=x) (i / 2) (H.set (i+1) H[i / 2]!) (W.set (H[i / 2]!).n ((i+1:Nat):Int))
    rwa [ww,ww] at this
  exact ⟨rfl,rfl⟩
termination_by i=>i
decreasing_by omega
theorem Bt {n:Nat} {x:Ev} {i:Nat} {H:List Ev} {W:List Int} (hi:i<n):bZ n x i (H.take n) W=((bZ n x i H W).1.take n,(bZ n x i H W).2):=by unfold bZ;rw [KH i H W hi];dsimp only;rw [FQ n _ _ _ (by omega)];dsimp only;rw [ti]
noncomputable def dO (a:aJ) (i:Nat):aJ:=
 if i<abI a.bv-1 then ⟨fc a.ae (a.bv[i]!).2.2.2,(bZ (abI a.bv-1) a.bv[abI a.bv-1]! i a.bv (a.aj.set (Ev.n a.bv[i]!) (-1))).1.take (abI a.bv-1),(bZ (abI a.bv-1) a.bv[abI a.bv-1]! i a.bv (a.aj.set (Ev.n a.bv[i]!) (-1))).2⟩
 else ⟨fc a.ae (a.bv[i]!).2.2.2,a.bv.take (abI a.bv-1),a.aj.set (Ev.n a.bv[i]!) (-1)⟩
section
variable {a : aJ} (ok : dW a) {i : Nat} (hi : i < (abI a.bv))
include ok hi
theorem uT {w:Nat} (hw:w<abI a.bv) (dE:w≠i):Ev.n a.bv[w]!≠Ev.n a.bv[i]!:=by have h1:=(ok.back hw).1;have h2:=(ok.back hi).1;exact aka h1 h2 fun h=>dE (ok.inj hw hi h)
theorem Hr:lD (abI a.bv-1) a.bv (a.aj.set (Ev.n a.bv[i]!) (-1)):=by have c:=ok.cells;refine ⟨by omega,c.hb,fun w hw=>?_⟩;rw [ww];exact c.ev w (by omega)
theorem Tj (df:i<abI a.bv-1):Ar (abI a.bv-1) a.bv[abI a.bv-1]! (fun e=> ∃w,w<abI a.bv-1/\w≠i/\a.bv[w]! =e) a.bv (a.aj.set (Ev.n a.bv[i]!) (-1)) i:=by
 obtain ⟨b1,b2,b3,b4,b5⟩:=ok.back (show (abI a.bv)-1<(abI a.bv) by omega);refine ⟨df,by omega,fun w hw IC=>?_,b1,by rw [ww,ok.wl];exact b2,fun e=>aar⟩;obtain ⟨c1,c2,c3,c4,c5⟩:=ok.back (show w<(abI a.bv) by omega);refine ⟨c1,by rw [ww,ok.wl];exact c2,?_,fun h=>?_⟩
 · rw [ba,ut (fun h=>uT ok hi (show w<(abI a.bv) by omega) IC h.1)]
   exact c5
 have:=ok.inj (show w<(abI a.bv) by omega) (show (abI a.bv)-1<(abI a.bv) by omega) h
 omega
theorem ZK:Ord (abI a.bv-1) a.bv i:=
 ⟨fun w hw=>(ok.ev w (by omega)).den,fun k k0 hk _ _=>ok.ord k k0 (by omega),fun i0 k k0 hk hp=>ok.Kx i0 k0 (by omega) hp⟩
theorem C' (df:i<abI a.bv-1):
 yS (abI a.bv-1) a.bv[abI a.bv-1]! (fun e=> ∃w,w<abI a.bv-1/\w≠i/\a.bv[w]! =e) (fun k=>k≠Ev.n a.bv[abI a.bv-1]!/\ ∀w,w<abI a.bv-1->w≠i->Ev.n a.bv[w]!≠k) a.bv (a.aj.set (Ev.n a.bv[i]!) (-1))
  (bZ (abI a.bv-1) a.bv[abI a.bv-1]! i a.bv (a.aj.set (Ev.n a.bv[i]!) (-1))).1 (bZ (abI a.bv-1) a.bv[abI a.bv-1]! i a.bv (a.aj.set (Ev.n a.bv[i]!) (-1))).2:=
 yb (ok.ev (abI a.bv-1) (by omega)).den (Tj ok hi df) (ZK ok hi)
theorem Hs:ef (fc a.ae (a.bv[i]!).2.2.2):=S8 ok.so (ok.handle hi).1
theorem yg {j:Nat} (hj:j<abI a.ae.ar):(fc a.ae (a.bv[i]!).2.2.2).be[j]! =if j=Ev.n a.bv[i]! then abW else a.ae.be[j]!:=by
 have _:=hi;show (a.ae.be.set (Ev.n a.bv[i]!) abW)[j]! =_;rw [ba];have:=ok.so.ul
 by_cases e:j=Ev.n a.bv[i]!
 · rw [rc ⟨e,by omega⟩,rc e]
 rw [ut (fun k=>e k.1),ut e]
theorem CB:dW (dO a i):=by
 have hb:=ok.back hi;have hl:(abI a.bv)-1+(fc a.ae (a.bv[i]!).2.2.2).bi.length=(abI a.ae.ar):=by show (abI a.bv)-1+(a.ae.bi++[_]).length=_;rw [aal];have:=ok.hl;simp only [ab0,aba];omega
 have un: ∀j,j<abI a.ae.ar->(fc a.ae (a.bv[i]!).2.2.2).be[j]! =abW->(a.aj.set (Ev.n a.bv[i]!) (-1))[j]! = -1:=by
  intro j hj hu;rw [yg ok hi hj] at hu;rw [ba]
  by_cases e:j=Ev.n a.bv[i]!
  · rw [rc ⟨e.symm▸rfl,by rw [ok.wl];omega⟩]
  rw [ut e] at hu
  rw [ut (fun k=>e k.1)];exact ok.un j hj hu
 unfold dO
 by_cases df:i<abI a.bv-1
 · rw [rc df]
   have st:=C' ok hi df;refine tY (Hs ok hi) st (by omega) (by rw [ww];exact ok.wl) hl (fun j hj hu=>?_) (fun j hj hu=>⟨⟨?_,fun w hw IC=>?_⟩,un j hj hu⟩) ?_ ?_
   · change j<(abI a.ae.ar) at hj
     rw [yg ok hi hj] at hu
     by_cases e:j=Ev.n a.bv[i]!
     · rw [rc e] at hu;cases hu
     rw [ut e] at hu
     obtain ⟨w,hw,e1,e2⟩:=ok.DU hj hu;refine ⟨a.bv[w]!,?_,e1,e2⟩
     by_cases kM:w=abI a.bv-1
     · left;rw [kM]
     refine .inr ⟨w,by omega,fun h=>e ?_,rfl⟩
     rw [<- h];show j=(Ev.ix a.bv[w]!).toNat;omega
   · change j<(abI a.ae.ar) at hj
     rw [yg ok hi hj] at hu
     by_cases e:j=Ev.n a.bv[i]!
     · rw [e];exact (uT ok hi (by omega) (by omega)).symm
     rw [ut e] at hu
     exact (ok.Hm hu (by omega)).symm
   · change j<(abI a.ae.ar) at hj
     rw [yg ok hi hj] at hu
     by_cases e:j=Ev.n a.bv[i]!
     · rw [e];exact uT ok hi (by omega) IC
     rw [ut e] at hu
     exact ok.Hm hu (by omega)
   · rintro e (rfl|⟨w,hw,_,rfl⟩)
     · exact ok.ev _ (by omega)
     exact ok.ev w (by omega)
   rintro e f (rfl|⟨v,hv,hvi,rfl⟩) (rfl|⟨w,hw,IC,rfl⟩) he
   · rfl
   · rw [ok.yf (by omega) (by omega) he]
   · rw [ok.yf (by omega) (by omega) he]
   rw [ok.yf (by omega) (by omega) he]
 rw [ut df]
 have hie:i=abI a.bv-1:=by omega
 refine abb (Hs ok hi) (fun e=> ∃w,w<abI a.bv-1/\a.bv[w]! =e) (by omega) (by rw [ww];exact ok.wl) hl (fun w hw=>?_) (fun e=>aar) (fun k k0 hk=>ok.ord k k0 (by omega)) (fun j hj hu=>?_) un ?_ ?_
 · obtain ⟨c1,c2,c3,c4,c5⟩:=ok.back (show w<(abI a.bv) by omega)
   refine ⟨c1,by rw [ww,ok.wl];exact c2,?_⟩;rw [ba,ut (fun h=>uT ok hi (show w<(abI a.bv) by omega) (by omega) h.1)];exact c5
 · change j<(abI a.ae.ar) at hj
   rw [yg ok hi hj] at hu
   by_cases e:j=Ev.n a.bv[i]!
   · rw [rc e] at hu;cases hu
   rw [ut e] at hu
   obtain ⟨w,hw,e1,e2⟩:=ok.DU hj hu;refine ⟨a.bv[w]!,⟨w,?_,rfl⟩,e1,e2⟩;have:w≠i:=fun h=>e (by rw [<- h];show j=(Ev.ix a.bv[w]!).toNat;omega)
   omega
 · rintro e ⟨w,hw,rfl⟩
   exact ok.ev w (by omega)
 rintro e f ⟨v,hv,rfl⟩ ⟨w,hw,rfl⟩ he
 rw [ok.yf (by omega) (by omega) he]
theorem FT (e:Ev):e∈(dO a i).bv↔(e∈a.bv/\e≠a.bv[i]!):=by
 have other: ∀w,w<abI a.bv->(a.bv[w]!≠a.bv[i]!↔w≠i):=fun w hw=>⟨fun h k=>h (by rw [k]),fun h k=>h (ok.inj hw hi (by rw [k]))⟩
 unfold dO
 by_cases df:i<abI a.bv-1
 · rw [rc df]
   have st:=C' ok hi df;show e∈(_:List Ev).take _↔_;rw [zw (by rw [st.hl];omega)];refine (st.mem e).trans ?_;constructor
   · rintro (h|⟨w,hw,IC,rfl⟩)
     · rw [h];exact ⟨aN (by omega),(other _ (by omega)).2 (by omega)⟩
     exact ⟨aN (by omega),(other _ (by omega)).2 IC⟩
   rintro ⟨h,dE⟩
   obtain ⟨w,hw,rfl⟩:=aP.1 h
   by_cases c:w=abI a.bv-1
   · left;rw [c]
   exact .inr ⟨w,by omega,(other w hw).1 dE,rfl⟩
 rw [ut df]
 show e∈a.bv.take _↔_;rw [zw (by omega)];constructor
 · rintro ⟨w,hw,rfl⟩
   exact ⟨aN (by omega),(other _ (by omega)).2 (by omega)⟩
 rintro ⟨h,dE⟩
 obtain ⟨w,hw,rfl⟩:=aP.1 h;have:=(other w hw).1 dE;exact ⟨w,by omega,rfl⟩
theorem CC:py a (i:Int)=abK (dO a i,a.bv[i]!,0):=by
 have bd:=ok.bd;obtain ⟨b1,b2,b3,b4,b5⟩:=ok.back hi;obtain ⟨c1,c2,c3,c4,c5⟩:=ok.back (show (abI a.bv)-1<(abI a.bv) by omega);unfold py;have e1:ai .i64 (((abI a.bv):Int) -1)=((abI a.bv-1:Nat):Int):=we (by omega) (by omega);have g1:aG a.aj (a.bv[i]!).2.2.2.1=abK a.aj[(a.bv[i]!).2.2.2.1.toNat]!:=c6 b1 (by rw [ok.wl];exact b2);have ws:bO a.aj (a.bv[i]!).2.2.2.1 (-1)=a.aj.set (Ev.n a.bv[i]!) (-1):=rfl;simp only [aq a.bv i hi,ao,IB ok.so (ok.handle hi).1,show ((0:Int) !=0)=abW from rfl,pp,bj (show (abI a.bv)<=1048576 by omega),bj (show (abI a.aj)<=1048576 by omega),ay,e1,aq a.bv (abI a.bv-1) (by omega),kF a.bv (abI a.bv-1) (by omega),g1,ws,Do];unfold dO
 by_cases df:i<abI a.bv-1
 · rw [aH (by omega),rc df]
   have se:=MF (cap:=abI a.bv) (u:=(fc a.ae (a.bv[i]!).2.2.2).ar) (us:=(fc a.ae (a.bv[i]!).2.2.2).be) (fr:=(fc a.ae (a.bv[i]!).2.2.2).bi) (ok.ev (abI a.bv-1) (by omega)) (show 0<=Ev.ix a.bv[abI a.bv-1]! from c1) (Hr ok hi) df (show Ev.ix a.bv[abI a.bv-1]!<_ by rw [ww,ok.wl];exact c2);rw [se];rfl
 rw [aD (by omega),ut df]
 rfl
theorem uU (fit:yd a) {h:Int×Int} (hh:(a.bv[i]!).2.2.2=h):je a h=abK (dO a i,a.bv[i]!,0):=by unfold je;rw [KE ok fit hi hh];simp only [ao,show ((0:Int) !=0)=abW from rfl,pp,CC ok hi]
theorem uV {h:Int×Int} (hh:(a.bv[i]!).2.2.2=h):kE a h=abK (dO a i):=by
 have bd:=ok.bd;subst hh;obtain ⟨b1,b2,b3,b4,b5⟩:=ok.back hi;obtain ⟨c1,c2,c3,c4,c5⟩:=ok.back (show (abI a.bv)-1<(abI a.bv) by omega);unfold kE;rw [pI ok];have e1:ai .i64 (((abI a.bv):Int) -1)=((abI a.bv-1:Nat):Int):=we (by omega) (by omega);have g1:aG a.aj (a.bv[i]!).2.2.2.1=abK (i:Int):=by rw [c6 (l:=a.aj) b1 (by rw [ok.wl];exact b2)];exact congrArg abK b5
 have gv:=FD ok.so (ok.handle hi).1;simp only [ao,g1,ay,e1,Do];unfold dO
 by_cases df:i<abI a.bv-1
 · rw [dN (show (i:Int)≠((abI a.bv-1:Nat):Int) by omega),rc df]
   have dE:(abI a.bv)-1≠i:=by omega
   have nn:Ev.n a.bv[abI a.bv-1]!≠Ev.n a.bv[i]!:=uT ok hi (by omega) dE;have sw:=Bq (n:=abI a.bv) (x:=a.bv[i]!) (u:=a.ae.ar) (us:=a.ae.be) (fr:=a.ae.bi) (H:=a.bv) (W:=a.aj) hi (show (abI a.bv)-1<(abI a.bv) by omega) dE rfl b1 (by rw [ok.wl];exact b2) c1 (by rw [ok.wl];exact c2);rw [eN (l:=a.bv) rfl,eN (l:=a.aj) b5] at sw;have hs:(a.bv.set i a.bv[abI a.bv-1]!).set (abI a.bv-1) a.bv[i]! =(a.bv.set (abI a.bv-1) a.bv[i]!).set i a.bv[abI a.bv-1]!:=abr _ _ (by omega);have ws:bO ((a.aj.set (Ev.n a.bv[abI a.bv-1]!) (i:Int)).set (Ev.n a.bv[i]!) ((abI a.bv-1:Nat):Int)) (a.bv[i]!).2.2.2.1 (-1)=(a.aj.set (Ev.n a.bv[i]!) (-1)).set (Ev.n a.bv[abI a.bv-1]!) (i:Int):=by
    show ((a.aj.set (Ev.n a.bv[abI a.bv-1]!) (i:Int)).set (Ev.n a.bv[i]!) ((abI a.bv-1:Nat):Int)).set (Ev.n a.bv[i]!) (-1)=_;rw [List.set_set,abr _ _ nn]
   have g2:aG ((a.aj.set (Ev.n a.bv[abI a.bv-1]!) (i:Int)).set (Ev.n a.bv[i]!) ((abI a.bv-1:Nat):Int)) (a.bv[i]!).2.2.2.1=abK _:=c6 b1 (by rw [ww,ww,ok.wl];exact b2);have cells:lD (abI a.bv-1) (a.bv.set (abI a.bv-1) a.bv[i]!) (a.aj.set (Ev.n a.bv[i]!) (-1)):=by refine ⟨by rw [ww];omega,by rw [ww];omega,fun w hw=>?_⟩;rw [ba,ut (by omega)];exact (Hr ok hi).ev w hw
   have x1:Ev.ix a.bv[abI a.bv-1]!<(a.aj.set (Ev.n a.bv[i]!) (-1)).length:=by rw [ww,ok.wl];exact c2
   have hx:=ok.ev (abI a.bv-1) (by omega);have gv':qh (aU.mk a.ae.ar a.ae.be a.ae.bi) (a.bv[i]!).2.2.2=abK (fc a.ae (a.bv[i]!).2.2.2):=gv;have tk:(a.bv.set (abI a.bv-1) a.bv[i]!).take (abI a.bv-1)=a.bv.take (abI a.bv-1):=by rw [ti];exact aap (by rw [IR];omega)
   have U:oh ((fc a.ae (a.bv[i]!).2.2.2).ar,(fc a.ae (a.bv[i]!).2.2.2).be,(fc a.ae (a.bv[i]!).2.2.2).bi,abI a.bv-1,((a.bv.set (abI a.bv-1) a.bv[i]!).set i a.bv[abI a.bv-1]!).length,(i:Int),(a.bv.set (abI a.bv-1) a.bv[i]!).set i a.bv[abI a.bv-1]!,(a.aj.set (Ev.n a.bv[i]!) (-1)).set (Ev.n a.bv[abI a.bv-1]!) (i:Int))=
    abK (((iw a.bv[abI a.bv-1]! i (a.bv.set (abI a.bv-1) a.bv[i]!) (a.aj.set (Ev.n a.bv[i]!) (-1))).1:Int),(iw a.bv[abI a.bv-1]! i (a.bv.set (abI a.bv-1) a.bv[i]!) (a.aj.set (Ev.n a.bv[i]!) (-1))).2.1.set (iw a.bv[abI a.bv-1]! i (a.bv.set (abI a.bv-1) a.bv[i]!) (a.aj.set (Ev.n a.bv[i]!) (-1))).1 a.bv[abI a.bv-1]!,(iw a.bv[abI a.bv-1]! i (a.bv.set (abI a.bv-1) a.bv[i]!) (a.aj.set (Ev.n a.bv[i]!) (-1))).2.2.set (Ev.n a.bv[abI a.bv-1]!) ((iw a.bv[abI a.bv-1]! i (a.bv.set (abI a.bv-1) a.bv[i]!) (a.aj.set (Ev.n a.bv[i]!) (-1))).1:Int)):=by
    unfold oh;exact Ta (n:=abI a.bv-1) (c0:=((fc a.ae (a.bv[i]!).2.2.2).ar,(fc a.ae (a.bv[i]!).2.2.2).be,(fc a.ae (a.bv[i]!).2.2.2).bi,abI a.bv-1,((a.bv.set (abI a.bv-1) a.bv[i]!).set i a.bv[abI a.bv-1]!).length,(i:Int),(a.bv.set (abI a.bv-1) a.bv[i]!).set i a.bv[abI a.bv-1]!,(a.aj.set (Ev.n a.bv[i]!) (-1)).set (Ev.n a.bv[abI a.bv-1]!) (i:Int))) hx c1 i _ _ cells df x1 ww ww
   have ul:=Ti (x:=a.bv[abI a.bv-1]!) i (a.bv.set (abI a.bv-1) a.bv[i]!) (a.aj.set (Ev.n a.bv[i]!) (-1));have un:=Ol (x:=a.bv[abI a.bv-1]!) i (a.bv.set (abI a.bv-1) a.bv[i]!) (a.aj.set (Ev.n a.bv[i]!) (-1));have uc:=fun w hw=>yc (x:=a.bv[abI a.bv-1]!) cells df (i:=i) rfl w hw
   have MJ:lD (abI a.bv-1) (iw a.bv[abI a.bv-1]! i (a.bv.set (abI a.bv-1) a.bv[i]!) (a.aj.set (Ev.n a.bv[i]!) (-1))).2.1 (iw a.bv[abI a.bv-1]! i (a.bv.set (abI a.bv-1) a.bv[i]!) (a.aj.set (Ev.n a.bv[i]!) (-1))).2.2:=by refine ⟨by rw [un.1,ww];omega,by rw [un.1,ww];omega,fun w hw=>?_⟩;rw [un.2];exact uc w hw
   have D:lR ((fc a.ae (a.bv[i]!).2.2.2).ar,(fc a.ae (a.bv[i]!).2.2.2).be,(fc a.ae (a.bv[i]!).2.2.2).bi,abI a.bv-1,((a.bv.set (abI a.bv-1) a.bv[i]!).set i a.bv[abI a.bv-1]!).length,((iw a.bv[abI a.bv-1]! i (a.bv.set (abI a.bv-1) a.bv[i]!) (a.aj.set (Ev.n a.bv[i]!) (-1))).1:Int),(iw a.bv[abI a.bv-1]! i (a.bv.set (abI a.bv-1) a.bv[i]!) (a.aj.set (Ev.n a.bv[i]!) (-1))).2.1.set (iw a.bv[abI a.bv-1]! i (a.bv.set (abI a.bv-1) a.bv[i]!) (a.aj.set (Ev.n a.bv[i]!) (-1))).1 a.bv[abI a.bv-1]!,(iw a.bv[abI a.bv-1]! i (a.bv.set (abI a.bv-1) a.bv[i]!) (a.aj.set (Ev.n a.bv[i]!) (-1))).2.2.set (Ev.n a.bv[abI a.bv-1]!) ((iw a.bv[abI a.bv-1]! i (a.bv.set (abI a.bv-1) a.bv[i]!) (a.aj.set (Ev.n a.bv[i]!) (-1))).1:Int))=
    abK (bZ (abI a.bv-1) a.bv[abI a.bv-1]! i (a.bv.set (abI a.bv-1) a.bv[i]!) (a.aj.set (Ev.n a.bv[i]!) (-1))):=by
    unfold lR
    exact Kz (n:=abI a.bv-1) (c0:=((fc a.ae (a.bv[i]!).2.2.2).ar,(fc a.ae (a.bv[i]!).2.2.2).be,(fc a.ae (a.bv[i]!).2.2.2).bi,abI a.bv-1,((a.bv.set (abI a.bv-1) a.bv[i]!).set i a.bv[abI a.bv-1]!).length,((iw a.bv[abI a.bv-1]! i (a.bv.set (abI a.bv-1) a.bv[i]!) (a.aj.set (Ev.n a.bv[i]!) (-1))).1:Int),(iw a.bv[abI a.bv-1]! i (a.bv.set (abI a.bv-1) a.bv[i]!) (a.aj.set (Ev.n a.bv[i]!) (-1))).2.1.set (iw a.bv[abI a.bv-1]! i (a.bv.set (abI a.bv-1) a.bv[i]!) (a.aj.set (Ev.n a.bv[i]!) (-1))).1 a.bv[abI a.bv-1]!,(iw a.bv[abI a.bv-1]! i (a.bv.set (abI a.bv-1) a.bv[i]!) (a.aj.set (Ev.n a.bv[i]!) (-1))).2.2.set (Ev.n a.bv[abI a.bv-1]!) ((iw a.bv[abI a.bv-1]! i (a.bv.set (abI a.bv-1) a.bv[i]!) (a.aj.set (Ev.n a.bv[i]!) (-1))).1:Int))) hx c1 (abI a.bv) (iw a.bv[abI a.bv-1]! i (a.bv.set (abI a.bv-1) a.bv[i]!) (a.aj.set (Ev.n a.bv[i]!) (-1))).1 (iw a.bv[abI a.bv-1]! i (a.bv.set (abI a.bv-1) a.bv[i]!) (a.aj.set (Ev.n a.bv[i]!) (-1))).2.1 (iw a.bv[abI a.bv-1]! i (a.bv.set (abI a.bv-1) a.bv[i]!) (a.aj.set (Ev.n a.bv[i]!) (-1))).2.2 (by omega) MJ (by omega) (by rw [un.2];exact x1) ww ww
   have st:=Bt (n:=(abI a.bv-1)) (x:=a.bv[abI a.bv-1]!) (i:=i) (H:=(a.bv.set (abI a.bv-1) a.bv[i]!)) (W:=(a.aj.set (Ev.n a.bv[i]!) (-1))) df;have st2:=Bt (n:=(abI a.bv-1)) (x:=a.bv[abI a.bv-1]!) (i:=i) (H:=a.bv) (W:=(a.aj.set (Ev.n a.bv[i]!) (-1))) df;rw [tk,st2] at st;injection st with st1 L1;simp only [lw,sw,ao,kF _ (abI a.bv-1) (show (abI a.bv)-1<=((a.bv.set (abI a.bv-1) a.bv[i]!).set i a.bv[abI a.bv-1]!).length by rw [ww,ww];omega),g2,gv',ws,hs,U,D,<- st1,<- L1]
 rw [bV (show (i:Int)=((abI a.bv-1:Nat):Int) by omega),ut df]
 have ws:bO a.aj (a.bv[i]!).2.2.2.1 (-1)=a.aj.set (Ev.n a.bv[i]!) (-1):=rfl;simp only [pp,kF a.bv (abI a.bv-1) (by omega),ao,gv,ws]
end
abbrev qi:=Int×Int×Int
theorem dW.fit {a:aJ} (ok:dW a):yd a:=by have bd:=ok.bd;have:=ok.so.fl;have:=ok.so.n2;exact ⟨by omega,by omega,by omega,fun w hw=>(ok.ev w hw).2.1⟩
theorem DV (l:List qi) (id:Int) (hl:(abI l)<=1000000) (hs: ∀i j,i<j->j<abI l->(l[i]!).1<(l[j]!).1):
 (∀k,k<abI l->(l[k]!).1=id->aR l id ()=abK ((k:Int),abQ))/\
 ((∀k,k<abI l->(l[k]!).1≠id)-> ∃m,m<=abI l/\(∀i,i<m->(l[i]!).1<id)/\(∀i,m<=i->i<abI l->id<(l[i]!).1)/\aR l id ()=abK ((m:Int),abW)):=by
 obtain ⟨m,m1,m2,m3⟩:=Kw (fun i=>(l[i]!).1) id (abI l) hs;have run:aR l id ()=aB aO (l,id,((abI l):Int),(m:Int),(m:Int)):=by
  unfold aR;refine yO (body:=aO) (fun lo hi=>(l,id,((abI l):Int),(lo:Int),(hi:Int))) (abI l) m (fun i=>(l[i]!).1<id) (fun lo hi h1 h2=>?_) m2 (fun i h1 h2 h3=>by have:=m3 i h1 h2;omega) (abI l) 0 (abI l) (by omega) (by omega) m1 (EQ _);have e1:abY ((lo:Int)<(hi:Int))=abQ:=aH (by omega);have hh:=Oc (a:=lo) (b:=hi) (by omega) (by omega);unfold aO pT;simp only [e1,lw,hh,aq l ((lo+hi) / 2) (by omega),iu,ao,aV (show (lo+hi) / 2<1000000000 by omega)];constructor
  · intro h
    have:abY (iH (l[(lo+hi) / 2]!).1 id<0)=abQ:=by rcases cN (l[(lo+hi) / 2]!).1 id with ⟨a,e⟩|⟨a,e⟩|⟨a,e⟩<;>rw [e]<;>first|rfl|omega
    rw [this];rfl
  intro h
  have:abY (iH (l[(lo+hi) / 2]!).1 id<0)=abW:=by rcases cN (l[(lo+hi) / 2]!).1 id with ⟨a,e⟩|⟨a,e⟩|⟨a,e⟩<;>rw [e]<;>first|rfl|omega
  rw [this];rfl
 have fin:aB aO (l,id,((abI l):Int),(m:Int),(m:Int))=if m<abI l/\(l[m]!).1=id then abK ((m:Int),abQ) else abK ((m:Int),abW):=by
  have e1:abY ((m:Int)<(m:Int))=abW:=aD (by omega)
  by_cases hm:m<abI l
  · have e2:abY ((m:Int)<((abI l):Int))=abQ:=aH (by omega)
    have body:aO (l,id,((abI l):Int),(m:Int),(m:Int))=abK (.done ((m:Int),iH (l[m]!).1 id==0)):=by unfold aO pT;simp only [e1,e2,lw,pp,aq l m hm,iu,ao]
    rw [aC body];rcases cN (l[m]!).1 id with ⟨a,e⟩|⟨a,e⟩|⟨a,e⟩
    · rw [e,ut (fun h=>by omega)];rfl
    · rw [e,rc ⟨hm,a⟩];rfl
    rw [e,ut (fun h=>by omega)];rfl
  have e2:abY ((m:Int)<((abI l):Int))=abW:=aD (by omega)
  have body:aO (l,id,((abI l):Int),(m:Int),(m:Int))=abK (.done ((m:Int),abW)):=by unfold aO;simp only [e1,e2,pp]
  rw [aC body,ut (fun h=>hm h.1)]
 rw [run,fin];constructor
 · intro k hk he
   have hkm:k=m:=by
    rcases aam k m with h|h|h
    · have:=m2 k h;omega
    · exact h
    have h1:=m3 m (EQ _) (by omega)
    have h2:=hs m k h hk;omega
   subst hkm;rw [rc ⟨hk,he⟩]
 intro h
 refine ⟨m,m1,m2,fun i h1 h2=>?_,?_⟩
 · have:=m3 i h1 h2
   have:=h i h2;omega
 rw [ut (fun k=>h m k.1 k.2)]
theorem agC:cL=aR:=rfl
theorem Tk:cH=aR:=rfl
theorem ZL:cI=aR:=rfl
theorem sj {α:Type} (l:List α) (k:Nat):l.eraseIdx k=l.take k++l.drop (k+1):=List.eraseIdx_eq_take_drop_succ l k
theorem Da (l:List qi) (k:Nat) (hk:k<abI l): ∃L:List qi,eV ((k:Int),((k+1:Nat):Int),l)=abK (abI l-1,abI l,L)/\L.take (abI l-1)=l.eraseIdx k:=by
 unfold eV;have e1:abY ((0:Int)<=(k:Int))=abQ:=aH (by omega);have e2:abY ((k:Int)<=((k+1:Nat):Int))=abQ:=aH (by omega);have e3:abY (((k+1:Nat):Int)<=((abI l):Int))=abQ:=aH (by omega);have e4:abY (((abI l):Int)<=((abI l):Int))=abQ:=aH (by omega);have e5:((k:Int)==((k+1:Nat):Int))=abW:=eD (by omega);have e6:abY ((0:Int)<=((k+1:Nat):Int))=abQ:=aH (by omega);have e7:abY ((k:Int)<=((abI l):Int))=abQ:=aH (by omega);have dr:(l.drop (k+1)).take (abI l- (k+1))=l.drop (k+1):=NE (by rw [aaq];exact EQ _);have dl:(l.drop (k+1)).length=abI l- (k+1):=aaq;simp only [ay,e1,e2,e3,e4,e5,e6,e7,abt,lw,pp,kF l k (by omega),ao,Do,Nat.zero_add,dr,dl,aa6,Bool.and_true]
 by_cases h:k+1=abI l
 · have em:(l.drop (k+1)).isEmpty=abQ:=by rw [ab1,aak];omega
   have n1:abz (abI l-k) 0=abW:=by
    cases hb:abz (abI l-k) 0 with
    |false=>rfl
    |true=>have:=aav hb;omega
   have n2:Nat.ble (k+(abI l-k)) (abI l)=abQ:=aai (by omega);have ll:(fa l k (abj (abI l-k) ((0:Int),(0:Int),(0:Int)))).length=(abI l):=by unfold fa;simp;omega
   simp only [em,lw,n1,pp,n2,ll,beq_self_eq_true];refine ⟨_,by rw [show k=abI l-1 by omega],?_⟩;rw [sj,show (abI l)-1=k by omega];unfold fa;rw [aa9,PP (by rw [IR];omega),abo,abE];rw [aat (by omega),abe]
 have em:(l.drop (k+1)).isEmpty=abW:=by
  cases hb:(l.drop (k+1)).isEmpty with
  |false=>rfl
  |true=>rw [ab1,aak] at hb;omega
 have n1:Nat.ble (k+(abI l- (k+1))) (abI l)=abQ:=aai (by omega);have n2:abY ((0:Int)<=((k+(abI l- (k+1)):Nat):Int))=abQ:=aH (by omega);have n3:abY (((k+(abI l- (k+1)):Nat):Int)<=((abI l):Int))=abQ:=aH (by omega);have n4:abz (abI l- (k+(abI l- (k+1)))) 0=abW:=by
  cases hb:abz (abI l- (k+(abI l- (k+1)))) 0 with
  |false=>rfl
  |true=>have:=aav hb;omega
 have l1:(fa l k (l.drop (k+1))).length=(abI l):=by unfold fa;simp;omega
 have n5:Nat.ble (k+(abI l- (k+1))+(abI l- (k+(abI l- (k+1))))) (abI l)=abQ:=aai (by omega);have l2:(fa (fa l k (l.drop (k+1))) (k+(abI l- (k+1))) (abj (abI l- (k+(abI l- (k+1)))) ((0:Int),(0:Int),(0:Int)))).length=(abI l):=by unfold fa;simp;omega
 simp only [em,pp,n1,lw,n2,n3,abt,n4,l1,n5,l2,beq_self_eq_true];refine ⟨_,by rw [show k+(abI l- (k+1))=abI l-1 by omega],?_⟩;rw [sj];have:k+(abI l- (k+1))=abI l-1:=by omega
 unfold fa;rw [aa9,PP (by simp;omega),abo,abE,aa9];rw [show (l.take k++(l.drop (k+1)++l.drop (k+(l.drop (k+1)).length)))=(l.take k++l.drop (k+1))++l.drop (k+(l.drop (k+1)).length) by rw [aa9]];rw [PP (by simp;omega),NE (by simp;omega)]
theorem MK:gQ=eV:=rfl
theorem FU {α:Type} [Inhabited α] {l:List α} {k i:Nat}:(l.eraseIdx k)[i]! =if i<k then l[i]! else l[i+1]!:=by
 rw [sj]
 by_cases hk:k<abI l
 · by_cases h:i<k
   · rw [rc h,dQ (by rw [IR];omega),jH h]
   rw [ut h,fA (by rw [IR];omega),rC,IR]
   congr 1;omega
 have e1:l.take k=l:=NE (by omega)
 have e2:l.drop (k+1)=[]:=aat (by omega);rw [e1,e2,abe];split
 · rfl
 rw [getElem!_neg l i (by omega),getElem!_neg l (i+1) (by omega)]
def eW (x:Int×Int):Prop:=0<=x.1/\x.1<=65535/\0<=x.2/\x.2<=65535/\x.1≠x.2
theorem zx (x:Int×Int):rR x=abK (abY (eW x)):=by
 obtain ⟨a,b⟩:=x;unfold rR;dsimp only
 by_cases h1:0<=a
 · by_cases h3:0<=b
   · have e1:abY (0<=if b<a then b else a)=abQ:=aH (by split<;>omega)
     rw [e1]
     by_cases h2:a<=65535
     · by_cases h4:b<=65535
       · have e2:abY ((if b>a then b else a)<=65535)=abQ:=aH (by split<;>omega)
         rw [e2]
         by_cases h5:a=b
         · rw [bV h5,aD (p:=eW (a,b)) (fun h=>h.2.2.2.2 h5)];rfl
         rw [dN h5,aH (p:=eW (a,b)) ⟨h1,h2,h3,h4,h5⟩];rfl
       have e2:abY ((if b>a then b else a)<=65535)=abW:=aD (by split<;>omega)
       rw [e2,aD (p:=eW (a,b)) (fun h=>h4 h.2.2.2.1)];rfl
     have e2:abY ((if b>a then b else a)<=65535)=abW:=aD (by split<;>omega)
     rw [e2,aD (p:=eW (a,b)) (fun h=>h2 h.2.1)];rfl
   have e1:abY (0<=if b<a then b else a)=abW:=aD (by split<;>omega)
   rw [e1,aD (p:=eW (a,b)) (fun h=>h3 h.2.2.1)];rfl
 have e1:abY (0<=if b<a then b else a)=abW:=aD (by split<;>omega)
 rw [e1,aD (p:=eW (a,b)) (fun h=>h1 h.1)];rfl
theorem zy (x:Int×Int):rV x=abK (abY (eW x)):=by
 obtain ⟨a,b⟩:=x;unfold rV;dsimp only
 by_cases h1:0<=a
 · by_cases h2:a<=65535
   · by_cases h3:0<=b
     · by_cases h4:b<=65535
       · by_cases h5:a=b
         · rw [bV h5,aH h1,aH h2,aH h3,aH h4,aD (p:=eW (a,b)) (fun h=>h.2.2.2.2 h5)];rfl
         rw [dN h5,aH h1,aH h2,aH h3,aH h4,aH (p:=eW (a,b)) ⟨h1,h2,h3,h4,h5⟩];rfl
       rw [aH h1,aH h2,aH h3,aD h4,aD (p:=eW (a,b)) (fun h=>h4 h.2.2.2.1)];rfl
     rw [aH h1,aH h2,aD h3,aD (p:=eW (a,b)) (fun h=>h3 h.2.2.1)];rfl
   rw [aH h1,aD h2,aD (p:=eW (a,b)) (fun h=>h2 h.2.1)];rfl
 rw [aD h1,aD (p:=eW (a,b)) (fun h=>h1 h.1)];rfl
structure dU (c:bc):Prop where
 len:(abI c.ce)<=200
 n0:0<=c.aL
 n1:c.aL<=1000000
 cv: ∀i,i<abI c.ce->eW (c.ce[i]!).2
 nr: ∀i,i<abI c.ce->0<=(c.ce[i]!).1/\(c.ce[i]!).1<c.aL
 up: ∀i j,i<j->j<abI c.ce->(c.ce[i]!).1<(c.ce[j]!).1
 nd: ∀i j,i<j->j<abI c.ce->(c.ce[i]!).2≠(c.ce[j]!).2
def yh (l:List qi) (i:Nat):Int:=if i=0 then -1 else (l[i-1]!).1
def ML (c:bc) (i:Nat):Prop:=eW (c.ce[i]!).2/\(∀j,j<i->(c.ce[j]!).2≠(c.ce[i]!).2)/\yh c.ce i<(c.ce[i]!).1/\(c.ce[i]!).1<c.aL
theorem dU.iff {c:bc} (h1:(abI c.ce)<=200) (h2:0<=c.aL) (h3:c.aL<=1000000):dU c↔ ∀i,i<abI c.ce->ML c i:=by
 constructor
 · intro ok i hi
   refine ⟨ok.cv i hi,fun j hj=>ok.nd j i hj hi,?_,(ok.nr i hi).2⟩;unfold yh;split
   · have:=(ok.nr i hi).1;omega
   exact ok.up (i-1) i (by omega) hi
 intro h
 have low: ∀i,i<abI c.ce->0<=(c.ce[i]!).1:=by
  intro i
  induction i with
  |zero=>intro hi;have:=(h 0 hi).2.2.1;unfold yh at this;rw [rc rfl] at this;omega
  |succ i ih=>intro hi;have h1:=(h (i+1) hi).2.2.1;unfold yh at h1;rw [ut (by omega),show i+1-1=i by omega] at h1;have:=ih (by omega);omega
 have up: ∀i j,i<j->j<abI c.ce->(c.ce[i]!).1<(c.ce[j]!).1:=by
  intro i j
  induction j with
  |zero=>intro h;omega
  |succ j ih=>
   intro k9 hj;have h1:=(h (j+1) hj).2.2.1;unfold yh at h1;rw [ut (by omega),show j+1-1=j by omega] at h1
   by_cases e:i=j
   · subst e;exact h1
   have:=ih (by omega) (by omega)
   omega
 exact ⟨h1,h2,h3,fun i hi=>(h i hi).1,fun i hi=>⟨low i hi,(h i hi).2.2.2⟩,up,fun i j k9 hj=>(h j hj).2.1 i k9⟩
theorem FV (l:List qi) (k:Nat) (a b:Int):nL [a,b] ((l.take k).map fun x=>[x.2.1,x.2.2])=abQ:=by unfold nL;rw [List.all_eq_true];intro x hx;obtain ⟨y,hy,rfl⟩:=aa2.1 hx;rfl
theorem FW (l:List qi) (k:Nat) (x:Int×Int):Dr ((l.take k).map fun y=>[y.2.1,y.2.2]) [x.1,x.2]=abY (∃j,j<k/\j<abI l/\(l[j]!).2=x):=by
 unfold Dr;rw [aau,List.any_eq_true,decide_eq_true_iff];constructor
 · rintro ⟨y,hy,he⟩
   obtain ⟨z,hz,rfl⟩:=aa2.1 hy;obtain ⟨j,h1,h2,rfl⟩:=ck.1 hz;have:[x.1,x.2]=[(l[j]!).2.1,(l[j]!).2.2]:=by simpa using he
   injection this with e1 e2;injection e2 with e2 _;exact ⟨j,h1,h2,UV e1.symm e2.symm⟩
 rintro ⟨j,h1,h2,h3⟩
 refine ⟨[(l[j]!).2.1,(l[j]!).2.2],aa2.2 ⟨l[j]!,ck.2 ⟨j,h1,h2,rfl⟩,rfl⟩,?_⟩;rw [h3];simp
theorem tZ (c:bc):oM c=abK (if dU c then 0 else 8):=by
 unfold oM;simp only [ay]
 by_cases h1:200<abI c.ce
 · rw [aH (show (200:Int)<((abI c.ce):Int) by omega),ut (fun h=>by have:=h.len;omega)];rfl
 rw [aD (show¬(200:Int)<((abI c.ce):Int) by omega)]
 by_cases h2:c.aL<0
 · rw [aH h2,ut (fun h=>by have:=h.n0;omega)];rfl
 rw [aD h2]
 by_cases h3:1000000<c.aL
 · rw [aH h3,ut (fun h=>by have:=h.n1;omega)];rfl
 rw [aD h3];simp only [pp];have key:=cP (body:=pq) (fun i=>(yh c.ce i,c.ce,((abI c.ce):Int),(i:Int),c.aL,c.ce,(c.ce.take i).map fun x=>[x.2.1,x.2.2])) (abI c.ce) (fun i=> ¬ML c i) (r:=8) (e:=0) (fun i hi=>by
  have e1:abY ((i:Int)<((abI c.ce):Int))=abQ:=aH (by omega);have has:JM ((c.ce.take i).map fun x=>[x.2.1,x.2.2]) [(c.ce[i]!).2.1,(c.ce[i]!).2.2]=abK (abY (∃j,j<i/\j<abI c.ce/\(c.ce[j]!).2=(c.ce[i]!).2)):=by unfold JM;rw [FV,FW];rfl
  have nx:(c.ce.take (i+1)).map (fun x=>[x.2.1,x.2.2])=((c.ce.take i).map fun x=>[x.2.1,x.2.2])++[[(c.ce[i]!).2.1,(c.ce[i]!).2.2]]:=by rw [iv hi,List.map_append];rfl
  have ln:yh c.ce (i+1)=(c.ce[i]!).1:=by unfold yh;rw [ut (by omega),show i+1-1=i by omega]
  unfold pq;simp only [e1,lw,aq c.ce i hi,ao,zx,has,nx,ln,aV (show i<1000000000 by omega)];unfold ML
  by_cases b1:eW (c.ce[i]!).2
  case neg=>rw [aD b1];exact ⟨fun _=>rfl,fun h=>absurd (v6.1 h).1 b1⟩
  rw [aH b1]
  by_cases b2: ∃j,j<i/\j<abI c.ce/\(c.ce[j]!).2=(c.ce[i]!).2
  · rw [aH b2]
    refine ⟨fun _=>rfl,fun h=>?_⟩;obtain ⟨j,j1,j2,j3⟩:=b2;exact absurd j3 ((v6.1 h).2.1 j j1)
  rw [aD b2];have b2': ∀j,j<i->(c.ce[j]!).2≠(c.ce[i]!).2:=fun j hj he=>b2 ⟨j,hj,by omega,he⟩
  by_cases b3:(c.ce[i]!).1<=yh c.ce i
  · rw [aH b3]
    exact ⟨fun _=>rfl,fun h=>absurd (v6.1 h).2.2.1 (by omega)⟩
  rw [aD b3]
  by_cases b4:c.aL<=(c.ce[i]!).1
  · rw [aH b4]
    exact ⟨fun _=>rfl,fun h=>absurd (v6.1 h).2.2.2 (by omega)⟩
  rw [aD b4];have ins:JN ((c.ce.take i).map fun x=>[x.2.1,x.2.2]) [(c.ce[i]!).2.1,(c.ce[i]!).2.2]=abK (((c.ce.take i).map fun x=>[x.2.1,x.2.2])++[[(c.ce[i]!).2.1,(c.ce[i]!).2.2]]):=by unfold JN LQ;rw [FV,FW,aD b2];rfl
  rw [ins];exact ⟨fun h=>absurd ⟨b1,b2',by omega,by omega⟩ h,fun _=>rfl⟩) (by
  unfold pq;have:abY (((abI c.ce):Int)<((abI c.ce):Int))=abW:=aD (by omega);simp only [this,pp])
 have h0:yh c.ce 0= -1:=rfl;rw [h0] at key
 by_cases ok:dU c
 · rw [rc ok]
   exact key.2 fun i hi=>v6.2 ((dU.iff (by omega) (by omega) (by omega)).1 ok i hi)
 rw [ut ok]
 rw [dU.iff (by omega) (by omega) (by omega)] at ok;obtain ⟨i,h⟩:=If.1 ok;obtain ⟨hi,hx⟩:=M2.1 h;exact key.1 ⟨i,hi,hx⟩
theorem KJ (c:bc) (i:Nat) (hi:i<abI c.ce) (hl:(abI c.ce)<=200):
 ((∃j,j<i/\(c.ce[j]!).2=(c.ce[i]!).2)->aB fy ((i:Int),0,c.aL,c.ce,c.ce[i]!)=abK (.done 8))/\
 ((∀j,j<i-> ¬(c.ce[j]!).2=(c.ce[i]!).2)->aB fy ((i:Int),0,c.aL,c.ce,c.ce[i]!)=abK (.next (((i+1:Nat):Int),c.aL,c.ce))):=by
 refine cP (body:=fy) (fun j=>((i:Int),(j:Int),c.aL,c.ce,c.ce[i]!)) i (fun j=>(c.ce[j]!).2=(c.ce[i]!).2) (r:= .done 8) (e:= .next (((i+1:Nat):Int),c.aL,c.ce)) (fun j hj=>?_) ?_
 · have e1:abY ((j:Int)<(i:Int))=abQ:=aH (by omega)
   unfold fy;simp only [e1,lw,aq c.ce j (by omega),ao,aV (show j<1000000000 by omega)];generalize c.ce[j]! =x;generalize c.ce[i]! =y;constructor
   · intro h;rw [ed (congrArg abp h),ed (congrArg abq h)];rfl
   intro h
   by_cases h1:x.2.1=y.2.1
   · rw [ed h1,eD (fun h2=>h (UV h1 h2))];rfl
   rw [eD h1];rfl
 unfold fy
 have:abY ((i:Int)<(i:Int))=abW:=aD (by omega);simp only [this,pp,aV (show i<1000000000 by omega)]
theorem yi (c:bc):p8 c=abK (if dU c then 0 else 8):=by
 unfold p8;simp only [ay]
 by_cases h1:200<abI c.ce
 · rw [aH (show (200:Int)<((abI c.ce):Int) by omega),ut (fun h=>by have:=h.len;omega)];rfl
 rw [aD (show¬(200:Int)<((abI c.ce):Int) by omega)]
 by_cases h2:c.aL<0
 · rw [aH h2,ut (fun h=>by have:=h.n0;omega)];rfl
 rw [aD h2]
 by_cases h3:1000000<c.aL
 · rw [aH h3,ut (fun h=>by have:=h.n1;omega)];rfl
 rw [aD h3];simp only [pp];have key:=cP (body:=nZ) (fun i=>((i:Int),c.aL,c.ce)) (abI c.ce) (fun i=> ¬(eW (c.ce[i]!).2/\0<=(c.ce[i]!).1/\(c.ce[i]!).1<c.aL/\(0<i->(c.ce[i-1]!).1<(c.ce[i]!).1)/\ ∀j,j<i-> ¬(c.ce[j]!).2=(c.ce[i]!).2)) (r:=8) (e:=0) (fun i hi=>by
  have e1:abY ((i:Int)<((abI c.ce):Int))=abQ:=aH (by omega);have l1:=KJ c i hi (by omega);unfold nZ;simp only [ay,e1,lw,aq c.ce i hi,ao,zy]
  by_cases b1:eW (c.ce[i]!).2
  case neg=>rw [aD b1];exact ⟨fun _=>rfl,fun h=>absurd (v6.1 h).1 b1⟩
  rw [aH b1]
  by_cases b2:(c.ce[i]!).1<0
  · rw [aH b2]
    exact ⟨fun _=>rfl,fun h=>absurd (v6.1 h).2.1 (by omega)⟩
  rw [aD b2]
  by_cases b3:c.aL<=(c.ce[i]!).1
  · rw [aH b3]
    exact ⟨fun _=>rfl,fun h=>absurd (v6.1 h).2.2.1 (by omega)⟩
  rw [aD b3];simp only [AC,pp];have go:(0<i->(c.ce[i-1]!).1<(c.ce[i]!).1)->(¬(eW (c.ce[i]!).2/\0<=(c.ce[i]!).1/\(c.ce[i]!).1<c.aL/\(0<i->(c.ce[i-1]!).1<(c.ce[i]!).1)/\ ∀j,j<i-> ¬(c.ce[j]!).2=(c.ce[i]!).2)->aB fy ((i:Int),0,c.aL,c.ce,c.ce[i]!)=abK (.done 8))/\
   (¬¬(eW (c.ce[i]!).2/\0<=(c.ce[i]!).1/\(c.ce[i]!).1<c.aL/\(0<i->(c.ce[i-1]!).1<(c.ce[i]!).1)/\ ∀j,j<i-> ¬(c.ce[j]!).2=(c.ce[i]!).2)->aB fy ((i:Int),0,c.aL,c.ce,c.ce[i]!)=abK (.next (((i+1:Nat):Int),c.aL,c.ce))):=by
   intro hp;constructor
   · intro h
     refine l1.1 (Classical.byContradiction fun hx=>h ⟨b1,by omega,by omega,hp,fun j hj he=>hx ⟨j,hj,he⟩⟩)
   intro h
   exact l1.2 (v6.1 h).2.2.2.2
  by_cases b4:0<i
  · have f1:abY ((0:Int)<(i:Int))=abQ:=aH (by omega)
    simp only [f1,lw,we (show i<1000000000 by omega) b4,aq c.ce (i-1) (by omega),ao]
    by_cases b5:(c.ce[i]!).1<=(c.ce[i-1]!).1
    · rw [aH b5]
      exact ⟨fun _=>rfl,fun h=>absurd ((v6.1 h).2.2.2.1 b4) (by omega)⟩
    rw [aD b5]
    exact go fun _=>by omega
  · have f1:abY ((0:Int)<(i:Int))=abW:=aD (by omega)
    rw [f1];exact go fun h=>absurd h b4) (by
  unfold nZ;have:abY (((abI c.ce):Int)<((abI c.ce):Int))=abW:=aD (by omega);simp only [ay,this,pp])
 have same:dU c↔ ∀i,i<abI c.ce->(eW (c.ce[i]!).2/\0<=(c.ce[i]!).1/\(c.ce[i]!).1<c.aL/\(0<i->(c.ce[i-1]!).1<(c.ce[i]!).1)/\ ∀j,j<i-> ¬(c.ce[j]!).2=(c.ce[i]!).2):=by
  constructor
  · intro ok i hi
    exact ⟨ok.cv i hi,(ok.nr i hi).1,(ok.nr i hi).2,fun h=>ok.up (i-1) i (by omega) hi,fun j hj=>ok.nd j i hj hi⟩
  intro h
  rw [dU.iff (by omega) (by omega) (by omega)];intro i hi;obtain ⟨a1,a2,a3,a4,a5⟩:=h i hi;refine ⟨a1,a5,?_,a3⟩;unfold yh;split
  · omega
  exact a4 (by omega)
 by_cases ok:dU c
 · rw [rc ok]
   exact key.2 fun i hi=>v6.2 (same.1 ok i hi)
 rw [ut ok]
 rw [same] at ok;obtain ⟨i,h⟩:=If.1 ok;obtain ⟨hi,hx⟩:=M2.1 h;exact key.1 ⟨i,hi,hx⟩
def rh (l:List qi) (x:Int×Int):Prop:= ∃i,i<abI l/\(l[i]!).2=x
theorem KK (l:List qi) (x:Int×Int) (hl:(abI l)<=1000000):bU l x=abK (abY (rh l x)):=by
 unfold bU fb;have key:=jS (body:=cU) (fun i=>(l,x.1,x.2,((abI l):Int),(i:Int))) (abI l) (fun i=>(l[i]!).2=x) (fun i=>(i:Int)) (e:= -1) (fun i hi=>by
  have e1:abY ((i:Int)<((abI l):Int))=abQ:=aH (by omega);unfold cU Ak;simp only [e1,lw,aq l i hi,ao,aV (show i<1000000000 by omega)];generalize l[i]! =y;constructor
  · intro h;rw [ed (congrArg abp h),ed (congrArg abq h)];rfl
  · intro h
    by_cases h1:y.2.1=x.1
    · rw [ed h1,eD (fun h2=>h (UV h1 h2))];rfl
    rw [eD h1];rfl) (by
  unfold cU;have:abY (((abI l):Int)<((abI l):Int))=abW:=aD (by omega);simp only [this,pp])
 rw [ay]
 by_cases hx:rh l x
 · obtain ⟨k,h1,h2,h3⟩:=least hx
   have:=key.1 k h1 h2 h3;rw [show ((0:Nat):Int)=0 from rfl] at this;rw [this,aH hx];simp only [ao,aH (show (0:Int)<=(k:Int) by omega)]
 have:=key.2 fun i hi he=>hx ⟨i,hi,he⟩
 rw [show ((0:Nat):Int)=0 from rfl] at this;rw [this,aD hx];rfl
theorem CD:dF=bU:=rfl
theorem wz (c:bc) (x:Int×Int) (hl:(abI c.ce)<=1000000):rB c x=abK (abY (rh c.ce x)):=by
 unfold rB;have key:=cP (body:=q9) (fun i=>((i:Int),c.aL,c.ce,x)) (abI c.ce) (fun i=>(c.ce[i]!).2=x) (r:=abQ) (e:=abW) (fun i hi=>by
  have e1:abY ((i:Int)<((abI c.ce):Int))=abQ:=aH (by omega);unfold q9;simp only [ay,e1,lw,aq c.ce i hi,ao,aV (show i<1000000000 by omega)];generalize c.ce[i]! =y;constructor
  · intro h;rw [ed (congrArg abp h),ed (congrArg abq h)];rfl
  · intro h
    by_cases h1:y.2.1=x.1
    · rw [ed h1,eD (fun h2=>h (UV h1 h2))];rfl
    rw [eD h1];rfl) (by
  unfold q9;have:abY (((abI c.ce):Int)<((abI c.ce):Int))=abW:=aD (by omega);simp only [ay,this,pp])
 by_cases hx:rh c.ce x
 · rw [aH hx];exact key.1 hx
 rw [aD hx];exact key.2 fun i hi he=>hx ⟨i,hi,he⟩
def mH (c:bc) (x:Int×Int):bc:=⟨c.aL+1,c.ce++[(c.aL,x)]⟩
def zz (c:bc):Prop:=abI c.ce=200\/c.aL=1000000
theorem KL {c:bc} (ok:dU c) {x:Int×Int} (hx:eW x):Bi c x=abK (if rh c.ce x then (⟨0,[]⟩,0,14) else if zz c then (⟨0,[]⟩,0,18) else (mH c x,c.aL,0)):=by
 have:=ok.len;have:=ok.n0;have:=ok.n1;unfold Bi;rw [tZ,rc ok,zx,aH hx,KK _ _ (by omega)];simp only [ao,show ((0:Int) !=0)=abW from rfl,pp,AC,ay]
 by_cases h1:rh c.ce x
 · rw [aH h1,rc h1];rfl
 rw [aD h1,ut h1];unfold zz
 by_cases h2:(abI c.ce)=200
 · rw [ed (show ((abI c.ce):Int)=200 by omega),rc (.inl h2)];rfl
 rw [eD (show¬((abI c.ce):Int)=200 by omega)]
 by_cases h3:c.aL=1000000
 · rw [ed h3,rc (.inr h3)];rfl
 rw [eD h3,ut (by omega)];have e:ai .i64 (c.aL+1)=c.aL+1:=by rw [wi];omega
 simp only [pp,bj (show (abI c.ce)<=1048576 by omega),ao,cM (show (abI c.ce)+[(c.aL,x)].length<=1048576 by simp;omega),e];rfl
theorem IJ {c:bc} (ok:dU c) {x:Int×Int} (hx:eW x):Cv c x=abK (if rh c.ce x then (⟨0,[]⟩,0,14) else if zz c then (⟨0,[]⟩,0,18) else (mH c x,c.aL,0)):=by
 have:=ok.len;have:=ok.n0;have:=ok.n1;unfold Cv v8;rw [yi,rc ok,zy,aH hx,wz _ _ (by omega)];simp only [ao,show ((0:Int) !=0)=abW from rfl,pp,AC,ay]
 by_cases h1:rh c.ce x
 · rw [aH h1,rc h1];rfl
 rw [aD h1,ut h1];unfold zz
 by_cases h2:(abI c.ce)=200
 · rw [ed (show ((abI c.ce):Int)=200 by omega),rc (.inl h2)];rfl
 rw [eD (show¬((abI c.ce):Int)=200 by omega)]
 by_cases h3:c.aL=1000000
 · rw [ed h3,rc (.inr h3)];rfl
 rw [eD h3,ut (by omega)];have e:ai .i64 (c.aL+1)=c.aL+1:=by rw [wi];omega
 simp only [pp,bj (show (abI c.ce)<=1048576 by omega),ao,cM (show (abI c.ce)+[(c.aL,x)].length<=1048576 by simp;omega),e];rfl
theorem sm {c:bc} {x:Int×Int} {i:Nat}:(mH c x).ce[i]! =if i<(abI c.ce) then c.ce[i]! else if i=(abI c.ce) then (c.aL,x) else default:=by
 show (c.ce++[(c.aL,x)])[i]! =_
 by_cases h:i<abI c.ce
 · rw [rc h,dQ h]
 rw [ut h,fA (by omega)]
 by_cases e:i=abI c.ce
 · rw [rc e,e,aas];rfl
 rw [ut e,getElem!_neg _ _ (by simp;omega)]
theorem yV {c:bc} {x:Int×Int}:(mH c x).ce.length=abI c.ce+1:=by show (c.ce++[(c.aL,x)]).length=_;simp
theorem MM {c:bc} (ok:dU c) {x:Int×Int} (hx:eW x) (hn: ¬rh c.ce x) (hf: ¬zz c):dU (mH c x):=by
 have h1:=ok.len;have h2:=ok.n0;have h3:=ok.n1;unfold zz at hf;refine ⟨by rw [yV];omega,by show 0<=c.aL+1;omega,by show c.aL+1<=1000000;omega,?_,?_,?_,?_⟩
 · intro i hi
   rw [yV] at hi;rw [sm]
   by_cases h:i<abI c.ce
   · rw [rc h];exact ok.cv i h
   rw [ut h,rc (by omega)];exact hx
 · intro i hi
   rw [yV] at hi;rw [sm];show 0<=_/\_<c.aL+1
   by_cases h:i<abI c.ce
   · rw [rc h];have:=ok.nr i h;omega
   rw [ut h,rc (by omega)];dsimp only;omega
 · intro i j k9 hj
   rw [yV] at hj;rw [sm,sm,rc (by omega)]
   by_cases h:j<abI c.ce
   · rw [rc h];exact ok.up i j k9 h
   rw [ut h,rc (by omega)]
   exact (ok.nr i (by omega)).2
 intro i j k9 hj
 rw [yV] at hj;rw [sm,sm,rc (by omega)]
 by_cases h:j<abI c.ce
 · rw [rc h];exact ok.nd i j k9 h
 rw [ut h,rc (by omega)]
 exact fun he=>hn ⟨i,by omega,he⟩
def lT (c:bc) (k:Nat):bc:=⟨c.aL,c.ce.eraseIdx k⟩
theorem Om {α:Type} {l:List α} {k:Nat} (hk:k<abI l):(l.eraseIdx k).length=abI l-1:=by rw [List.length_eraseIdx,rc hk]
theorem FX {c:bc} (ok:dU c) {k:Nat} (hk:k<abI c.ce):dU (lT c k):=by
 have h1:=ok.len;have len:(lT c k).ce.length=abI c.ce-1:=Om hk;have cell: ∀i,∃j,i<=j/\j<=i+1/\(i<abI c.ce-1->j<abI c.ce)/\(lT c k).ce[i]! =c.ce[j]!/\(i<k->j=i)/\(k<=i->j=i+1):=by
  intro i
  by_cases h:i<k
  · exact ⟨i,by omega,by omega,by omega,by show (c.ce.eraseIdx k)[i]! =_;rw [FU,rc h],fun _=>rfl,by omega⟩
  exact ⟨i+1,by omega,by omega,by omega,by show (c.ce.eraseIdx k)[i]! =_;rw [FU,ut h],by omega,fun _=>rfl⟩
 refine ⟨by omega,ok.n0,ok.n1,?_,?_,?_,?_⟩
 · intro i hi
   obtain ⟨j,j1,j2,j3,j4,j5,j6⟩:=cell i;rw [j4];exact ok.cv j (j3 (by omega))
 · intro i hi
   obtain ⟨j,j1,j2,j3,j4,j5,j6⟩:=cell i;rw [j4];exact ok.nr j (j3 (by omega))
 · intro i i' k9 hi
   obtain ⟨j,j1,j2,j3,j4,j5,j6⟩:=cell i;obtain ⟨m,m1,m2,m3,m4,m5,m6⟩:=cell i';rw [j4,m4];exact ok.up j m (by omega) (m3 (by omega))
 intro i i' k9 hi
 obtain ⟨j,j1,j2,j3,j4,j5,j6⟩:=cell i;obtain ⟨m,m1,m2,m3,m4,m5,m6⟩:=cell i';rw [j4,m4];exact ok.nd j m (by omega) (m3 (by omega))
theorem FY {c:bc} (ok:dU c) {k:Nat} (hk:k<abI c.ce) {n:Int} (hn:(c.ce[k]!).1=n):pU c n=abK (lT c k,(c.ce[k]!).2,0):=by have h1:=ok.len;unfold pU Ct;obtain ⟨L,d1,d2⟩:=Da c.ce k hk;rw [tZ,rc ok,(DV c.ce n (by omega) ok.up).1 k hk hn];simp only [ao,show ((0:Int) !=0)=abW from rfl,pp,AC,bj (show (abI c.ce)<=1048576 by omega),aV (show k<1000000000 by omega),d1,aq c.ce k hk,d2];rfl
theorem IK {l:List qi} {k:Nat} (hk:k<abI l) (hs: ∀i j,i<j->j<abI l->(l[i]!).1<(l[j]!).1) {n:Int} (hn:(l[k]!).1=n):l.filter (fun x=>x.1 !=n)=l.eraseIdx k:=by
 rw [sj];have e:l.filter (fun x=>x.1 !=n)=(l.take k++l[k]!::l.drop (k+1)).filter (fun x=>x.1 !=n):=congrArg _ (S2 hk);rw [e,aaS,List.filter_cons_of_neg (by rw [hn];simp)]
 congr 1
 · rw [aay]
   intro x hx;obtain ⟨i,h1,h2,rfl⟩:=ck.1 hx;have:=hs i k h1 hk;exact dN (by omega)
 rw [aay]
 intro x hx;obtain ⟨i,h1,rfl⟩:=aP.1 hx;rw [aaq] at h1;rw [rC];have:=hs k (k+1+i) (by omega) (by omega);exact dN (by omega)
theorem CE {c:bc} (ok:dU c) {k:Nat} (hk:k<abI c.ce) {n:Int} (hn:(c.ce[k]!).1=n):tP c n=abK (lT c k):=by
 have h1:=ok.len;unfold tP;have key:=bL (body:=jG) (fun i=>(n,(i:Int),c.aL,c.ce,0,c.aL,(c.ce.take i).filter (fun x=>x.1 !=n))) (abI c.ce) (fun i hi=>by
  have e1:abY ((i:Int)<((abI c.ce):Int))=abQ:=aH (by omega);have nx:(c.ce.take (i+1)).filter (fun x=>x.1 !=n)=(c.ce.take i).filter (fun x=>x.1 !=n)++(if (c.ce[i]!).1 !=n then [c.ce[i]!] else []):=by rw [iv hi,aaS,List.filter_cons,List.filter_nil]
  have fl:((c.ce.take i).filter (fun x=>x.1 !=n)).length<=200:=abx (List.length_filter_le _ _) (by rw [IR];omega);unfold jG;simp only [ay,e1,lw,aq c.ce i hi,ao,aV (show i<1000000000 by omega),nx]
  by_cases h:(c.ce[i]!).1=n
  · rw [bV h];simp
  rw [dN h]
  simp only [lw,if_true,cM (show ((c.ce.take i).filter (fun x=>x.1 !=n)).length+[c.ce[i]!].length<=1048576 by simp only [ab0,aba];omega),ao])
 have fin:jG (n,((abI c.ce):Int),c.aL,c.ce,0,c.aL,(c.ce.take (abI c.ce)).filter (fun x=>x.1 !=n))=abK (.done (lT c k)):=by unfold jG;have:abY (((abI c.ce):Int)<((abI c.ce):Int))=abW:=aD (by omega);simp only [ay,this,pp,List.take_length];rw [IK hk ok.up hn];rfl
 refine Eq.trans ?_ (aC fin);exact key
def sq (l:List Pt) (id:Int):Prop:= ∃k,k<abI l/\(l[k]!).1=id
noncomputable def cd (l:List Pt) (id:Int):Pt:=if h:sq l id then l[h.choose]! else (-1,0,0)
theorem tj {l:List Pt} (hs:gR l) {k:Nat} (hk:k<abI l) {id:Int} (h:(l[k]!).1=id):cd l id=l[k]!:=by have hp:sq l id:=⟨k,hk,h⟩;unfold cd;rw [dif_pos hp];have:=hp.choose_spec;rw [mP hs this.1 hk (by rw [this.2,h])]
theorem fu {l:List Pt} (ok:bF l) {id:Int} (h:sq l id):fh (cd l id)/\(cd l id).1=id:=by obtain ⟨k,hk,he⟩:=h;rw [tj ok.2.2 hk he];exact ⟨ok.2.1 _ (aN hk),he⟩
theorem CF {l:List Pt} {id:Int} (h: ¬sq l id):cd l id=(-1,0,0):=by unfold cd;rw [dif_neg h]
theorem lG {l:List Pt} (ok:bF l) (id:Int):iV ⟨l⟩ id=abK (cd l id):=by
 have h1:=ok.1;have bs:=DV l id (by omega) (fun i j=>rD ok.2.2);unfold iV;dsimp only;rw [Tk]
 by_cases h:sq l id
 · obtain ⟨k,hk,he⟩:=h
   rw [bs.1 k hk he];simp only [ao,AC,pp,aq l k hk,tj ok.2.2 hk he]
 obtain ⟨m,m1,m2,m3,e⟩:=bs.2 (fun k hk he=>h ⟨k,hk,he⟩)
 rw [e,CF h];rfl
theorem CG {l:List Pt} (ok:bF l) {id:Int} (h:sq l id): ∃k,k<abI l/\iX ⟨l⟩ id=abK (k:Int)/\l[k]! =cd l id:=by have h1:=ok.1;obtain ⟨k,hk,he⟩:=h;exact ⟨k,hk,P3 ok.2.2 (by omega) hk he,(tj ok.2.2 hk he).symm⟩
theorem Tl {l:List Pt} (ok:bF l) {id:Int} (h: ¬sq l id):iX ⟨l⟩ id=abK (-1):=by have h1:=ok.1;exact ZJ (by omega) fun k hk he=>h ⟨k,hk,he⟩
def iy (l:List Pt) (x:Int×Int):Prop:=sq l x.1/\sq l x.2
noncomputable def bk (l:List Pt) (x t:Int×Int):(Int×Int)×Bool:=jI (cd l x.2) (cd l x.1) t
theorem ua {l:List Pt} (ok:bF l) {x t:Int×Int} (hx:eW x) (ht:aW t) (h64:iJ t):
 oO ⟨l⟩ x t=abK (if iy l x then ((bk l x t).1,(bk l x t).2,0) else ((0,0),abW,8)):=by
 unfold oO;rw [lG ok,lG ok];simp only [ao,Dx h64];have bad: ¬fh (-1,0,0):=by unfold fh;dsimp only;omega
 by_cases h1:sq l x.1
 · by_cases h2:sq l x.2
   · obtain ⟨p1,p2⟩:=fu ok h1
     obtain ⟨q1,q2⟩:=fu ok h2;rw [rc ⟨q1,p1,ht,by rw [p2,q2];exact fun h=>hx.2.2.2.2 h.symm⟩,rc ⟨h1,h2⟩];rfl
   rw [CF h2,ut (fun h=>bad h.1),ut (fun h=>bad h.1),ut (fun h=>h2 h.2)]
 rw [CF h1,ut (fun h=>bad h.2.1),ut (fun h=>bad h.2.1),ut (fun h=>h1 h.1)]
theorem ud {l:List Pt} (ok:bF l) {x t:Int×Int} (h64:iJ t) (hb:iy l x):oR ⟨l⟩ x t=abK (bk l x t):=by obtain ⟨h1,h2⟩:=hb;obtain ⟨j,j1,j2,j3⟩:=CG ok h1;obtain ⟨k,k1,k2,k3⟩:=CG ok h2;unfold oR;simp only [j2,k2,ao,aq l j j1,aq l k k1,j3,k3,Mz (fu ok h2).1 (fu ok h1).1 h64];rfl
theorem Tm (c:bc) {l:List Pt} (ok:bF l) (hl:(abI c.ce)<=200):s6 c ⟨l⟩=abK (abY (∀i,i<abI c.ce->iy l (c.ce[i]!).2)):=by
 unfold s6;have key:=cP (body:=oc) (fun i=>((i:Int),c.aL,c.ce,l)) (abI c.ce) (fun i=> ¬iy l (c.ce[i]!).2) (r:=abW) (e:=abQ) (fun i hi=>by
  have e1:abY ((i:Int)<((abI c.ce):Int))=abQ:=aH (by omega);unfold oc iy;simp only [ay,e1,lw,aq c.ce i hi,ao,aV (show i<1000000000 by omega)]
  by_cases h1:sq l (c.ce[i]!).2.1
  · obtain ⟨k,k1,k2,_⟩:=CG ok h1
    rw [k2];simp only [ao,aD (show¬(k:Int)<0 by omega),pp]
    by_cases h2:sq l (c.ce[i]!).2.2
    · obtain ⟨j,j1,j2,_⟩:=CG ok h2
      rw [j2];simp only [ao,aD (show¬(j:Int)<0 by omega),pp];exact ⟨fun h=>absurd ⟨h1,h2⟩ h,fun _=>trivial⟩
    rw [Tl ok h2]
    exact ⟨fun _=>rfl,fun h=>absurd (v6.1 h).2 h2⟩
  · rw [Tl ok h1]
    exact ⟨fun _=>rfl,fun h=>absurd (v6.1 h).1 h1⟩) (by
  unfold oc;have:abY (((abI c.ce):Int)<((abI c.ce):Int))=abW:=aD (by omega);simp only [ay,this,pp])
 by_cases hx: ∀i,i<abI c.ce->iy l (c.ce[i]!).2
 · rw [aH hx];exact key.2 fun i hi=>v6.2 (hx i hi)
 rw [aD hx]
 obtain ⟨i,h⟩:=If.1 hx;obtain ⟨hi,hx⟩:=M2.1 h;exact key.1 ⟨i,hi,hx⟩
def aT (l:List Pt) (t:Int×Int) (H:List Ev):List qi->List qi->Prop
 | [],ds=>ds=[]
 |x::cs,ds=>((bk l x.2 t).2=abQ-> ∃d xF,ds=d::xF/\d.1=x.1/\((bk l x.2 t).1.1,(bk l x.2 t).1.2,x.1,d.2)∈H/\aT l t H cs xF)/\((bk l x.2 t).2=abW->aT l t H cs ds)
structure aS (c:aI):Prop where
 iL:aW c.ci
 iz:iJ c.ci
 iD:bF c.ii.am
 rE:dU c.af
 jU:dW c.aa
 Dz:(abI c.aa.aj)=200
 hd:(abI c.aa.bv)=abI c.io
 known: ∀i,i<abI c.af.ce->iy c.ii.am (c.af.ce[i]!).2
 y8:aT c.ii.am c.ci c.aa.bv c.af.ce c.io
structure ss (c:aI):Prop where
 iz:iJ c.ci
 ag:yd c.aa
 du:(abI c.io)<=1000000
theorem abc {a:aJ} (ok:dW a) (w2:(abI a.aj)=200) (t:Int×Int) (n:Int) (h:Int×Int):
 (0<=h.1/\h.1<200/\0<=a.aj[h.1.toNat]!/\a.bv[(a.aj[h.1.toNat]!).toNat]! =(t.1,t.2,n,h))↔((t.1,t.2,n,h):Ev)∈a.bv:=by
 have wl:=ok.wl;have hu:=ok.so.ul;constructor
 · rintro ⟨h1,h2,h3,h4⟩
   cases hb:a.ae.be[h.1.toNat]! with
   |false=>have:=ok.un h.1.toNat (by omega) hb;omega
   |true=>have:=ok.fwd h.1.toNat (by omega) hb;rw [<- h4];exact aN (by omega)
 intro hm
 obtain ⟨w,hw,he⟩:=aP.1 hm;obtain ⟨b1,b2,b3,b4,b5⟩:=ok.back hw;have e:Ev.ix a.bv[w]! =h.1:=by rw [he]
 have e2:Ev.n a.bv[w]! =h.1.toNat:=by rw [he]
 rw [e] at b1 b2;rw [e2] at b5;refine ⟨b1,by omega,by omega,?_⟩;rw [b5,Do,he]
theorem Tn {a:aJ} (ok:dW a) {i:Nat} (hi:i<abI a.ae.ar) (h:0<=a.aj[i]!):a.aj[i]!<(abI a.bv):=by
 cases hb:a.ae.be[i]! with
 |false=>have:=ok.un i hi hb;omega
 |true=>exact (ok.fwd i hi hb).2.1
theorem rF {α:Type} [Inhabited α] {l:List α} {i:Nat} (h:i<abI l):l.drop i=l[i]!::l.drop (i+1):=by rw [getElem!_pos l i h];exact List.drop_eq_getElem_cons h
theorem KM {c:aI} (iL:aW c.ci) (iz:iJ c.ci) (iD:bF c.ii.am) (rE:dU c.af) (jU:dW c.aa) (w2:(abI c.aa.aj)=200):
 ∀(d i:Nat) (ds:List qi),abI c.af.ce-i<=d->i<=abI c.af.ce->abI ds<=1000000->
  aB cw (ds,c.af.ce,((abI c.af.ce):Int),(i:Int),c.ci.1,c.ci.2,c.ii.am,c.af.aL,c.af.ce,c.aa.ae.ar,c.aa.ae.be,c.aa.ae.bi,c.aa.bv,c.aa.aj,c.io)=
   abK (.done (if (∀j,i<=j->j<abI c.af.ce->iy c.ii.am (c.af.ce[j]!).2)/\aT c.ii.am c.ci c.aa.bv (c.af.ce.drop i) ds then 0 else 8)):=by
 have hl:=rE.len;have wl:=jU.wl;have fin: ∀(ds:List qi),aB cw (ds,c.af.ce,((abI c.af.ce):Int),((abI c.af.ce):Int),c.ci.1,c.ci.2,c.ii.am,c.af.aL,c.af.ce,c.aa.ae.ar,c.aa.ae.be,c.aa.ae.bi,c.aa.bv,c.aa.aj,c.io)=abK (.done (if ds=[] then 0 else 8)):=by
  intro ds;refine aC ?_;unfold cw;have e1:abY (((abI c.af.ce):Int)<((abI c.af.ce):Int))=abW:=aD (by omega);simp only [ay,e1,pp];cases ds with
  |nil=>rw [aD (by simp),rc rfl];rfl
  |cons d ds=>rw [aH (by simp),ut (by simp)];rfl
 intro d
 induction d with
 |zero=>
  intro i ds hd hi Ud;have:i=(abI c.af.ce):=by omega
  subst this;rw [fin ds,aaj];have:((∀j,abI c.af.ce<=j->j<abI c.af.ce->iy c.ii.am (c.af.ce[j]!).2)/\aT c.ii.am c.ci c.aa.bv [] ds)↔ds=[]:=⟨fun h=>h.2,fun h=>⟨fun j h1 h2=>by omega,h⟩⟩
  by_cases h:ds=[]
  · rw [rc h,rc (this.2 h)]
  rw [ut h,ut (fun k=>h (this.1 k))]
 |succ d ih=>
  intro i ds hd hi Ud
  by_cases he:i=abI c.af.ce
  · subst he
    rw [fin ds,aaj];have:((∀j,abI c.af.ce<=j->j<abI c.af.ce->iy c.ii.am (c.af.ce[j]!).2)/\aT c.ii.am c.ci c.aa.bv [] ds)↔ds=[]:=⟨fun h=>h.2,fun h=>⟨fun j h1 h2=>by omega,h⟩⟩
    by_cases h:ds=[]
    · rw [rc h,rc (this.2 h)]
    rw [ut h,ut (fun k=>h (this.1 k))]
  have qk:i<(abI c.af.ce):=by omega
  have e1:abY ((i:Int)<((abI c.af.ce):Int))=abQ:=aH (by omega);have hw:=ua iD (x:=(c.af.ce[i]!).2) (t:=(c.ci.1,c.ci.2)) (rE.cv i qk) iL iz;have dr:=rF qk;have all:(∀j,i<=j->j<abI c.af.ce->iy c.ii.am (c.af.ce[j]!).2)↔(iy c.ii.am (c.af.ce[i]!).2/\ ∀j,i+1<=j->j<abI c.af.ce->iy c.ii.am (c.af.ce[j]!).2):=by
   constructor
   · intro h;exact ⟨h i (EQ _) qk,fun j h1 h2=>h j (by omega) h2⟩
   rintro ⟨h1,h2⟩ j h3 h4
   by_cases e:j=i
   · rw [e];exact h1
   exact h2 j (by omega) h4
  have sc:=aV (show i<1000000000 by omega)
  by_cases hb:iy c.ii.am (c.af.ce[i]!).2
  case neg=>rw [ut (fun h=>hb (all.1 h.1).1)];refine aC ?_;unfold cw;simp only [e1,lw,aq c.af.ce i qk,ao,hw,ut hb];rfl
  rw [rc hb] at hw
  by_cases is:(bk c.ii.am (c.af.ce[i]!).2 c.ci).2=abQ
  case neg=>
   have is':(bk c.ii.am (c.af.ce[i]!).2 c.ci).2=abW:=by simpa using is
   rw [aQ (y:=(ds,c.af.ce,((abI c.af.ce):Int),((i+1:Nat):Int),c.ci.1,c.ci.2,c.ii.am,c.af.aL,c.af.ce,c.aa.ae.ar,c.aa.ae.be,c.aa.ae.bi,c.aa.bv,c.aa.aj,c.io)) (by unfold cw;simp only [e1,lw,aq c.af.ce i qk,ao,hw,sc,is',show ((0:Int) !=0)=abW from rfl,pp,aa6]),ih (i+1) ds (by omega) (by omega) Ud];have same:((∀j,i<=j->j<abI c.af.ce->iy c.ii.am (c.af.ce[j]!).2)/\aT c.ii.am c.ci c.aa.bv (c.af.ce.drop i) ds)↔((∀j,i+1<=j->j<abI c.af.ce->iy c.ii.am (c.af.ce[j]!).2)/\aT c.ii.am c.ci c.aa.bv (c.af.ce.drop (i+1)) ds):=by
    rw [dr,all];constructor
    · rintro ⟨⟨_,h1⟩,h2⟩;exact ⟨h1,h2.2 is'⟩
    rintro ⟨h1,h2⟩;exact ⟨⟨hb,h1⟩,fun h=>absurd h is,fun _=>h2⟩
   simp only [same]
  have stop:(¬((∀j,i<=j->j<abI c.af.ce->iy c.ii.am (c.af.ce[j]!).2)/\aT c.ii.am c.ci c.aa.bv (c.af.ce.drop i) ds))->cw (ds,c.af.ce,((abI c.af.ce):Int),(i:Int),c.ci.1,c.ci.2,c.ii.am,c.af.aL,c.af.ce,c.aa.ae.ar,c.aa.ae.be,c.aa.ae.bi,c.aa.bv,c.aa.aj,c.io)=abK (.done (.done 8))->aB cw (ds,c.af.ce,((abI c.af.ce):Int),(i:Int),c.ci.1,c.ci.2,c.ii.am,c.af.aL,c.af.ce,c.aa.ae.ar,c.aa.ae.be,c.aa.ae.bi,c.aa.bv,c.aa.aj,c.io)=
   abK (.done (if (∀j,i<=j->j<abI c.af.ce->iy c.ii.am (c.af.ce[j]!).2)/\aT c.ii.am c.ci c.aa.bv (c.af.ce.drop i) ds then 0 else 8)):=by
   intro h1 h2;rw [ut h1];exact aC h2
  cases ds with
  |nil=>
   refine stop (fun h=>?_) ?_
   · rw [dr] at h
     obtain ⟨d,xF,h1,_⟩:=h.2.1 is;cases h1
   unfold cw
   simp only [e1,lw,aq c.af.ce i qk,ao,hw,is,show ((0:Int) !=0)=abW from rfl,pp,AC];rfl
  |cons d0 ds=>
   have l0:((((d0::ds).length:Nat):Int)==0)=abW:=eD (by simp;omega);have g0:aG (d0::ds) 0=abK d0:=rfl;have y8: ∀P:Prop,(P↔d0.1=(c.af.ce[i]!).1/\(((bk c.ii.am (c.af.ce[i]!).2 c.ci).1.1,(bk c.ii.am (c.af.ce[i]!).2 c.ci).1.2,(c.af.ce[i]!).1,d0.2):Ev)∈c.aa.bv)-> ¬P-> ¬((∀j,i<=j->j<abI c.af.ce->iy c.ii.am (c.af.ce[j]!).2)/\aT c.ii.am c.ci c.aa.bv (c.af.ce.drop i) (d0::ds)):=by intro P hP hn h;rw [dr] at h;obtain ⟨d,xF,h1,h2,h3,_⟩:=h.2.1 is;injection h1 with h1 _;subst h1;exact hn (hP.2 ⟨h2,h3⟩)
   by_cases b1:d0.1=(c.af.ce[i]!).1
   case neg=>refine stop (y8 (d0.1=(c.af.ce[i]!).1/\_) aar (fun h=>b1 h.1)) ?_;unfold cw;simp only [ay,e1,lw,aq c.af.ce i qk,ao,hw,is,show ((0:Int) !=0)=abW from rfl,pp,AC,l0,g0,dN b1]
   have ea:=abc jU w2 (bk c.ii.am (c.af.ce[i]!).2 c.ci).1 (c.af.ce[i]!).1 d0.2
   by_cases b2:d0.2.1<0
   · refine stop (y8 (d0.1=(c.af.ce[i]!).1/\_) aar (fun h=>by have:=(ea.2 h.2).1;omega)) ?_
     unfold cw;simp only [ay,e1,lw,aq c.af.ce i qk,ao,hw,is,show ((0:Int) !=0)=abW from rfl,pp,AC,l0,g0,bV b1,aH b2]
   by_cases b3:200<=d0.2.1
   · refine stop (y8 (d0.1=(c.af.ce[i]!).1/\_) aar (fun h=>by have:=(ea.2 h.2).2.1;omega)) ?_
     unfold cw;simp only [ay,e1,lw,aq c.af.ce i qk,ao,hw,is,show ((0:Int) !=0)=abW from rfl,pp,AC,l0,g0,bV b1,aD b2,aH b3]
   have gw:=c6 (l:=c.aa.aj) (i:=d0.2.1) (by omega) (by omega)
   by_cases b4:c.aa.aj[d0.2.1.toNat]!<0
   · refine stop (y8 (d0.1=(c.af.ce[i]!).1/\_) aar (fun h=>by have:=(ea.2 h.2).2.2.1;omega)) ?_
     unfold cw;simp only [ay,e1,lw,aq c.af.ce i qk,ao,hw,is,show ((0:Int) !=0)=abW from rfl,pp,AC,l0,g0,bV b1,aD b2,aD b3,gw,aH b4]
   have gh:=c6 (l:=c.aa.bv) (i:=c.aa.aj[d0.2.1.toNat]!) (by omega) (Tn jU (by omega) (by omega));have sl:gO (d0::ds) 1 ((((d0::ds).length:Nat):Int))=abK ds:=by unfold gO;rw [rc ⟨by omega,by simp;omega,by omega⟩];simp
   have evq: ∀(e:Ev) (p:Int×Int) (n:Int) (h:Int×Int),((e.1==p.1)&&((e.2.1==p.2)&&((e.2.2.1==n)&&((e.2.2.2.1==h.1)&&(e.2.2.2.2==h.2)))))=abY (e=(p.1,p.2,n,h)):=by
    intro e p n h;rw [aau,decide_eq_true_iff];simp only [ab5,beq_iff_eq];constructor
    · rintro ⟨h1,h2,h3,h4,h5⟩
      exact UV h1 (UV h2 (UV h3 (UV h4 h5)))
    intro h;rw [h];exact ⟨rfl,rfl,rfl,rfl,rfl⟩
   have akd:=evq c.aa.bv[(c.aa.aj[d0.2.1.toNat]!).toNat]! (bk c.ii.am (c.af.ce[i]!).2 c.ci).1 (c.af.ce[i]!).1 d0.2
   by_cases b5:c.aa.bv[(c.aa.aj[d0.2.1.toNat]!).toNat]! =((bk c.ii.am (c.af.ce[i]!).2 c.ci).1.1,(bk c.ii.am (c.af.ce[i]!).2 c.ci).1.2,(c.af.ce[i]!).1,d0.2)
   case neg=>refine stop (y8 (d0.1=(c.af.ce[i]!).1/\_) aar (fun h=>b5 (ea.2 h.2).2.2.2)) ?_;unfold cw;simp only [ay,e1,lw,aq c.af.ce i qk,ao,hw,is,show ((0:Int) !=0)=abW from rfl,pp,AC,l0,g0,bV b1,aD b2,aD b3,gw,aD b4,gh];rw [akd,aD b5];rfl
   have y5:=ea.1 ⟨by omega,by omega,by omega,b5⟩;rw [aQ (y:=(ds,c.af.ce,((abI c.af.ce):Int),((i+1:Nat):Int),c.ci.1,c.ci.2,c.ii.am,c.af.aL,c.af.ce,c.aa.ae.ar,c.aa.ae.be,c.aa.ae.bi,c.aa.bv,c.aa.aj,c.io)) (by unfold cw;simp only [ay,e1,lw,aq c.af.ce i qk,ao,hw,is,show ((0:Int) !=0)=abW from rfl,pp,AC,l0,g0,bV b1,aD b2,aD b3,gw,aD b4,gh,sl,sc];rw [akd,aH b5];rfl),ih (i+1) ds (by omega) (by omega) (by simp at Ud;omega)];have same:((∀j,i<=j->j<abI c.af.ce->iy c.ii.am (c.af.ce[j]!).2)/\aT c.ii.am c.ci c.aa.bv (c.af.ce.drop i) (d0::ds))↔((∀j,i+1<=j->j<abI c.af.ce->iy c.ii.am (c.af.ce[j]!).2)/\aT c.ii.am c.ci c.aa.bv (c.af.ce.drop (i+1)) ds):=by
    rw [dr,all];constructor
    · rintro ⟨⟨_,h1⟩,h2⟩
      obtain ⟨d,xF,k1,k2,k3,k4⟩:=h2.1 is;injection k1 with k1 k5;subst k5;exact ⟨h1,k4⟩
    rintro ⟨h1,h2⟩
    exact ⟨⟨hb,h1⟩,fun _=>⟨d0,ds,rfl,b1,y5,h2⟩,fun h=>by rw [is] at h;cases h⟩
   simp only [same]
theorem aS.iff {c:aI} (fit:ss c):aS c↔aW c.ci/\bF c.ii.am/\dU c.af/\dW c.aa/\abI c.aa.aj=200/\abI c.aa.bv=abI c.io/\(∀i,i<abI c.af.ce->iy c.ii.am (c.af.ce[i]!).2)/\aT c.ii.am c.ci c.aa.bv c.af.ce c.io:=
 ⟨fun h=>⟨h.iL,h.iD,h.rE,h.jU,h.Dz,h.hd,h.known,h.y8⟩,fun ⟨h1,h2,h3,h4,h5,h6,h7,h8⟩=>⟨h1,fit.iz,h2,h3,h4,h5,h6,h7,h8⟩⟩
theorem aS.fit {c:aI} (ok:aS c):ss c:=⟨ok.iz,ok.jU.fit,by have:=ok.hd;have:=ok.jU.bd;omega⟩
theorem KN {c:aI} {n0 n1 n2 n3:Int}:
 aB ez (4,0,c.ci.1,c.ci.2,c.ii.am,c.af.aL,c.af.ce,c.aa.ae.ar,c.aa.ae.be,c.aa.ae.bi,c.aa.bv,c.aa.aj,c.io,[n0,n1,n2,n3])=
  if n0=0/\n1=0/\n2=0/\n3=0 then aB ez (4,4,c.ci.1,c.ci.2,c.ii.am,c.af.aL,c.af.ce,c.aa.ae.ar,c.aa.ae.be,c.aa.ae.bi,c.aa.bv,c.aa.aj,c.io,[n0,n1,n2,n3]) else abK 8:=by
 have st: ∀(i:Nat) (n:Int),i<4->aG [n0,n1,n2,n3] (i:Int)=abK n->aB ez (4,(i:Int),c.ci.1,c.ci.2,c.ii.am,c.af.aL,c.af.ce,c.aa.ae.ar,c.aa.ae.be,c.aa.ae.bi,c.aa.bv,c.aa.aj,c.io,[n0,n1,n2,n3])=
  if n=0 then aB ez (4,((i+1:Nat):Int),c.ci.1,c.ci.2,c.ii.am,c.af.aL,c.af.ce,c.aa.ae.ar,c.aa.ae.be,c.aa.ae.bi,c.aa.bv,c.aa.aj,c.io,[n0,n1,n2,n3]) else abK 8:=by
  intro i n hi hg;have e1:abY ((i:Int)<4)=abQ:=aH (by omega)
  by_cases h:n=0
  · rw [rc h]
    refine aQ ?_;unfold ez;simp only [e1,lw,hg,ao,bV h,pp,aV (show i<1000000000 by omega)]
  rw [ut h]
  refine aC ?_;unfold ez;simp only [e1,lw,hg,ao,dN h]
 have s0:=st 0 n0 (by omega) rfl;have s1:=st 1 n1 (by omega) rfl;have s2:=st 2 n2 (by omega) rfl;have s3:=st 3 n3 (by omega) rfl;have c0:((0:Nat):Int)=0:=rfl;have c4:((3+1:Nat):Int)=4:=rfl;rw [c0] at s0;rw [c4] at s3;rw [s0]
 by_cases h0:n0=0
 · rw [rc h0,show ((0+1:Nat):Int)=((1:Nat):Int) from rfl,s1]
   by_cases h1:n1=0
   · rw [rc h1,show ((1+1:Nat):Int)=((2:Nat):Int) from rfl,s2]
     by_cases h2:n2=0
     · rw [rc h2,show ((2+1:Nat):Int)=((3:Nat):Int) from rfl,s3]
       by_cases h3:n3=0
       · rw [rc h3,rc ⟨h0,h1,h2,h3⟩]
       rw [ut h3,ut (fun h=>h3 h.2.2.2)]
     rw [ut h2,ut (fun h=>h2 h.2.2.1)]
   rw [ut h1,ut (fun h=>h1 h.2.1)]
 rw [ut h0,ut (fun h=>h0 h.1)]
theorem jK {c:aI} (fit:ss c):fF c=abK (if aS c then 0 else 8):=by
 unfold fF;rw [c7 fit.iz,jJ,tZ,iO _ fit.ag];simp only [ao];have h4:Int.ofNat [if aW c.ci then (0:Int) else 8,si c.ii.am,if dU c.af then (0:Int) else 8,if dW c.aa then (0:Int) else 8].length=4:=rfl;rw [h4,KN];have z: ∀(p:Prop) [Decidable p],(if p then (0:Int) else 8)=0↔p:=fun p _=>by by_cases h:p<;>simp [h]
 simp only [z,jT];have f1:=aS.iff fit
 by_cases ok:aW c.ci/\bF c.ii.am/\dU c.af/\dW c.aa
 case neg=>rw [ut ok,ut (c:=aS c) (fun h=>ok ⟨h.iL,h.iD,h.rE,h.jU⟩)]
 obtain ⟨iL,iD,rE,jU⟩:=ok;rw [rc ⟨iL,iD,rE,jU⟩]
 by_cases w2:(abI c.aa.aj)=200
 case neg=>rw [ut (c:=aS c) (fun h=>w2 h.Dz)];refine aC ?_;unfold ez;simp only [ay,aD (show¬(4:Int)<4 by omega),pp,dN (show¬((abI c.aa.aj):Int)=200 by omega),lw]
 by_cases hd:(abI c.aa.bv)=abI c.io
 case neg=>rw [ut (c:=aS c) (fun h=>hd h.hd)];refine aC ?_;unfold ez;simp only [ay,aD (show¬(4:Int)<4 by omega),pp,bV (show ((abI c.aa.aj):Int)=200 by omega),dN (show¬((abI c.aa.bv):Int)=((abI c.io):Int) by omega),lw]
 have run:=KM iL fit.iz iD rE jU w2 (abI c.af.ce) 0 c.io (by omega) (by omega) fit.du;rw [aaw] at run;have same:((∀j,0<=j->j<abI c.af.ce->iy c.ii.am (c.af.ce[j]!).2)/\aT c.ii.am c.ci c.aa.bv c.af.ce c.io)↔aS c:=by
  rw [f1];constructor
  · rintro ⟨h1,h2⟩;exact ⟨iL,iD,rE,jU,w2,hd,fun i hi=>h1 i (by omega) hi,h2⟩
  rintro ⟨_,_,_,_,_,_,h1,h2⟩;exact ⟨fun j _ hj=>h1 j hj,h2⟩
 simp only [same] at run;refine aC ?_;unfold ez;simp only [ay,aD (show¬(4:Int)<4 by omega),pp,bV (show ((abI c.aa.aj):Int)=200 by omega),bV (show ((abI c.aa.bv):Int)=((abI c.io):Int) by omega)];exact run
theorem ZM {a:aJ} (ok:dW a) (h:Int×Int):rX a h=abK (if th a.ae h then (a.bv[(a.aj[h.1.toNat]!).toNat]!,0) else ((0,0,0,0,0),6)):=by
 unfold rX;rw [ye a ok.fit,rc ok,Oi ok.so];simp only [ao,show ((0:Int) !=0)=abW from rfl,pp]
 by_cases lv:th a.ae h
 · obtain ⟨i,hi,hw,hh⟩:=ok.live lv
   have:=lv.1;have:=lv.2.1;have:=ok.wl;rw [aH lv,rc lv,c6 (l:=a.aj) lv.1 (by omega),hw];simp only [AC,pp,ao,aq a.bv i hi,Do]
 rw [aD lv,ut lv];rfl
theorem KO {c:aI} (iz:iJ c.ci) (iD:bF c.ii.am) (rE:dU c.af) (jU:dW c.aa) (w2:(abI c.aa.aj)=200) (hdu:(abI c.io)<=1000000)
 (kn: ∀i,i<abI c.af.ce->iy c.ii.am (c.af.ce[i]!).2):
 ∀(d i k:Nat),abI c.af.ce-i<=d->i<=abI c.af.ce->k<=abI c.io->
  aB cY ((k:Int),(i:Int),c.ci.1,c.ci.2,c.ii.am,c.af.aL,c.af.ce,c.aa.ae.ar,c.aa.ae.be,c.aa.ae.bi,c.aa.bv,c.aa.aj,c.io)=
   abK (if aT c.ii.am c.ci c.aa.bv (c.af.ce.drop i) (c.io.drop k) then 0 else 8):=by
 have hl:=rE.len;have wl:=jU.wl;have fin: ∀k:Nat,k<=abI c.io->aB cY ((k:Int),((abI c.af.ce):Int),c.ci.1,c.ci.2,c.ii.am,c.af.aL,c.af.ce,c.aa.ae.ar,c.aa.ae.be,c.aa.ae.bi,c.aa.bv,c.aa.aj,c.io)=abK (if aT c.ii.am c.ci c.aa.bv (c.af.ce.drop (abI c.af.ce)) (c.io.drop k) then 0 else 8):=by
  intro k hk;rw [aaj];refine aC ?_;unfold cY;have e1:abY (((abI c.af.ce):Int)<((abI c.af.ce):Int))=abW:=aD (by omega);simp only [ay,e1,pp];have:aT c.ii.am c.ci c.aa.bv [] (c.io.drop k)↔k=(abI c.io):=by show c.io.drop k=[]↔_;rw [aak];omega
  by_cases h:k=abI c.io
  · rw [rc (this.2 h),bV (by omega)];rfl
  rw [ut (fun x=>h (this.1 x)),dN (by omega)];rfl
 intro d
 induction d with
 |zero=>
  intro i k hd hi hk;have:i=(abI c.af.ce):=by omega
  subst this;exact fin k hk
 |succ d ih=>
  intro i k hd hi hk
  by_cases he:i=abI c.af.ce
  · subst he;exact fin k hk
  have qk:i<(abI c.af.ce):=by omega
  have e1:abY ((i:Int)<((abI c.af.ce):Int))=abQ:=aH (by omega);have hw:=ud iD (x:=(c.af.ce[i]!).2) (t:=(c.ci.1,c.ci.2)) iz (kn i qk);have dr:=rF qk;have sc:=aV (show i<1000000000 by omega);have sk:=aV (show k<1000000000 by omega)
  by_cases is:(bk c.ii.am (c.af.ce[i]!).2 c.ci).2=abQ
  case neg=>
   have is':(bk c.ii.am (c.af.ce[i]!).2 c.ci).2=abW:=by simpa using is
   rw [aQ (y:=((k:Int),((i+1:Nat):Int),c.ci.1,c.ci.2,c.ii.am,c.af.aL,c.af.ce,c.aa.ae.ar,c.aa.ae.be,c.aa.ae.bi,c.aa.bv,c.aa.aj,c.io)) (by unfold cY;simp only [ay,e1,lw,aq c.af.ce i qk,ao,hw,sc,is',aa6]),ih (i+1) k (by omega) (by omega) hk];have same:aT c.ii.am c.ci c.aa.bv (c.af.ce.drop i) (c.io.drop k)↔aT c.ii.am c.ci c.aa.bv (c.af.ce.drop (i+1)) (c.io.drop k):=by rw [dr];exact ⟨fun h=>h.2 is',fun h=>⟨fun h'=>absurd h' is,fun _=>h⟩⟩
   simp only [same]
  have stop:(¬aT c.ii.am c.ci c.aa.bv (c.af.ce.drop i) (c.io.drop k))->cY ((k:Int),(i:Int),c.ci.1,c.ci.2,c.ii.am,c.af.aL,c.af.ce,c.aa.ae.ar,c.aa.ae.be,c.aa.ae.bi,c.aa.bv,c.aa.aj,c.io)=abK (.done 8)->
   aB cY ((k:Int),(i:Int),c.ci.1,c.ci.2,c.ii.am,c.af.aL,c.af.ce,c.aa.ae.ar,c.aa.ae.be,c.aa.ae.bi,c.aa.bv,c.aa.aj,c.io)=abK (if aT c.ii.am c.ci c.aa.bv (c.af.ce.drop i) (c.io.drop k) then 0 else 8):=by
   intro h1 h2;rw [ut h1];exact aC h2
  by_cases Qq:k=abI c.io
  · refine stop (fun h=>?_) ?_
    · rw [dr] at h
      obtain ⟨d,xF,h1,_⟩:=h.1 is;rw [Qq,aaj] at h1;cases h1
    unfold cY
    simp only [ay,e1,lw,aq c.af.ce i qk,ao,hw,is,AC,pp,aH (show ((abI c.io):Int)<=(k:Int) by omega)]
  have HX:k<(abI c.io):=by omega
  have dk:=rF HX;have e2:abY (((abI c.io):Int)<=(k:Int))=abW:=aD (by omega);have y8: ¬((c.io[k]!).1=(c.af.ce[i]!).1/\(((bk c.ii.am (c.af.ce[i]!).2 c.ci).1.1,(bk c.ii.am (c.af.ce[i]!).2 c.ci).1.2,(c.af.ce[i]!).1,(c.io[k]!).2):Ev)∈c.aa.bv)-> ¬aT c.ii.am c.ci c.aa.bv (c.af.ce.drop i) (c.io.drop k):=by intro hn h;rw [dr,dk] at h;obtain ⟨d,xF,h1,h2,h3,_⟩:=h.1 is;injection h1 with h1 _;subst h1;exact hn ⟨h2,h3⟩
  by_cases b1:(c.io[k]!).1=(c.af.ce[i]!).1
  case neg=>refine stop (y8 (fun h=>b1 h.1)) ?_;unfold cY;simp only [ay,e1,lw,aq c.af.ce i qk,ao,hw,is,AC,pp,e2,aq c.io k HX,dN b1]
  have fi:=ZM jU (c.io[k]!).2;have ea:=abc jU w2 (bk c.ii.am (c.af.ce[i]!).2 c.ci).1 (c.af.ce[i]!).1 (c.io[k]!).2;have fi':rX (aJ.mk (aU.mk c.aa.ae.ar c.aa.ae.be c.aa.ae.bi) c.aa.bv c.aa.aj) (c.io[k]!).2=_:=fi
  by_cases lv:th c.aa.ae (c.io[k]!).2
  case neg=>
   rw [ut lv] at fi';refine stop (y8 (fun h=>lv ?_)) ?_
   · obtain ⟨w,TV,gI⟩:=aP.1 h.2
     have:=(jU.handle TV).1
     rwa [gI] at this
   unfold cY
   simp only [ay,e1,lw,aq c.af.ce i qk,ao,hw,is,AC,pp,e2,aq c.io k HX,bV b1,fi',show ((6:Int) !=0)=abQ from rfl]
  rw [rc lv] at fi';obtain ⟨w,hw1,Ue,hw3⟩:=jU.live lv;rw [Ue,Do] at fi';have q1:(0<=(c.io[k]!).2.1/\(c.io[k]!).2.1<200/\0<=c.aa.aj[(c.io[k]!).2.1.toNat]!):=⟨lv.1,by have:=lv.2.1;omega,by rw [Ue];omega⟩
  by_cases b2:(c.aa.bv[w]!).2.2.1=(c.af.ce[i]!).1
  case neg=>
   refine stop (y8 (fun h=>b2 ?_)) ?_
   · have:=(ea.2 h.2).2.2.2
     rw [Ue,Do] at this;rw [this]
   unfold cY
   simp only [ay,e1,lw,aq c.af.ce i qk,ao,hw,is,AC,pp,e2,aq c.io k HX,bV b1,fi',show ((0:Int) !=0)=abW from rfl,dN b2]
  have teq:((c.aa.bv[w]!).1==(bk c.ii.am (c.af.ce[i]!).2 c.ci).1.1&&(c.aa.bv[w]!).2.1==(bk c.ii.am (c.af.ce[i]!).2 c.ci).1.2)=abY (((c.aa.bv[w]!).1,(c.aa.bv[w]!).2.1)=(bk c.ii.am (c.af.ce[i]!).2 c.ci).1):=by
   rw [aau,decide_eq_true_iff];simp only [ab5,beq_iff_eq];constructor
   · rintro ⟨h1,h2⟩;exact UV h1 h2
   intro h;rw [<- h];exact ⟨rfl,rfl⟩
  by_cases b3:((c.aa.bv[w]!).1,(c.aa.bv[w]!).2.1)=(bk c.ii.am (c.af.ce[i]!).2 c.ci).1
  case neg=>
   refine stop (y8 (fun h=>b3 ?_)) ?_
   · have:=(ea.2 h.2).2.2.2
     rw [Ue,Do] at this;rw [this]
   unfold cY
   simp only [ay,e1,lw,aq c.af.ce i qk,ao,hw,is,AC,pp,e2,aq c.io k HX,bV b1,fi',show ((0:Int) !=0)=abW from rfl,bV b2];rw [teq,aD b3];rfl
  have y5:=ea.1 ⟨q1.1,q1.2.1,q1.2.2,by rw [Ue,Do];have t1:=congrArg abp b3;have t2:=congrArg abq b3;exact UV t1 (UV t2 (UV b2 hw3))⟩;rw [aQ (y:=(((k+1:Nat):Int),((i+1:Nat):Int),c.ci.1,c.ci.2,c.ii.am,c.af.aL,c.af.ce,c.aa.ae.ar,c.aa.ae.be,c.aa.ae.bi,c.aa.bv,c.aa.aj,c.io)) (by unfold cY;simp only [ay,e1,lw,aq c.af.ce i qk,ao,hw,is,AC,pp,e2,aq c.io k HX,bV b1,fi',show ((0:Int) !=0)=abW from rfl,bV b2,sc,sk];rw [teq,aH b3];rfl),ih (i+1) (k+1) (by omega) (by omega) (by omega)];have same:aT c.ii.am c.ci c.aa.bv (c.af.ce.drop i) (c.io.drop k)↔aT c.ii.am c.ci c.aa.bv (c.af.ce.drop (i+1)) (c.io.drop (k+1)):=by
   rw [dr,dk];constructor
   · intro h2
     obtain ⟨d,xF,k1,k2,k3,k4⟩:=h2.1 is;injection k1 with k1 k5;subst k5;exact k4
   intro h2
   exact ⟨fun _=>⟨_,_,rfl,b1,y5,h2⟩,fun h=>by rw [is] at h;cases h⟩
  simp only [same]
theorem FZ {c:aI} (fit:ss c):s8 c=abK (if aS c then 0 else 8):=by
 unfold s8;rw [lC fit.iz,FA,yi,ye _ fit.ag];simp only [ao]
 by_cases iL:aW c.ci
 case neg=>rw [ut iL,ut (c:=aS c) (fun h=>iL h.iL)];rfl
 rw [rc iL]
 by_cases iD:bF c.ii.am
 case neg=>rw [dN (fun h=>iD (jT.1 h)),ut (c:=aS c) (fun h=>iD h.iD)];rfl
 rw [bV (jT.2 iD)]
 by_cases rE:dU c.af
 case neg=>rw [ut rE,ut (c:=aS c) (fun h=>rE h.rE)];rfl
 rw [rc rE];have kn:=Tm c.af iD rE.len;simp only [show ((0:Int) !=0)=abW from rfl,pp,kn,ao]
 by_cases known: ∀i,i<abI c.af.ce->iy c.ii.am (c.af.ce[i]!).2
 case neg=>rw [aD known,ut (c:=aS c) (fun h=>known h.known)];rfl
 rw [aH known]
 by_cases jU:dW c.aa
 case neg=>rw [ut jU,ut (c:=aS c) (fun h=>jU h.jU)];rfl
 rw [rc jU];simp only [ay,show ((0:Int) !=0)=abW from rfl,pp,AC]
 by_cases w2:(abI c.aa.aj)=200
 case neg=>rw [dN (by omega),ut (c:=aS c) (fun h=>w2 h.Dz)];rfl
 rw [bV (by omega)]
 by_cases hd:(abI c.aa.bv)=abI c.io
 case neg=>rw [dN (by omega),ut (c:=aS c) (fun h=>hd h.hd)];rfl
 rw [bV (by omega)];have run:=KO fit.iz iD rE jU w2 fit.du known (abI c.af.ce) 0 0 (by omega) (by omega) (by omega);rw [aaw,aaw] at run;have same:aT c.ii.am c.ci c.aa.bv c.af.ce c.io↔aS c:=by rw [aS.iff fit];exact ⟨fun h=>⟨iL,iD,rE,jU,w2,hd,known,h⟩,fun h=>h.2.2.2.2.2.2.2⟩
 simp only [same] at run;simp only [pp];exact run
section
variable {l : List Pt} {t : Int × Int}
theorem aT.gY {H:List Ev} {x:qi} {cs ds:List qi} (h:(bk l x.2 t).2=abQ):aT l t H (x::cs) ds↔ ∃d xF,ds=d::xF/\d.1=x.1/\(((bk l x.2 t).1.1,(bk l x.2 t).1.2,x.1,d.2):Ev)∈H/\aT l t H cs xF:=
 ⟨fun k=>k.1 h,fun k=>⟨fun _=>k,fun k'=>(by rw [h] at k';cases k')⟩⟩
theorem aT.fP {H:List Ev} {x:qi} {cs ds:List qi} (h:(bk l x.2 t).2=abW):aT l t H (x::cs) ds↔aT l t H cs ds:=
 ⟨fun k=>k.2 h,fun k=>⟨fun k'=>(by rw [h] at k';cases k'),fun _=>k⟩⟩
theorem aT.mono {H H':List Ev}: ∀{cs ds:List qi},(∀x∈cs,∀e:Ev,e.num=x.1->e∈H->e∈H')->aT l t H cs ds->aT l t H' cs ds
 | [],_,_,h=>h
 |x::cs,ds,hm,h=>by
  have zR: ∀y∈cs,∀e:Ev,e.num=y.1->e∈H->e∈H':=fun y hy=>hm y (by simp [hy])
  cases hx:(bk l x.2 t).2 with
  |true=>rw [aT.gY hx] at h ⊢;obtain ⟨d,xF,h1,h2,h3,h4⟩:=h;exact ⟨d,xF,h1,h2,hm x (by simp) _ rfl h3,aT.mono zR h4⟩
  |false=>rw [aT.fP hx] at h ⊢;exact aT.mono zR h
theorem aT.io {H:List Ev}: ∀{cs ds:List qi},aT l t H cs ds-> ∀d∈ds,∃x∈cs,d.1=x.1/\(bk l x.2 t).2=abQ/\(((bk l x.2 t).1.1,(bk l x.2 t).1.2,x.1,d.2):Ev)∈H
 | [],ds,h,d,hd=>by have:ds=[]:=h;subst this;cases hd
 |x::cs,ds,h,d,hd=>by
  cases hx:(bk l x.2 t).2 with
  |true=>
   rw [aT.gY hx] at h;obtain ⟨e,xF,h1,h2,h3,h4⟩:=h;subst h1;rcases aaE.1 hd with rfl|hd
   · exact ⟨x,by simp,h2,hx,h3⟩
   obtain ⟨y,hy,k⟩:=aT.io h4 d hd
   exact ⟨y,by simp [hy],k⟩
  |false=>rw [aT.fP hx] at h;obtain ⟨y,hy,k⟩:=aT.io h d hd;exact ⟨y,by simp [hy],k⟩
theorem aT.has {H:List Ev}: ∀{cs ds:List qi},aT l t H cs ds-> ∀x∈cs,(bk l x.2 t).2=abQ-> ∃d∈ds,d.1=x.1/\(((bk l x.2 t).1.1,(bk l x.2 t).1.2,x.1,d.2):Ev)∈H
 | [],_,_,x,hx,_=>by cases hx
 |y::cs,ds,h,x,hx,hf=>by
  cases hy:(bk l y.2 t).2 with
  |true=>
   rw [aT.gY hy] at h;obtain ⟨e,xF,h1,h2,h3,h4⟩:=h;subst h1;rcases aaE.1 hx with rfl|hx
   · exact ⟨e,by simp,h2,h3⟩
   obtain ⟨d,hd,k⟩:=aT.has h4 x hx hf
   exact ⟨d,by simp [hd],k⟩
  |false=>
   rw [aT.fP hy] at h;rcases aaE.1 hx with rfl|hx
   · rw [hf] at hy;cases hy
   exact aT.has h x hx hf
def Up (cs:List qi):Prop:=cs.Pairwise fun x y=>x.1<y.1
theorem ri {cs:List qi}:Up cs↔ ∀i j,i<j->j<abI cs->(cs[i]!).1<(cs[j]!).1:=by
 unfold Up;rw [List.pairwise_iff_getElem];constructor
 · intro h i j k9 hj
   rw [getElem!_pos cs i (by omega),getElem!_pos cs j hj];exact h i j (by omega) hj k9
 intro h i j hi hj k9
 have:=h i j k9 hj
 rwa [getElem!_pos cs i hi,getElem!_pos cs j hj] at this
theorem aT.up {H:List Ev}: ∀{cs ds:List qi},aT l t H cs ds->Up cs->Up ds
 | [],ds,h,_=>by have:ds=[]:=h;subst this;exact List.Pairwise.nil
 |x::cs,ds,h,hu=>by
  have BJ:=aaV.1 hu;cases hx:(bk l x.2 t).2 with
  |true=>rw [aT.gY hx] at h;obtain ⟨e,xF,h1,h2,h3,h4⟩:=h;subst h1;refine aaV.2 ⟨fun d hd=>?_,aT.up h4 BJ.2⟩;obtain ⟨y,hy,k,_⟩:=aT.io h4 d hd;have:=BJ.1 y hy;omega
  |false=>rw [aT.fP hx] at h;exact aT.up h BJ.2
theorem aT.snoc {H:List Ev}: ∀{cs ds:List qi} {x:qi},aT l t H cs ds->((bk l x.2 t).2=abW->aT l t H (cs++[x]) ds)/\
 (∀d:qi,(bk l x.2 t).2=abQ->d.1=x.1->(((bk l x.2 t).1.1,(bk l x.2 t).1.2,x.1,d.2):Ev)∈H->aT l t H (cs++[x]) (ds++[d]))
 | [],ds,x,h=>by have:ds=[]:=h;subst this;refine ⟨fun hx=>(aT.fP hx).2 rfl,fun d hx h1 h2=>(aT.gY hx).2 ⟨d,[],rfl,h1,h2,rfl⟩⟩
 |y::cs,ds,x,h=>by
  cases hy:(bk l y.2 t).2 with
  |true=>rw [aT.gY hy] at h;obtain ⟨e,xF,h1,h2,h3,h4⟩:=h;subst h1;have ih:=aT.snoc (x:=x) h4;refine ⟨fun hx=>(aT.gY hy).2 ⟨e,xF,rfl,h2,h3,ih.1 hx⟩,fun d hx k1 k2=>(aT.gY hy).2 ⟨e,xF++[d],rfl,h2,h3,ih.2 d hx k1 k2⟩⟩
  |false=>rw [aT.fP hy] at h;have ih:=aT.snoc (x:=x) h;exact ⟨fun hx=>(aT.fP hy).2 (ih.1 hx),fun d hx k1 k2=>(aT.fP hy).2 (ih.2 d hx k1 k2)⟩
theorem aT.erase {H:List Ev}: ∀{cs ds:List qi} {i:Nat},aT l t H cs ds->i<abI cs->((bk l (cs[i]!).2 t).2=abW->aT l t H (cs.eraseIdx i) ds)/\
 ((bk l (cs[i]!).2 t).2=abQ-> ∃k,k<abI ds/\(ds[k]!).1=(cs[i]!).1/\(((bk l (cs[i]!).2 t).1.1,(bk l (cs[i]!).2 t).1.2,(cs[i]!).1,(ds[k]!).2):Ev)∈H/\aT l t H (cs.eraseIdx i) (ds.eraseIdx k))
 | [],_,i,_,hi=>by cases hi
 |y::cs,ds,0,h,_=>by show ((bk l y.2 t).2=abW->aT l t H cs ds)/\((bk l y.2 t).2=abQ-> ∃k,k<abI ds/\(ds[k]!).1=y.1/\(((bk l y.2 t).1.1,(bk l y.2 t).1.2,y.1,(ds[k]!).2):Ev)∈H/\aT l t H cs (ds.eraseIdx k));refine ⟨fun hy=>(aT.fP hy).1 h,fun hy=>?_⟩;obtain ⟨e,xF,h1,h2,h3,h4⟩:=(aT.gY hy).1 h;subst h1;exact ⟨0,by simp,h2,h3,h4⟩
 |y::cs,ds,i+1,h,hi=>by
  have qk:i<(abI cs):=by simpa using hi
  show ((bk l (cs[i]!).2 t).2=abW->aT l t H (y::cs.eraseIdx i) ds)/\((bk l (cs[i]!).2 t).2=abQ-> ∃k,k<abI ds/\(ds[k]!).1=(cs[i]!).1/\(((bk l (cs[i]!).2 t).1.1,(bk l (cs[i]!).2 t).1.2,(cs[i]!).1,(ds[k]!).2):Ev)∈H/\aT l t H (y::cs.eraseIdx i) (ds.eraseIdx k));cases hy:(bk l y.2 t).2 with
  |true=>obtain ⟨e,xF,h1,h2,h3,h4⟩:=(aT.gY hy).1 h;subst h1;have ih:=aT.erase (i:=i) h4 qk;refine ⟨fun hx=>(aT.gY hy).2 ⟨e,xF,rfl,h2,h3,ih.1 hx⟩,fun hx=>?_⟩;obtain ⟨k,k1,k2,k3,k4⟩:=ih.2 hx;exact ⟨k+1,by simp;omega,k2,k3,(aT.gY hy).2 ⟨e,xF.eraseIdx k,rfl,h2,h3,k4⟩⟩
  |false=>have h:=(aT.fP hy).1 h;have ih:=aT.erase (i:=i) h qk;refine ⟨fun hx=>(aT.fP hy).2 (ih.1 hx),fun hx=>?_⟩;obtain ⟨k,k1,k2,k3,k4⟩:=ih.2 hx;exact ⟨k,k1,k2,k3,(aT.fP hy).2 k4⟩
end
theorem Db {H:List Ev} {ns:List Int} (hd:ns.Nodup) (hl:(abI H)<=abI ns) (he: ∀n∈ns,∃e∈H,Ev.num e=n): ∀e∈H,Ev.num e∈ns:=by
 have pos: ∀n,n∈ns-> ∃w,w<abI H/\Ev.num H[w]! =n:=fun n hn=>by obtain ⟨e,he,h2⟩:=he n hn;obtain ⟨w,hw,rfl⟩:=aP.1 he;exact ⟨w,hw,h2⟩
 let f:Int->Nat:=fun n=>if h: ∃w,w<abI H/\Ev.num H[w]! =n then h.choose else 0
 have hf: ∀n∈ns,f n<abI H/\Ev.num H[f n]! =n:=fun n hn=>by have h:=pos n hn;show (if h: ∃w,w<abI H/\Ev.num H[w]! =n then h.choose else 0)<_/\Ev.num H[(if h: ∃w,w<abI H/\Ev.num H[w]! =n then h.choose else 0)]! =n;rw [dif_pos h];exact h.choose_spec
 have full:=C7 (n:=abI H) (l:=ns.map f) (yU hd fun x hx y hy h=>by
  have h1:=(hf x hx).2;have h2:=(hf y hy).2;rw [h] at h1;omega) (fun x hx=>by
  obtain ⟨n,hn,rfl⟩:=aa2.1 hx;exact (hf n hn).1) (by rw [abg];exact hl)
 intro e hm;obtain ⟨w,hw,rfl⟩:=aP.1 hm;obtain ⟨n,hn,h⟩:=aa2.1 (full w hw);rw [<- h,(hf n hn).2];exact hn
theorem KP {cs:List qi} (h:Up cs):(cs.map fun x=>x.1).Nodup:=by
 refine yU ?_ ?_
 · unfold Up at h
   exact h.imp fun GI he=>by rw [he] at GI;omega
 intro x hx y hy he
 obtain ⟨i,hi,rfl⟩:=aP.1 hx;obtain ⟨j,hj,rfl⟩:=aP.1 hy;rcases aam i j with h1|h1|h1
 · have:=ri.1 h i j h1 hj;omega
 · rw [h1]
 have:=ri.1 h j i h1 hi;omega
theorem aS.sx {c:aI} (ok:aS c):Up c.af.ce:=ri.2 ok.rE.up
theorem aS.F0 {c:aI} (ok:aS c):Up c.io:=ok.y8.up ok.sx
theorem aS.yf {c:aI} (ok:aS c): ∀e∈c.aa.bv,∃d∈c.io,d.1=Ev.num e:=by have:=Db (H:=c.aa.bv) (KP ok.F0) (by rw [abg,ok.hd];exact EQ _) (fun n hn=>by obtain ⟨d,hd,rfl⟩:=aa2.1 hn;obtain ⟨x,hx,h1,h2,h3⟩:=ok.y8.io d hd;exact ⟨_,h3,h1.symm⟩);intro e he;obtain ⟨d,hd,h⟩:=aa2.1 (this e he);exact ⟨d,hd,h⟩
end Go.Proofs.YthljmpcakagceaaGreat
