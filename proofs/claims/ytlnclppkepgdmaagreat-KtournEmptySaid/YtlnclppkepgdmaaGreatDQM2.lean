/- Plain laws (2). -/
import Derived.Test.YtlnclppkepgdmaaGreatDQM1
open Classical renaming not_not->bn,not_forall->bw,not_imp->cb
open List renaming length_set->bo,length_take->bz,take_of_length_le->cd,take_append_of_le_length->ce,mem_map->cj,append_assoc->cq,drop_length->cw,drop_eq_nil_iff->cy,length_append->cz,set_eq_of_length_le->c8,length_drop->c9,drop_eq_nil_of_le->dd,drop_zero->dh,filter_eq_self->di,mem_cons->dm,getElem?_take->dp,filter_append->dt,pairwise_cons->dv,getElem?_set->dw,length_cons->dy,isEmpty_iff->dz,length_nil->d6,append_nil->d7,length_map->d8,replicate->d9,take_take->ec,set_comm->eg
open Bool renaming not_true->bq,not_false->cm,eq_iff_iff->de,and_eq_true->d5,and_self->eh
open Int renaming toNat_natCast->bu,lt_irrefl->dj
open Nat renaming le_refl->bv,ble_eq_true_of_le->cu,lt_trichotomy->c7,sub_self->dc,eq_of_beq_eq_true->df,le_trans->ei,beq->ej,min_self->ek
open Prod renaming ext->ci,fst->ed,snd->ef
open Iff renaming rfl->db
namespace Go.Proofs.YtlnclppkepgdmaaGreat
open Go.Vm Classical
theorem WG (a:aP) (fit:F0 a) (so:fP a.ai) (wl:a.am.length=a.ai.ac.length):
 aH nV (a.am,(a.am.length:Int),0,a.ai.ac,a.ai.ae,a.ai.af,a.aj,a.am)=some (if (∀i,i<a.ai.ac.length->QX a i)/\(∀k,k<a.aj.length->SN a.aj k) then 0 else 8):=by
 have hu:=so.ul;have hn:=so.n2;have hh:=fit.hp;have inner:=WE a.aj a.ai.ac a.ai.af a.am a.ai.ae fit.hp fit.at64
 have key:=dT (body:=nV) (fun i=>(a.am,(a.am.length:Int),(i:Int),a.ai.ac,a.ai.ae,a.ai.af,a.aj,a.am)) a.am.length (fun i=> ¬QX a i) (r:=8) (e:=if (∀k,k<a.aj.length->SN a.aj k) then 0 else 8) (fun i hi=>by
  have e1:decide ((i:Int)<(a.am.length:Int))=true:=aK (by omega)
  unfold nV;simp only [aF,e1,cond_true,aE a.am i hi,aE a.ai.ae i (by omega),aE a.ai.ac i (by omega),aB,aV (show i<1000000000 by omega)]
  unfold QX;generalize a.am[i]! =w at*;cases hb:a.ai.ae[i]! with
  |false=>
   simp only [cm,cond_true]
   by_cases hw:w= -1
   · rw [bP hw]
     exact ⟨fun h=>absurd ⟨fun h=>(by cases h),fun _=>hw⟩ h,fun _=>rfl⟩
   rw [dM hw]
   exact ⟨fun _=>rfl,fun h=>absurd ((bn.1 h).2 trivial) hw⟩
  |true=>
   simp only [bq,cond_false]
   by_cases b1:w<0
   · rw [aK b1]
     exact ⟨fun _=>rfl,fun h=>absurd ((bn.1 h).1 trivial).1 (by omega)⟩
   by_cases b2:(a.aj.length:Int)<=w
   · rw [dec_f b1,aK b2]
     exact ⟨fun _=>rfl,fun h=>absurd ((bn.1 h).1 trivial).2.1 (by omega)⟩
   rw [dec_f b1,dec_f b2];simp only [cond_false,eK (l:=a.aj) (i:=w) (by omega) (by omega),aB]
   by_cases b3:(a.aj[w.toNat]!).2.2.2.1=i
   · by_cases b4:(a.aj[w.toNat]!).2.2.2.2=a.ai.ac[i]!
     · rw [dW b3,dW b4]
       exact ⟨fun h=>absurd ⟨fun _=>⟨by omega,by omega,b3,b4⟩,fun h=>(by cases h)⟩ h,fun _=>rfl⟩
     rw [dW b3,eT b4]
     exact ⟨fun _=>rfl,fun h=>absurd ((bn.1 h).1 trivial).2.2.2 b4⟩
   rw [eT b3]
   exact ⟨fun _=>rfl,fun h=>absurd ((bn.1 h).1 trivial).2.2.1 b3⟩) (by
  unfold nV
  have:decide ((a.am.length:Int)<(a.am.length:Int))=false:=dec_f (by omega)
  simp only [aF,this,cond_false]
  by_cases hx: ∀k,k<a.aj.length->SN a.aj k
  · rw [if_pos hx];exact inner.1 hx
  rw [if_neg hx];exact inner.2 hx)
 by_cases hw: ∀i,i<a.ai.ac.length->QX a i
 · refine (key.2 fun i hi=>bn.2 (hw i (by omega))).trans ?_
   by_cases hx: ∀k,k<a.aj.length->SN a.aj k
   · rw [if_pos hx,if_pos ⟨hw,hx⟩]
   rw [if_neg hx,if_neg (fun h=>hx h.2)]
 rw [if_neg (fun h=>hw h.1)]
 obtain ⟨i,h⟩:=bw.1 hw;obtain ⟨hi,hx⟩:=cb.1 h;exact key.1 ⟨i,by omega,hx⟩
theorem kW (a:aP) (fit:F0 a):lC a=some (if fQ a then 0 else 8):=by
 have hh:=fit.hp;unfold lC;rw [BI _ fit.fr];simp only [aF]
 by_cases so:fP a.ai
 case neg=>rw [if_neg so,if_neg (fun h=>so h.so)];rfl
 have hu:=so.ul;have hn:=so.n2;have hf:=so.fl;rw [if_pos so];simp only [aB,show ((0:Int) !=0)=false from rfl,cond_false]
 by_cases wl:a.am.length=a.ai.ac.length
 case neg=>
  rw [dM (by omega),if_neg (fun h=>wl h.wl)];rfl
 rw [bP (by omega)]
 have e:aA .i64 ((a.ai.ae.length:Int) - (a.ai.af.length:Int))=((a.ai.ac.length-a.ai.af.length:Nat):Int):=by rw [wi];omega
 rw [e]
 by_cases hl:a.aj.length+a.ai.af.length=a.ai.ac.length
 case neg=>
  rw [dM (by omega),if_neg (fun h=>hl h.hl)];rfl
 rw [bP (by omega)]
 simp only [cond_false];rw [WG a fit so wl]
 by_cases ok:fQ a
 · rw [if_pos ok,if_pos ok.to]
 rw [if_neg ok,if_neg]
 intro h;exact ok (fQ.of fit so wl hl h.1 h.2)
theorem aGI {x y:Ev} (hx:nD (x.1,x.2.1)) (hy:nD (y.1,y.2.1)):fI x y=some (decide (eG x y)):=by
 unfold fI eG;rw [uH hx hy];simp only [aB];generalize iH (x.1,x.2.1) (y.1,y.2.1)=c
 by_cases h1:c<0
 · simp [h1]
 by_cases h2:c=0
 · subst h2;simp
 simp only [h1,eT h2,h2,decide_false,cond_false,false_or,false_and]
theorem aDe {s:bA} (ok:fP s) (h:Int×Int):zC s h=some (decide (AZ s h)):=by
 have hu:=ok.ul;unfold zC AZ;simp only [aF]
 by_cases a1:0<=h.1
 · by_cases a2:h.1<s.ac.length
   · simp only [a1,a2,decide_true,cond_true,eK (l:=s.ae) a1 (by omega),eK (l:=s.ac) a1 a2,aB,true_and]
     generalize s.ac[h.1.toNat]! =u;cases s.ae[h.1.toNat]!<;>simp [aDc]
   simp [a1,a2]
 simp [a1]
theorem aEn (a:aP) (so:fP a.ai):xX a=some (decide (a.am.length=a.ai.ac.length/\a.aj.length+a.ai.af.length=a.ai.ac.length/\ ∀i,i<a.ai.ac.length->QX a i)):=by
 have hu:=so.ul;have hn:=so.n2;have hf:=so.fl;unfold xX;simp only [aF]
 by_cases wl:a.am.length=a.ai.ac.length
 case neg=>
  rw [dM (by omega),dec_f (fun h=>wl h.1)];rfl
 rw [bP (by omega)]
 have e:aA .i64 ((a.ai.ac.length:Int) - (a.ai.af.length:Int))=((a.ai.ac.length-a.ai.af.length:Nat):Int):=by rw [wi];omega
 rw [e]
 by_cases hl:a.aj.length+a.ai.af.length=a.ai.ac.length
 case neg=>
  rw [dM (by omega),dec_f (fun h=>hl h.2.1)];rfl
 rw [bP (by omega)]
 simp only [cond_false];have key:=dT (body:=qO) (fun i=>((a.ai.ac.length:Int),(i:Int),a.ai.ac,a.ai.ae,a.ai.af,a.aj,a.am)) a.ai.ac.length (fun i=> ¬QX a i) (r:=false) (e:=true) (fun i hi=>by
  have e1:decide ((i:Int)<(a.ai.ac.length:Int))=true:=aK (by omega)
  unfold qO;simp only [aF,e1,cond_true,aE a.am i (by omega),aE a.ai.ae i (by omega),aB,aV (show i<1000000000 by omega)]
  unfold QX;generalize a.am[i]! =w at*;cases hb:a.ai.ae[i]! with
  |false=>
   simp only [cm,cond_true]
   by_cases hw:w= -1
   · rw [bP hw]
     exact ⟨fun h=>absurd ⟨fun h=>(by cases h),fun _=>hw⟩ h,fun _=>rfl⟩
   rw [dM hw]
   exact ⟨fun _=>rfl,fun h=>absurd ((bn.1 h).2 trivial) hw⟩
  |true=>
   simp only [bq,cond_false]
   by_cases b1:w<0
   · rw [aK b1]
     exact ⟨fun _=>rfl,fun h=>absurd ((bn.1 h).1 trivial).1 (by omega)⟩
   by_cases b2:(a.aj.length:Int)<=w
   · rw [dec_f b1,aK b2]
     exact ⟨fun _=>rfl,fun h=>absurd ((bn.1 h).1 trivial).2.1 (by omega)⟩
   rw [dec_f b1,dec_f b2];simp only [cond_false,eK (l:=a.aj) (i:=w) (by omega) (by omega),aB]
   by_cases b3:(a.aj[w.toNat]!).2.2.2.1=i
   · rw [bP b3]
     simp only [cond_false];rw [aDe (s:=⟨a.ai.ac,a.ai.ae,a.ai.af⟩) so];have lv:AZ ⟨a.ai.ac,a.ai.ae,a.ai.af⟩ (a.aj[w.toNat]!).2.2.2↔(a.aj[w.toNat]!).2.2.2.2=a.ai.ac[i]!:=by
      unfold AZ;dsimp only;rw [b3];constructor
      · intro h;exact h.2.2.2.symm
      intro h;exact ⟨by omega,by omega,by rw [bu];exact hb,by rw [bu];exact h.symm⟩
     simp only [aB,lv]
     by_cases b4:(a.aj[w.toNat]!).2.2.2.2=a.ai.ac[i]!
     · rw [aK b4]
       exact ⟨fun h=>absurd ⟨fun _=>⟨by omega,by omega,b3,b4⟩,fun h=>(by cases h)⟩ h,fun _=>rfl⟩
     rw [dec_f b4]
     exact ⟨fun _=>rfl,fun h=>absurd ((bn.1 h).1 trivial).2.2.2 b4⟩
   rw [dM b3]
   exact ⟨fun _=>rfl,fun h=>absurd ((bn.1 h).1 trivial).2.2.1 b3⟩) (by
  unfold qO
  have:decide ((a.ai.ac.length:Int)<(a.ai.ac.length:Int))=false:=dec_f (by omega)
  simp only [this,cond_false])
 by_cases hw: ∀i,i<a.ai.ac.length->QX a i
 · rw [aK ⟨wl,hl,hw⟩]
   exact key.2 fun i hi=>bn.2 (hw i hi)
 rw [dec_f (fun h=>hw h.2.2)]
 obtain ⟨i,h⟩:=bw.1 hw;obtain ⟨hi,hx⟩:=cb.1 h;exact key.1 ⟨i,hi,hx⟩
theorem Z0 (H:List Ev) (u fr W:List Int) (us:List Bool) (k:Nat) (hk:k<H.length) (hl:H.length<=1000000) (x:Ev):
 ((∃j,j<k/\(H[j]!).2.2.1=x.2.2.1)->aH mL ((k:Int),0,u,us,fr,H,W,x)=some (.done 8))/\
 ((∀j,j<k-> ¬(H[j]!).2.2.1=x.2.2.1)->aH mL ((k:Int),0,u,us,fr,H,W,x)=some (.next (((k+1:Nat):Int),u,us,fr,H,W))):=by
 refine dT (body:=mL) (fun j=>((k:Int),(j:Int),u,us,fr,H,W,x)) k (fun j=>(H[j]!).2.2.1=x.2.2.1) (r:= .done 8) (e:= .next (((k+1:Nat):Int),u,us,fr,H,W)) (fun j hj=>?_) ?_
 · have e1:decide ((j:Int)<(k:Int))=true:=aK (by omega)
   unfold mL;simp only [e1,cond_true,aE H j (by omega),aB,aV (show j<1000000000 by omega)]
   constructor
   · intro h;rw [dW h];rfl
   intro h;rw [eT h];rfl
 unfold mL
 have:decide ((k:Int)<(k:Int))=false:=dec_f (by omega)
 simp only [this,cond_false,aV (show k<1000000000 by omega)]
theorem Z1 (H:List Ev) (u fr W:List Int) (us:List Bool) (hl:H.length<=1000000) (r64: ∀w,w<H.length->nD ((H[w]!).1,(H[w]!).2.1)):
 aH mM (1,u,us,fr,H,W)=some (.done (if∀k,0<k->k<H.length-> ¬eG H[k]! H[(k-1) / 2]! then 0 else 8)):=by
 by_cases h0:H.length=0
 · rw [if_pos (fun k _ hk=>by omega)]
   refine aL ?_;unfold mM
   have:decide ((1:Int)<(H.length:Int))=false:=dec_f (by omega)
   simp only [aF,this,cond_false]
 have key:=dT (body:=mM) (fun i=>(((i+1:Nat):Int),u,us,fr,H,W)) (H.length-1) (fun i=>eG H[i+1]! H[i / 2]!) (r:= .done 8) (e:= .done 0) (fun i hi=>by
  have e1:decide (((i+1:Nat):Int)<(H.length:Int))=true:=aK (by omega)
  unfold mM;simp only [aF,e1,cond_true,xE (show i<1000000000 by omega),aE H (i+1) (by omega),aE H (i / 2) (by omega),aB,aGI (r64 (i+1) (by omega)) (r64 (i / 2) (by omega)),aV (show i+1<1000000000 by omega)]
  constructor
  · intro h;rw [aK h];rfl
  · intro h;rw [dec_f h];rfl) (by
  unfold mM
  have:decide (((H.length-1+1:Nat):Int)<(H.length:Int))=false:=dec_f (by omega)
  simp only [aF,this,cond_false])
 by_cases ho: ∀k,0<k->k<H.length-> ¬eG H[k]! H[(k-1) / 2]!
 · rw [if_pos ho]
   refine key.2 fun i hi hc=>ho (i+1) (by omega) (by omega) ?_
   rwa [show (i+1-1) / 2=i / 2 by omega]
 rw [if_neg ho]
 obtain ⟨k,h⟩:=bw.1 ho;obtain ⟨k0,h⟩:=cb.1 h;obtain ⟨hk,hx⟩:=cb.1 h;refine key.1 ⟨k-1,by omega,?_⟩
 rw [show k-1+1=k by omega]
 exact bn.1 hx
def WH (H:List Ev) (k:Nat):Prop:=bK ((H[k]!).1,(H[k]!).2.1)/\0<=(H[k]!).2.2.1/\(H[k]!).2.2.1<=1000000/\(∀j,j<k-> ¬(H[j]!).2.2.1=(H[k]!).2.2.1)
theorem F1 (a:aP) (fit:F0 a):wJ a=some (if fQ a then 0 else 8):=by
 have hh:=fit.hp;unfold wJ;rw [QW _ fit.fr]
 by_cases so:fP a.ai
 case neg=>rw [if_neg so,if_neg (fun h=>so h.so)];rfl
 rw [if_pos so];simp only [aB,show ((0:Int) !=0)=false from rfl,cond_false,aEn a so]
 by_cases pl:a.am.length=a.ai.ac.length/\a.aj.length+a.ai.af.length=a.ai.ac.length/\ ∀i,i<a.ai.ac.length->QX a i
 case neg=>
  rw [dec_f pl,if_neg (fun h=>pl ⟨h.wl,h.hl,h.to.1⟩)];rfl
 rw [aK pl];obtain ⟨wl,hl,hw⟩:=pl;simp only [bq,cond_false];have key:=dT (body:=sS) (fun k=>((k:Int),a.ai.ac,a.ai.ae,a.ai.af,a.aj,a.am)) a.aj.length (fun k=> ¬WH a.aj k) (r:=8) (e:=if∀k,0<k->k<a.aj.length-> ¬eG a.aj[k]! a.aj[(k-1) / 2]! then 0 else 8) (fun k hk=>by
  have e1:decide ((k:Int)<(a.aj.length:Int))=true:=aK (by omega)
  have l1:=Z0 a.aj a.ai.ac a.ai.af a.am a.ai.ae k hk hh a.aj[k]!;unfold sS;simp only [aF,e1,cond_true,aE a.aj k hk,aB,iQ (fit.at64 k hk)];unfold WH
  by_cases b1:bK ((a.aj[k]!).1,(a.aj[k]!).2.1)
  case neg=>
   rw [if_neg b1];exact ⟨fun _=>rfl,fun h=>absurd (bn.1 h).1 b1⟩
  rw [if_pos b1]
  by_cases b2:(a.aj[k]!).2.2.1<0
  · rw [aK b2]
    exact ⟨fun _=>rfl,fun h=>absurd (bn.1 h).2.1 (by omega)⟩
  by_cases b3:1000000<(a.aj[k]!).2.2.1
  · rw [dec_f b2,aK b3]
    exact ⟨fun _=>rfl,fun h=>absurd (bn.1 h).2.2.1 (by omega)⟩
  rw [dec_f b2,dec_f b3];simp only [show ((0:Int) !=0)=false from rfl,cond_false]
  by_cases b4: ∃j,j<k/\(a.aj[j]!).2.2.1=(a.aj[k]!).2.2.1
  · refine ⟨fun _=>l1.1 b4,fun h=>?_⟩
    obtain ⟨j,j1,j2⟩:=b4;exact absurd j2 ((bn.1 h).2.2.2 j j1)
  · have b4': ∀j,j<k-> ¬(a.aj[j]!).2.2.1=(a.aj[k]!).2.2.1:=fun j h1 h2=>b4 ⟨j,h1,h2⟩
    exact ⟨fun h=>absurd ⟨b1,by omega,by omega,b4'⟩ h,fun _=>l1.2 b4'⟩) (by
  unfold sS
  have:decide ((a.aj.length:Int)<(a.aj.length:Int))=false:=dec_f (by omega)
  simp only [aF,this,cond_false];exact Z1 a.aj _ _ _ _ hh fit.at64)
 have same:fQ a↔(∀k,k<a.aj.length->WH a.aj k)/\ ∀k,0<k->k<a.aj.length-> ¬eG a.aj[k]! a.aj[(k-1) / 2]!:=by
  constructor
  · intro ok
    refine ⟨fun k hk=>?_,ok.ord⟩
    have:=ok.to.2 k hk
    exact ⟨this.1,this.2.1,this.2.2.1,this.2.2.2.1⟩
  rintro ⟨h1,h2⟩
  refine fQ.of fit so wl hl hw fun k hk=>?_
  obtain ⟨c1,c2,c3,c4⟩:=h1 k hk;refine ⟨c1,c2,c3,c4,fun k0=>?_⟩
  unfold aBF;rw [if_pos ⟨c1,(h1 ((k-1) / 2) (by omega)).1⟩,KU]
  exact h2 k k0 hk
 by_cases he: ∀k,k<a.aj.length->WH a.aj k
 · refine (key.2 fun i hi=>bn.2 (he i hi)).trans ?_
   by_cases ho: ∀k,0<k->k<a.aj.length-> ¬eG a.aj[k]! a.aj[(k-1) / 2]!
   · rw [if_pos ho,if_pos (same.2 ⟨he,ho⟩)]
   rw [if_neg ho,if_neg (fun h=>ho (same.1 h).2)]
 rw [if_neg (fun h=>he (same.1 h).1)]
 obtain ⟨i,h⟩:=bw.1 he;obtain ⟨hi,hx⟩:=cb.1 h;exact key.1 ⟨i,hi,hx⟩
theorem HU {l:List Ev} {n:Nat} {e:Ev} (hn:n<=l.length):e∈l.take n↔ ∃w,w<n/\l[w]! =e:=by
 rw [cL];constructor
 · rintro ⟨i,h1,_,h3⟩;exact ⟨i,h1,h3⟩
 rintro ⟨i,h1,h3⟩;exact ⟨i,h1,by omega,h3⟩
theorem aPm {s:bA} (so:fP s) {n:Nat} {H:List Ev} {W:List Int} (E:Ev->Prop) (hn:n<=H.length) (wl:W.length=s.ac.length) (hl:n+s.af.length=s.ac.length)
 (ix: ∀w,w<n->0<=(H[w]!).ix/\(H[w]!).ix<W.length/\W[(H[w]!).n]! =(w:Int)) (mem: ∀e,(∃w,w<n/\H[w]! =e)↔E e) (ord: ∀k,0<k->k<n-> ¬eG H[k]! H[(k-1) / 2]!)
 (ue: ∀i,i<s.ac.length->s.ae[i]! =true-> ∃e:Ev,E e/\e.ix=i/\e.2.2.2.2=s.ac[i]!) (un: ∀i,i<s.ac.length->s.ae[i]! =false->W[i]! = -1)
 (ev: ∀e,E e->uI e) (nums: ∀e f:Ev,E e->E f->e.num=f.num->e.ix=f.ix):fQ ⟨s,H.take n,W⟩:=by
 have len:(H.take n).length=n:=by rw [bz];omega
 have cell: ∀w,w<n->(H.take n)[w]! =H[w]!:=fun w hw=>oD hw
 refine ⟨so,wl,by show (H.take n).length+_=_;rw [len];exact hl,?_,un,?_,?_,?_⟩
 · intro i hi hu
   dsimp only at hi hu ⊢;rw [len];obtain ⟨e,he,e1,e2⟩:=ue i hi hu;obtain ⟨w,hw,rfl⟩:=(mem e).2 he;obtain ⟨a1,a2,a3⟩:=ix w hw;have hn':(H[w]!).n=i:=by show ((H[w]!).ix).toNat=i;omega
   rw [hn'] at a3;rw [a3,bu,cell w hw];exact ⟨by omega,by omega,e1,e2⟩
 · intro w hw
   dsimp only at hw ⊢;rw [len] at hw;rw [cell w hw];exact ev _ ((mem _).1 ⟨w,hw,rfl⟩)
 · intro v w hv hw
   dsimp only at hw ⊢;rw [len] at hw;rw [cell v (by omega),cell w hw]
   intro hc
   have:=nums _ _ ((mem _).1 ⟨v,by omega,rfl⟩) ((mem _).1 ⟨w,hw,rfl⟩) hc
   obtain ⟨a1,a2,a3⟩:=ix v (by omega)
   obtain ⟨b1,b2,b3⟩:=ix w hw;have hn':(H[v]!).n=(H[w]!).n:=by show ((H[v]!).ix).toNat=((H[w]!).ix).toNat;rw [this]
   rw [hn'] at a3;omega
 intro k k0 hk
 dsimp only at hk ⊢;rw [len] at hk;rw [cell k hk,cell _ (by omega)]
 exact ord k k0 hk
theorem BM {s:bA} (so:fP s) {n:Nat} {x:Ev} {M:Ev->Prop} {K:Nat->Prop} {H H1:List Ev} {W W1:List Int} (st:G2 n x M K H W H1 W1) (hn:n<=H.length) (wl:W.length=s.ac.length) (hl:n+s.af.length=s.ac.length)
 (ue: ∀i,i<s.ac.length->s.ae[i]! =true-> ∃e:Ev,(e=x\/M e)/\e.ix=i/\e.2.2.2.2=s.ac[i]!) (un: ∀i,i<s.ac.length->s.ae[i]! =false->K i/\W[i]! = -1)
 (ev: ∀e,(e=x\/M e)->uI e) (nums: ∀e f:Ev,(e=x\/M e)->(f=x\/M f)->e.num=f.num->e.ix=f.ix):fQ ⟨s,H1.take n,W1⟩:=by
 refine aPm so (fun e=>e=x\/M e) (by rw [st.hl];exact hn) (by rw [st.wl];exact wl) hl (by rw [st.wl];exact st.ix) st.mem st.ord ue ?_ ev nums
 intro i hi hu;rw [st.out i (un i hi hu).1];exact (un i hi hu).2
theorem fQ.bd {a:aP} (ok:fQ a):a.aj.length<=200/\a.am.length<=200:=by
 have:=ok.hl;have:=ok.wl;have:=ok.so.n2
 omega
theorem fQ.cells {a:aP} (ok:fQ a):pD a.aj.length a.aj a.am:=by
 have:=ok.bd
 refine ⟨bv _,by omega,fun w hw=>?_⟩
 obtain ⟨b1,b2,b3,b4,b5⟩:=ok.back hw;exact ⟨ok.ev w hw,b1,by rw [ok.wl];exact b2⟩
theorem fQ.inj {a:aP} (ok:fQ a) {v w:Nat} (hv:v<a.aj.length) (hw:w<a.aj.length) (h:Ev.ix a.aj[v]! =Ev.ix a.aj[w]!):v=w:=by
 have h1:=(ok.back hv).2.2.2.2;have h2:=(ok.back hw).2.2.2.2
 have:Ev.n a.aj[v]! =Ev.n a.aj[w]!:=by show (Ev.ix a.aj[v]!).toNat=(Ev.ix a.aj[w]!).toNat;rw [h]
 rw [this] at h1;omega
theorem fQ.grand {a:aP} (ok:fQ a) {i k:Nat} (i0:0<i) (k0:0<k) (hk:k<a.aj.length) (hp:(k-1) / 2=i): ¬eG a.aj[k]! a.aj[(i-1) / 2]!:=by
 have h1:=ok.ord k k0 hk;rw [hp] at h1;exact CH (ok.ev _ (by omega)).den (ok.ev _ (by omega)).den (ok.ev _ hk).den (ok.ord i i0 (by omega)) h1
theorem fQ.live {a:aP} (ok:fQ a) {h:Int×Int} (lv:AZ a.ai h): ∃i,i<a.aj.length/\a.am[h.1.toNat]! =(i:Int)/\(a.aj[i]!).2.2.2=h:=by
 obtain ⟨l1,l2,l3,l4⟩:=lv;obtain ⟨f1,f2,f3,f4⟩:=ok.fwd h.1.toNat (by omega) l3
 refine ⟨(a.am[h.1.toNat]!).toNat,by omega,by omega,?_⟩
 have e1:(a.aj[(a.am[h.1.toNat]!).toNat]!).2.2.2.1=h.1:=by
  have:Ev.ix a.aj[(a.am[h.1.toNat]!).toNat]! =(h.1.toNat:Int):=f3
  have h2:Ev.ix a.aj[(a.am[h.1.toNat]!).toNat]! =(a.aj[(a.am[h.1.toNat]!).toNat]!).2.2.2.1:=rfl;omega
 exact ci e1 (by rw [f4,l4])
theorem fQ.handle {a:aP} (ok:fQ a) {i:Nat} (hi:i<a.aj.length):AZ a.ai (a.aj[i]!).2.2.2/\a.am[((a.aj[i]!).2.2.2.1).toNat]! =(i:Int):=by
 obtain ⟨b1,b2,b3,b4,b5⟩:=ok.back hi;exact ⟨⟨b1,b2,b3,b4⟩,b5⟩
theorem fQ.used_ev {a:aP} (ok:fQ a) {i:Nat} (hi:i<a.ai.ac.length) (hu:a.ai.ae[i]! =true): ∃w,w<a.aj.length/\Ev.ix a.aj[w]! =i/\(a.aj[w]!).2.2.2.2=a.ai.ac[i]!:=by
 obtain ⟨f1,f2,f3,f4⟩:=ok.fwd i hi hu;exact ⟨(a.am[i]!).toNat,by omega,f3,f4⟩
theorem fQ.no_ev {a:aP} (ok:fQ a) {i:Nat} (hu:a.ai.ae[i]! =false) {w:Nat} (hw:w<a.aj.length):Ev.n a.aj[w]!≠i:=by
 intro h
 have:=(ok.back hw).2.2.1
 rw [h,hu] at this;cases this
theorem fQ.nums {a:aP} (ok:fQ a) {v w:Nat} (hv:v<a.aj.length) (hw:w<a.aj.length) (h:Ev.num a.aj[v]! =Ev.num a.aj[w]!):v=w:=by
 rcases c7 v w with h1|h1|h1
 · exact absurd h (ok.nd v w h1 hw)
 · exact h1
 exact absurd h.symm (ok.nd w v h1 hv)
theorem set_same {α:Type} [Inhabited α] {l:List α} {k:Nat} {v:α} (h:l[k]! =v):l.set k v=l:=by
 by_cases hk:k<l.length
 · apply wM (by rw [bo])
   intro i hi;rw [bD];split
   · rename_i e;rw [e.1];exact h.symm
   rfl
 exact c8 (by omega)
def uJ (x:Ev) (t:Int×Int):Ev:=(t.1,t.2,x.2.2)
noncomputable def lZ (a:aP) (i:Nat) (t:Int×Int):aP:=⟨a.ai,(cY a.aj.length (uJ a.aj[i]! t) i a.aj a.am).1,(cY a.aj.length (uJ a.aj[i]! t) i a.aj a.am).2⟩
theorem QY {a:aP} (ok:fQ a) {i:Nat} (hi:i<a.aj.length) {t:Int×Int} (ht:bK t) (h64:nD t):uI (uJ a.aj[i]! t):=by
 have:=ok.ev i hi
 exact ⟨ht,h64,this.2.2.1,this.2.2.2⟩
theorem QZ {a:aP} (ok:fQ a) {i:Nat} (hi:i<a.aj.length) (t:Int×Int):I8 a.aj.length (uJ a.aj[i]! t) (fun e=> ∃w,w<a.aj.length/\w≠i/\a.aj[w]! =e) a.aj a.am i:=by
 obtain ⟨b1,b2,b3,b4,b5⟩:=ok.back hi;refine ⟨hi,bv _,fun w hw hwi=>?_,b1,by rw [ok.wl];exact b2,fun e=>db⟩
 obtain ⟨c1,c2,c3,c4,c5⟩:=ok.back hw;exact ⟨c1,by rw [ok.wl];exact c2,c5,fun h=>hwi (ok.inj hw hi h)⟩
theorem T4 {a:aP} (ok:fQ a) (i:Nat):JH a.aj.length a.aj i:=
 ⟨fun w hw=>(ok.ev w hw).den,fun k k0 hk _ _=>ok.ord k k0 hk,fun i0 _k k0 hk hp=>ok.grand i0 k0 hk hp⟩
theorem qI {a:aP} (ok:fQ a) {i:Nat} (hi:i<a.aj.length) {t:Int×Int} (ht:bK t):
 G2 a.aj.length (uJ a.aj[i]! t) (fun e=> ∃w,w<a.aj.length/\w≠i/\a.aj[w]! =e) (fun k=>k≠Ev.n (uJ a.aj[i]! t)/\ ∀w,w<a.aj.length->w≠i->Ev.n a.aj[w]!≠k) a.aj a.am (lZ a i t).aj (lZ a i t).am:=
 FY (x:=uJ a.aj[i]! t) ht.1 (QZ ok hi t) (T4 ok i)
theorem MH {a:aP} (ok:fQ a) {i:Nat} (hi:i<a.aj.length) {t:Int×Int} (ht:bK t):(lZ a i t).aj.length=a.aj.length/\(lZ a i t).am.length=a.am.length:=
 ⟨(qI ok hi ht).hl,(qI ok hi ht).wl⟩
theorem aEo {a:aP} (ok:fQ a) {i:Nat} (hi:i<a.aj.length) {t:Int×Int} (ht:bK t) (e:Ev):e∈(lZ a i t).aj↔(e=uJ a.aj[i]! t\/(e∈a.aj/\e≠a.aj[i]!)):=by
 have st:=qI ok hi ht;have h1:e∈(lZ a i t).aj↔ ∃w,w<a.aj.length/\((lZ a i t).aj)[w]! =e:=by
  rw [aU,(MH ok hi ht).1]
 rw [h1];refine (st.mem e).trans ?_;constructor
 · rintro (h|⟨w,hw,hwi,rfl⟩)
   · exact .inl h
   exact .inr ⟨bE hw,fun h=>hwi (ok.inj hw hi (by rw [h]))⟩
 rintro (h|⟨h,hne⟩)
 · exact .inl h
 obtain ⟨w,hw,rfl⟩:=aU.1 h
 exact .inr ⟨w,hw,fun h=>hne (by rw [h]),rfl⟩
theorem aGJ {a:aP} (ok:fQ a) {i:Nat} (hi:i<a.aj.length) {t:Int×Int} (ht:bK t) (h64:nD t):fQ (lZ a i t):=by
 have st:=qI ok hi ht;have len:=(MH ok hi ht).1;have hx:Ev.ix (uJ a.aj[i]! t)=Ev.ix a.aj[i]!:=rfl;have key:=BM ok.so st (bv _) ok.wl ok.hl (fun j hj hu=>by
  obtain ⟨w,hw,e1,e2⟩:=ok.used_ev hj hu
  by_cases e:w=i
  · subst e;exact ⟨uJ a.aj[w]! t,.inl rfl,e1,e2⟩
  · exact ⟨a.aj[w]!,.inr ⟨w,hw,e,rfl⟩,e1,e2⟩) (fun j hj hu=>⟨⟨(ok.no_ev hu hi).symm,fun w hw _=>ok.no_ev hu hw⟩,ok.un j hj hu⟩) (by
  rintro e (rfl|⟨w,hw,_,rfl⟩)
  · exact QY ok hi ht h64
  · exact ok.ev w hw) (by
  rintro e f (rfl|⟨v,hv,hvi,rfl⟩) (rfl|⟨w,hw,hwi,rfl⟩) he
  · rfl
  · exact absurd (ok.nums hi hw he).symm hwi
  · exact absurd (ok.nums hv hi he) hvi
  rw [ok.nums hv hw he])
 have:(lZ a i t).aj.take a.aj.length=(lZ a i t).aj:=cd (by rw [len];exact bv _)
 show fQ ⟨a.ai,(lZ a i t).aj,(lZ a i t).am⟩;rw [<- this];exact key
theorem Z2 {a:aP} (ok:fQ a) (fit:F0 a) {h:Int×Int} {i:Nat} (hi:i<a.aj.length) (hh:(a.aj[i]!).2.2.2=h):sK a h=some ((i:Int),0):=by
 obtain ⟨lv,wv⟩:=ok.handle hi;rw [hh] at lv;unfold sK;rw [kW a fit,if_pos ok];simp only [aB,show ((0:Int) !=0)=false from rfl,cond_false,NE ok.so,aK lv,bq]
 have:=lv.2.1;have:=lv.1;have:=ok.wl
 have e:(a.aj[i]!).2.2.2.1=h.1:=by rw [hh]
 rw [eK (l:=a.am) lv.1 (by omega),<- e,wv]
 rfl
theorem NU {a:aP} (ok:fQ a) (fit:F0 a) {h t:Int×Int} {i:Nat} (hi:i<a.aj.length) (hh:(a.aj[i]!).2.2.2=h) (ht:bK t) (h64:nD t):xU a h t=some (lZ a i t,0):=by
 have bd:=ok.bd;obtain ⟨b1,b2,b3,b4,b5⟩:=ok.back hi;unfold xU;rw [kW a fit,if_pos ok,dF h64,if_pos ht];have pl:=Z2 ok fit hi hh;have se:=QT (u:=a.ai.ac) (us:=a.ai.ae) (fr:=a.ai.af) (QY ok hi ht h64) (show 0<=Ev.ix (uJ a.aj[i]! t) from b1) ok.cells rfl hi (show Ev.ix (uJ a.aj[i]! t)<a.am.length by rw [ok.wl];exact b2)
 have se':fT (a.ai.ac,a.ai.ae,a.ai.af,(i:Int),t.1,t.2,(a.aj[i]!).2.2.1,(a.aj[i]!).2.2.2.1,(a.aj[i]!).2.2.2.2,a.aj,a.am)=some (cY a.aj.length (uJ a.aj[i]! t) i a.aj a.am):=se
 simp only [aB,gt_iff_lt,dj,if_false,show ((0:Int) !=0)=false from rfl,cond_false,pl,aZ (show a.aj.length<=1048576 by omega),aZ (show a.am.length<=1048576 by omega),aE a.aj i hi,se']
 rfl
theorem vL {a:aP} (ok:fQ a):nO a=some a:=by
 have bd:=ok.bd;unfold nO;simp only [BJ ok.so,aB,aZ (show a.aj.length<=1048576 by omega),aZ (show a.am.length<=1048576 by omega)]
theorem MI {a:aP} (ok:fQ a) {h t:Int×Int} {i:Nat} (hi:i<a.aj.length) (hh:(a.aj[i]!).2.2.2=h) (ht:bK t) (h64:nD t):vF a h t=some (lZ a i t):=by
 have bd:=ok.bd;obtain ⟨b1,b2,b3,b4,b5⟩:=ok.back hi;obtain ⟨lv,wv⟩:=ok.handle hi;have hx:=QY ok hi ht h64;have x1:Ev.ix (uJ a.aj[i]! t)<a.am.length:=by rw [ok.wl];exact b2
 have st:=qI ok hi ht;obtain ⟨j,H1,W1,e1,e3,e4,e5,e6,e7,e8,e9,e10⟩:=OB (x:=uJ a.aj[i]! t) ht.1 i a.aj a.am (QZ ok hi t) (T4 ok i);have w1:a.am.set (Ev.n (uJ a.aj[i]! t)) (i:Int)=a.am:=set_same b5;unfold vF;rw [vL ok];have g1:aN a.am h.1=some (i:Int):=by
  have e:(a.aj[i]!).2.2.2.1=h.1:=by rw [hh]
  rw [eK (l:=a.am) (i:=h.1) (by rw [<- e];exact b1) (by rw [<- e,ok.wl];exact b2),<- e,wv]
 have u1:sN ((i:Int),a.ai.ac,a.ai.ae,a.ai.af,a.aj.set i (uJ a.aj[i]! t),a.am)=some ((j:Int),a.ai.ac,a.ai.ae,a.ai.af,H1.set j (uJ a.aj[i]! t),W1.set (Ev.n (uJ a.aj[i]! t)) (j:Int)):=by
  unfold sN
  have:=aGF (c0:=((i:Int),a.ai.ac,a.ai.ae,a.ai.af,a.aj.set i (uJ a.aj[i]! t),a.am)) (u:=a.ai.ac) (us:=a.ai.ae) (fr:=a.ai.af) hx b1 rfl rfl rfl i a.aj a.am ok.cells hi rfl x1 bo rfl
  rw [w1,e1] at this;exact this
 have cells1:pD a.aj.length H1 W1:=by
  refine ⟨by rw [e5];exact bv _,by omega,fun w hw=>?_⟩
  exact ⟨(FZ ok.cells hi e1 w hw).1,(FZ ok.cells hi e1 w hw).2.1,by rw [e6];exact (FZ ok.cells hi e1 w hw).2.2⟩
 have d1:pR ((j:Int),a.ai.ac,a.ai.ae,a.ai.af,H1.set j (uJ a.aj[i]! t),W1.set (Ev.n (uJ a.aj[i]! t)) (j:Int))=some (a.ai.ac,a.ai.ae,a.ai.af,(cY a.aj.length (uJ a.aj[i]! t) i a.aj a.am).1,(cY a.aj.length (uJ a.aj[i]! t) i a.aj a.am).2):=by
  unfold pR
  have:=ZY (c0:=((j:Int),a.ai.ac,a.ai.ae,a.ai.af,H1.set j (uJ a.aj[i]! t),W1.set (Ev.n (uJ a.aj[i]! t)) (j:Int))) (n:=a.aj.length) (u:=a.ai.ac) (us:=a.ai.ae) (fr:=a.ai.af) hx b1 rfl rfl rfl a.aj.length j H1 W1 (by omega) cells1 e3.lt e5 (by rw [e6];exact x1) bo bo
  rw [this];unfold cY;rw [e1]
 have s1:cM a.aj (i:Int) (t.1,t.2,(a.aj[i]!).2.2)=a.aj.set i (uJ a.aj[i]! t):=rfl;simp only [aB,g1,aE a.aj i hi,s1,u1,d1];rfl
theorem T5 (H:List Ev) (n:Int) (hl:H.length<=1000000):dI H n=some (decide (∃w,w<H.length/\(H[w]!).2.2.1=n)):=by
 unfold dI fN;have key:=nC (body:=dH) (fun i=>(H,n,(H.length:Int),(i:Int))) H.length (fun i=>(H[i]!).2.2.1=n) (fun i=>(i:Int)) (e:= -1) (fun i hi=>by
  have e1:decide ((i:Int)<(H.length:Int))=true:=aK (by omega)
  unfold dH BF;simp only [e1,cond_true,aE H i hi,aB,aV (show i<1000000000 by omega)]
  constructor
  · intro h;rw [dW h];rfl
  · intro h;rw [eT h];rfl) (by
  unfold dH
  have:decide ((H.length:Int)<(H.length:Int))=false:=dec_f (by omega)
  simp only [this,cond_false])
 rw [aF]
 by_cases hx: ∃w,w<H.length/\(H[w]!).2.2.1=n
 · obtain ⟨k,h1,h2,h3⟩:=KP hx
   have:=key.1 k h1 h2 h3
   rw [show ((0:Nat):Int)=0 from rfl] at this;rw [this,aK hx];simp only [aB,aK (show (0:Int)<=(k:Int) by omega)]
 have:=key.2 fun i hi he=>hx ⟨i,hi,he⟩
 rw [show ((0:Nat):Int)=0 from rfl] at this;rw [this,dec_f hx];rfl
noncomputable def dY (a:aP) (t:Int×Int) (n:Int):Ev:=(t.1,t.2,n,nP a.ai)
noncomputable def nQ (a:aP) (t:Int×Int) (n:Int):aP:=
 ⟨hY a.ai,(cY (a.aj.length+1) (dY a t n) a.aj.length (a.aj++[dY a t n]) a.am).1,(cY (a.aj.length+1) (dY a t n) a.aj.length (a.aj++[dY a t n]) a.am).2⟩
section
variable {a : aP} (ok : fQ a) (op : CG a.ai) {t : Int × Int} (ht : bK t) (h64 : nD t) {n : Int} (n0 : 0 <= n) (n1 : n <= 1000000)
include ok op
theorem KX:Ev.ix (dY a t n)=(dJ a.ai:Int)/\dJ a.ai<a.ai.ac.length/\a.ai.ae[dJ a.ai]! =false/\a.ai.af.length=(hY a.ai).af.length+1:=by
 obtain ⟨h1,h2,h3⟩:=DV ok.so op.1;refine ⟨rfl,h1,?_,?_⟩
 · have:=ok.so.uf (dJ a.ai) h1
   cases h:a.ai.ae[dJ a.ai]! with
   |false=>rfl
   |true=>exact absurd h3 (this.1 h)
 show _=(a.ai.af.take (a.ai.af.length-1)).length+1
 have:=op.1
 rw [bz];omega
theorem T6:I8 (a.aj.length+1) (dY a t n) (fun e=>e∈a.aj) (a.aj++[dY a t n]) a.am a.aj.length:=by
 obtain ⟨h1,h2,h3,h4⟩:=KX (t:=t) (n:=n) ok op;have cell: ∀w,w<a.aj.length->(a.aj++[dY a t n])[w]! =a.aj[w]!:=fun w hw=>iG hw
 refine ⟨by omega,by simp,fun w hw hwi=>?_,by rw [h1];omega,by rw [h1,ok.wl];omega,fun e=>?_⟩
 · have hw':w<a.aj.length:=by omega
   rw [cell w hw'];obtain ⟨c1,c2,c3,c4,c5⟩:=ok.back hw';refine ⟨c1,by rw [ok.wl];exact c2,c5,fun h=>?_⟩
   rw [h1] at h
   have:Ev.n a.aj[w]! =dJ a.ai:=by show (Ev.ix a.aj[w]!).toNat=_;omega
   exact ok.no_ev h3 hw' this
 constructor
 · rintro ⟨w,hw,hwi,rfl⟩
   rw [cell w (by omega)]
   exact bE (by omega)
 intro h
 obtain ⟨w,hw,rfl⟩:=aU.1 h;exact ⟨w,by omega,by omega,cell w hw⟩
theorem Z3 (ht:bK t):JH (a.aj.length+1) (a.aj++[dY a t n]) a.aj.length:=by
 have _:=op;have cell: ∀w,w<a.aj.length->(a.aj++[dY a t n])[w]! =a.aj[w]!:=fun w hw=>iG hw
 refine ⟨fun w hw=>?_,fun k k0 hk k1 k2=>?_,fun i0 k k0 hk hp=>by omega⟩
 · by_cases h:w<a.aj.length
   · rw [cell w h];exact (ok.ev w h).den
   have:w=a.aj.length:=by omega
   subst this;rw [kM (bv _),dc];exact ht.1
 rw [cell k (by omega),cell _ (by omega)]
 exact ok.ord k k0 (by omega)
theorem DY (ht:bK t):G2 (a.aj.length+1) (dY a t n) (fun e=>e∈a.aj) (fun k=>k≠Ev.n (dY a t n)/\ ∀w,w<a.aj.length+1->w≠a.aj.length->Ev.n (a.aj++[dY a t n])[w]!≠k) (a.aj++[dY a t n]) a.am (nQ a t n).aj (nQ a t n).am:=
 FY (x:=dY a t n) ht.1 (T6 ok op) (Z3 ok op ht)
theorem KY (ht:bK t):(nQ a t n).aj.length=a.aj.length+1:=by
 have:=(DY (n:=n) ok op ht).hl
 rw [this];simp
theorem Z4 (ht:bK t) (e:Ev):e∈(nQ a t n).aj↔(e=dY a t n\/e∈a.aj):=by
 have st:=DY (n:=n) ok op ht;rw [aU,KY ok op ht];exact st.mem e
theorem WI (ht:bK t) (h64:nD t) (n0:0<=n) (n1:n<=1000000):uI (dY a t n):=by
 have _:=ok;have _:=op;exact ⟨ht,h64,n0,n1⟩
theorem aDf (ht:bK t) (h64:nD t) (n0:0<=n) (n1:n<=1000000) (nn: ∀e∈a.aj,Ev.num e≠n):fQ (nQ a t n):=by
 have st:=DY (n:=n) ok op ht;have len:=KY (n:=n) ok op ht;obtain ⟨h1,h2,h3,h4⟩:=KX (t:=t) (n:=n) ok op;have hu:=ok.so.ul;have ul:(hY a.ai).ac.length=a.ai.ac.length:=bo;have key:=BM (aGD ok.so op) st (by simp) (by rw [ul];exact ok.wl) (by rw [ul];have:=ok.hl;omega) (fun j hj hu'=>by
  rw [ul] at hj;change (a.ai.ae.set (dJ a.ai) true)[j]! =true at hu';rw [bD] at hu'
  show∃e:Ev,_/\_/\_=(a.ai.ac.set (dJ a.ai) (a.ai.ac[dJ a.ai]!+1))[j]!
  rw [bD]
  by_cases e:j=dJ a.ai
  · rw [if_pos ⟨e,h2⟩]
    exact ⟨dY a t n,.inl rfl,by rw [h1,e],rfl⟩
  · rw [if_neg (fun k=>e k.1)]
    rw [if_neg (fun k=>e k.1)] at hu'
    obtain ⟨w,hw,e1,e2⟩:=ok.used_ev hj hu';exact ⟨a.aj[w]!,.inr (bE hw),e1,e2⟩) (fun j hj hu'=>by
  rw [ul] at hj;change (a.ai.ae.set (dJ a.ai) true)[j]! =false at hu';rw [bD] at hu'
  by_cases e:j=dJ a.ai
  · rw [if_pos ⟨e,by omega⟩] at hu';cases hu'
  · rw [if_neg (fun k=>e k.1)] at hu'
    refine ⟨⟨?_,fun w hw hwi=>?_⟩,ok.un j hj hu'⟩
    · show j≠(Ev.ix (dY a t n)).toNat
      omega
    rw [iG (by omega)]
    exact ok.no_ev hu' (by omega)) (by
  rintro e (rfl|h)
  · exact WI ok op ht h64 n0 n1
  · obtain ⟨w,hw,rfl⟩:=aU.1 h
    exact ok.ev w hw) (by
  rintro e f (rfl|he) (rfl|hf) hn
  · rfl
  · exact absurd hn.symm (nn f hf)
  · exact absurd hn (nn e he)
  obtain ⟨v,hv,rfl⟩:=aU.1 he
  obtain ⟨w,hw,rfl⟩:=aU.1 hf;rw [ok.nums hv hw hn])
 have:(nQ a t n).aj.take (a.aj.length+1)=(nQ a t n).aj:=cd (by rw [len];exact bv _)
 show fQ ⟨hY a.ai,(nQ a t n).aj,(nQ a t n).am⟩;rw [<- this];exact key
theorem Q0 (ht:bK t) (h64:nD t) (n0:0<=n) (n1:n<=1000000):pD (a.aj.length+1) (a.aj++[dY a t n]) a.am:=by
 have bd:=ok.bd;obtain ⟨h1,h2,h3,h4⟩:=KX (t:=t) (n:=n) ok op;refine ⟨by simp,by simp;omega,fun w hw=>?_⟩
 by_cases h:w<a.aj.length
 · rw [iG h];exact ok.cells.ev w h
 have:w=a.aj.length:=by omega
 subst this;rw [kM (bv _),dc];exact ⟨WI ok op ht h64 n0 n1,by show 0<=Ev.ix (dY a t n);omega,by show Ev.ix (dY a t n)<_;rw [ok.wl];omega⟩
theorem CI (fit:F0 a) (ht:bK t) (h64:nD t) (n0:0<=n) (n1:n<=1000000) (nn: ∀e∈a.aj,Ev.num e≠n):mZ a t n=some (nQ a t n,nP a.ai,0):=by
 have bd:=ok.bd;obtain ⟨h1,h2,h3,h4⟩:=KX (t:=t) (n:=n) ok op;have hn: ¬ ∃w,w<a.aj.length/\(a.aj[w]!).2.2.1=n:=by
  rintro ⟨w,hw,e⟩;exact nn _ (bE hw) e
 unfold mZ;rw [kW a fit,if_pos ok,dF h64,if_pos ht,T5 _ _ (by omega),dec_f hn,KT ok.so,if_pos op]
 have se:=QT (u:=(hY a.ai).ac) (us:=(hY a.ai).ae) (fr:=(hY a.ai).af) (WI ok op ht h64 n0 n1) (show 0<=Ev.ix (dY a t n) by omega) (Q0 ok op ht h64 n0 n1) (by simp) (show a.aj.length<a.aj.length+1 by omega) (show Ev.ix (dY a t n)<a.am.length by rw [ok.wl];omega)
 have e1:aA .i64 (((a.aj++[dY a t n]).length:Int) -1)=(a.aj.length:Int):=by rw [wi,cz];simp;omega
 have ap:bV a.aj [(t.1,t.2,n,nP a.ai)]=some (a.aj++[dY a t n]):=eU (by simp;omega)
 have se':fT ((hY a.ai).ac,(hY a.ai).ae,(hY a.ai).af,(a.aj.length:Int),t.1,t.2,n,(nP a.ai).1,(nP a.ai).2,a.aj++[dY a t n],a.am)=some (cY (a.aj.length+1) (dY a t n) a.aj.length (a.aj++[dY a t n]) a.am):=se
 simp only [aB,gt_iff_lt,dj,if_false,show ((0:Int) !=0)=false from rfl,cond_false,dec_f (show¬n<0 by omega),dec_f (show¬1000000<n by omega),aZ (show a.aj.length<=1048576 by omega),aZ (show a.am.length<=1048576 by omega),ap,aF,e1,se']
 rfl
theorem EP (ht:bK t) (h64:nD t) (n0:0<=n) (n1:n<=1000000):fO a t n=some (nQ a t n,nP a.ai):=by
 have bd:=ok.bd;obtain ⟨h1,h2,h3,h4⟩:=KX (t:=t) (n:=n) ok op;unfold fO;rw [vL ok];have e1:aA .i64 (((a.aj++[dY a t n]).length:Int) -1)=(a.aj.length:Int):=by rw [wi,cz];simp;omega
 have ap:bV a.aj [(t.1,t.2,n,nP a.ai)]=some (a.aj++[dY a t n]):=eU (by simp;omega)
 have hx:=WI (n:=n) ok op ht h64 n0 n1;have last:cY (a.aj.length+1) (dY a t n) a.aj.length (a.aj++[dY a t n]) a.am=_:=ZW (x:=dY a t n) ht.1 (T6 ok op) (Z3 ok op ht) (fun k k0 hk hp=>by omega)
 have hs:(a.aj++[dY a t n]).set a.aj.length (dY a t n)=a.aj++[dY a t n]:=set_same (by rw [kM (bv _),dc];rfl)
 have ws:cM a.am (nP a.ai).1 (a.aj.length:Int)=a.am.set (Ev.n (dY a t n)) (a.aj.length:Int):=rfl
 have u1:sO ((hY a.ai).ac,(hY a.ai).ae,(hY a.ai).af,(a.aj.length:Int),a.aj++[dY a t n],a.am.set (Ev.n (dY a t n)) (a.aj.length:Int))=some (((kN (dY a t n) a.aj.length (a.aj++[dY a t n]) a.am).1:Int),(kN (dY a t n) a.aj.length (a.aj++[dY a t n]) a.am).2.1.set (kN (dY a t n) a.aj.length (a.aj++[dY a t n]) a.am).1 (dY a t n),(kN (dY a t n) a.aj.length (a.aj++[dY a t n]) a.am).2.2.set (Ev.n (dY a t n)) ((kN (dY a t n) a.aj.length (a.aj++[dY a t n]) a.am).1:Int)):=by
  unfold sO
  have:=aGH (c0:=((hY a.ai).ac,(hY a.ai).ae,(hY a.ai).af,(a.aj.length:Int),a.aj++[dY a t n],a.am.set (Ev.n (dY a t n)) (a.aj.length:Int))) (u:=(hY a.ai).ac) (us:=(hY a.ai).ae) (fr:=(hY a.ai).af) hx (show 0<=Ev.ix (dY a t n) by omega) a.aj.length (a.aj++[dY a t n]) a.am (Q0 ok op ht h64 n0 n1) (by omega) (by simp) (by rw [ok.wl];omega) rfl bo
  rw [hs] at this;exact this
 have g1:aN a.am (nP a.ai).1=some a.am[dJ a.ai]!:=aE a.am (dJ a.ai) (by rw [ok.wl];exact h2)
 simp only [aB,QO ok.so op,ap,g1,aF,e1,ws,u1];unfold nQ;rw [last]
end
theorem CJ {a:aP} (ok:fQ a) (op: ¬CG a.ai) (fit:F0 a) {t:Int×Int} (ht:bK t) (h64:nD t) {n:Int} (n0:0<=n) (n1:n<=1000000) (nn: ∀e∈a.aj,Ev.num e≠n):mZ a t n=some (⟨⟨[],[],[]⟩,[],[]⟩,(0,0),18):=by
 have bd:=ok.bd;have hn: ¬ ∃w,w<a.aj.length/\(a.aj[w]!).2.2.1=n:=by
  rintro ⟨w,hw,e⟩;exact nn _ (bE hw) e
 unfold mZ;rw [kW a fit,if_pos ok,dF h64,if_pos ht,T5 _ _ (by omega),dec_f hn,KT ok.so,if_neg op]
 simp only [aB,gt_iff_lt,dj,if_false,show ((0:Int) !=0)=false from rfl,cond_false,dec_f (show¬n<0 by omega),dec_f (show¬1000000<n by omega),show ((18:Int) !=0)=true from rfl,cond_true]
theorem A0 {l:List Ev} {n i:Nat} {v:Ev}:(l.set i v).take n=(l.take n).set i v:=by
 apply List.ext_getElem?;intro j;rw [dp,dw,dw,dp,bz]
 by_cases h1:j<n
 · rw [if_pos h1]
   by_cases h2:i=j
   · subst h2
     by_cases h3:i<l.length
     · rw [if_pos rfl,if_pos h3,if_pos rfl,if_pos (by omega)]
     rw [if_pos rfl,if_neg h3,if_pos rfl,if_neg (by omega)]
   rw [if_neg h2,if_neg h2,if_pos h1]
 rw [if_neg h1]
 by_cases h2:i=j
 · rw [if_pos h2,if_neg (by omega)]
 rw [if_neg h2,if_neg h1]
theorem Z5 {n:Nat} {x:Ev}: ∀(i:Nat) (H:List Ev) (W:List Int),i<n->kN x i (H.take n) W=((kN x i H W).1,(kN x i H W).2.1.take n,(kN x i H W).2.2)
 |0,H,W,hi=>by rw [kN,kN]
 |i+1,H,W,hi=>by
  have e:(H.take n)[i / 2]! =H[i / 2]!:=oD (by omega)
  rw [kN,kN,e]
  by_cases h:eG x H[i / 2]!
  · rw [if_pos h,if_pos h,<- A0]
    exact Z5 (i / 2) _ _ (by omega)
  rw [if_neg h,if_neg h]
termination_by i=>i
decreasing_by omega
theorem aGK {x:Ev}: ∀(i:Nat) (H:List Ev) (W:List Int),(kN x i H W).1<=i
 |0,H,W=>by rw [kN];exact bv _
 |i+1,H,W=>by
  rw [kN];split
  · exact ei (aGK (i / 2) _ _) (by omega)
  exact bv _
termination_by i=>i
decreasing_by omega
theorem Q1 {n:Nat} {H:List Ev} {i:Nat} (hk:2*i+1<n):jJ n (H.take n) i=jJ n H i:=by
 unfold jJ
 by_cases h:2*i+2<n
 · rw [oD h,oD (show 2*i+1<n by omega)]
 rw [if_neg (fun k=>h k.1),if_neg (fun k=>h k.1)]
theorem Z6 {n:Nat} {x:Ev} {i:Nat} {H:List Ev} {W:List Int} (h:2*i+1<n) (hl:eG H[jJ n H i]! x):eN n x i H W=eN n x (jJ n H i) (H.set i H[jJ n H i]!) (W.set (H[jJ n H i]!).n (i:Int)):=by
 rw [eN,dif_pos h,if_pos hl]
theorem DZ {n:Nat} {x:Ev} {i:Nat} {H:List Ev} {W:List Int} (h: ¬(2*i+1<n/\eG H[jJ n H i]! x)):eN n x i H W=(i,H,W):=by
 rw [eN];split
 · rename_i h1;rw [if_neg (fun k=>h ⟨h1,k⟩)]
 rfl
theorem Q2 {n : Nat} {x : Ev} : ∀ (d i : Nat) (H : List Ev) (W : List Int), n - i <= d -> eN n x i (H.take n) W = ((eN n x i H W).1, (eN n x i H W).2.1.take n, (eN n x i H W).2.2)
  | 0, i, H, W, hd => by
    rw [DZ (fun h => by omega), DZ (fun h => by omega)]
  | d + 1, i, H, W, hd => by
    have kc := rT n H i
    by_cases h : 2 * i + 1 < n /\ eG H[jJ n H i]! x
    · have e : (H.take n)[jJ n (H.take n) i]! = H[jJ n H i]! := by rw [Q1 h.1, oD (by omega)]
      rw [Z6 h.1 h.2, Z6 (H := H.take n) h.1 (by rw [e]; exact h.2), e, Q1 h.1, <- A0]
      exact Q2 d _ _ _ (by omega)
    have h' : ¬ (2 * i + 1 < n /\ eG (H.take n)[jJ n (H.take n) i]! x) := by
      rintro ⟨k1, k2⟩
      rw [Q1 k1, oD (by omega)] at k2
      exact h ⟨k1, k2⟩
    rw [DZ h, DZ h']
theorem aDg {x:Ev}: ∀(i:Nat) (H:List Ev) (W:List Int),(kN x i H W).2.1.length=H.length/\(kN x i H W).2.2.length=W.length
 |0,H,W=>by rw [kN];exact ⟨rfl,rfl⟩
 |i+1,H,W=>by
  rw [kN];split
  · have:=aDg (x:=x) (i / 2) (H.set (i+1) H[i / 2]!) (W.set (H[i / 2]!).n ((i+1:Nat):Int))
    rwa [bo,bo] at this
  exact ⟨rfl,rfl⟩
termination_by i=>i
decreasing_by omega
theorem KZ {n:Nat} {x:Ev} {i:Nat} {H:List Ev} {W:List Int} (hi:i<n):cY n x i (H.take n) W=((cY n x i H W).1.take n,(cY n x i H W).2):=by
 unfold cY;rw [Z5 i H W hi];dsimp only;rw [Q2 n _ _ _ (by omega)]
 dsimp only;rw [A0]
noncomputable def eL (a:aP) (i:Nat):aP:=
 if i<a.aj.length-1 then ⟨gC a.ai (a.aj[i]!).2.2.2,(cY (a.aj.length-1) a.aj[a.aj.length-1]! i a.aj (a.am.set (Ev.n a.aj[i]!) (-1))).1.take (a.aj.length-1),(cY (a.aj.length-1) a.aj[a.aj.length-1]! i a.aj (a.am.set (Ev.n a.aj[i]!) (-1))).2⟩
 else ⟨gC a.ai (a.aj[i]!).2.2.2,a.aj.take (a.aj.length-1),a.am.set (Ev.n a.aj[i]!) (-1)⟩
section
variable {a : aP} (ok : fQ a) {i : Nat} (hi : i < a.aj.length)
include ok hi
theorem CK {w:Nat} (hw:w<a.aj.length) (hne:w≠i):Ev.n a.aj[w]!≠Ev.n a.aj[i]!:=by
 have h1:=(ok.back hw).1;have h2:=(ok.back hi).1;exact aXQ h1 h2 fun h=>hne (ok.inj hw hi h)
theorem T7:pD (a.aj.length-1) a.aj (a.am.set (Ev.n a.aj[i]!) (-1)):=by
 have c:=ok.cells;refine ⟨by omega,c.hb,fun w hw=>?_⟩
 rw [bo];exact c.ev w (by omega)
theorem aGL (hlt:i<a.aj.length-1):I8 (a.aj.length-1) a.aj[a.aj.length-1]! (fun e=> ∃w,w<a.aj.length-1/\w≠i/\a.aj[w]! =e) a.aj (a.am.set (Ev.n a.aj[i]!) (-1)) i:=by
 obtain ⟨b1,b2,b3,b4,b5⟩:=ok.back (show a.aj.length-1<a.aj.length by omega)
 refine ⟨hlt,by omega,fun w hw hwi=>?_,b1,by rw [bo,ok.wl];exact b2,fun e=>db⟩
 obtain ⟨c1,c2,c3,c4,c5⟩:=ok.back (show w<a.aj.length by omega)
 refine ⟨c1,by rw [bo,ok.wl];exact c2,?_,fun h=>?_⟩
 · rw [bD,if_neg (fun h=>CK ok hi (show w<a.aj.length by omega) hwi h.1)]
   exact c5
 have:=ok.inj (show w<a.aj.length by omega) (show a.aj.length-1<a.aj.length by omega) h
 omega
theorem aOv:JH (a.aj.length-1) a.aj i:=
 ⟨fun w hw=>(ok.ev w (by omega)).den,fun k k0 hk _ _=>ok.ord k k0 (by omega),fun i0 k k0 hk hp=>ok.grand i0 k0 (by omega) hp⟩
theorem NF (hlt:i<a.aj.length-1):
 G2 (a.aj.length-1) a.aj[a.aj.length-1]! (fun e=> ∃w,w<a.aj.length-1/\w≠i/\a.aj[w]! =e) (fun k=>k≠Ev.n a.aj[a.aj.length-1]!/\ ∀w,w<a.aj.length-1->w≠i->Ev.n a.aj[w]!≠k) a.aj (a.am.set (Ev.n a.aj[i]!) (-1))
  (cY (a.aj.length-1) a.aj[a.aj.length-1]! i a.aj (a.am.set (Ev.n a.aj[i]!) (-1))).1 (cY (a.aj.length-1) a.aj[a.aj.length-1]! i a.aj (a.am.set (Ev.n a.aj[i]!) (-1))).2:=
 FY (ok.ev (a.aj.length-1) (by omega)).den (aGL ok hi hlt) (aOv ok hi)
theorem T8:fP (gC a.ai (a.aj[i]!).2.2.2):=aGC ok.so (ok.handle hi).1
theorem F2 {j:Nat} (hj:j<a.ai.ac.length):(gC a.ai (a.aj[i]!).2.2.2).ae[j]! =if j=Ev.n a.aj[i]! then false else a.ai.ae[j]!:=by
 have _:=hi;show (a.ai.ae.set (Ev.n a.aj[i]!) false)[j]! =_;rw [bD]
 have:=ok.so.ul
 by_cases e:j=Ev.n a.aj[i]!
 · rw [if_pos ⟨e,by omega⟩,if_pos e]
 rw [if_neg (fun k=>e k.1),if_neg e]
theorem MJ:fQ (eL a i):=by
 have hb:=ok.back hi;have hl:a.aj.length-1+(gC a.ai (a.aj[i]!).2.2.2).af.length=a.ai.ac.length:=by
  show a.aj.length-1+(a.ai.af++[_]).length=_;rw [cz]
  have:=ok.hl
  simp only [dy,d6];omega
 have un: ∀j,j<a.ai.ac.length->(gC a.ai (a.aj[i]!).2.2.2).ae[j]! =false->(a.am.set (Ev.n a.aj[i]!) (-1))[j]! = -1:=by
  intro j hj hu;rw [F2 ok hi hj] at hu;rw [bD]
  by_cases e:j=Ev.n a.aj[i]!
  · rw [if_pos ⟨e.symm▸rfl,by rw [ok.wl];omega⟩]
  rw [if_neg e] at hu
  rw [if_neg (fun k=>e k.1)]
  exact ok.un j hj hu
 unfold eL
 by_cases hlt:i<a.aj.length-1
 · rw [if_pos hlt]
   have st:=NF ok hi hlt;refine BM (T8 ok hi) st (by omega) (by rw [bo];exact ok.wl) hl (fun j hj hu=>?_) (fun j hj hu=>⟨⟨?_,fun w hw hwi=>?_⟩,un j hj hu⟩) ?_ ?_
   · change j<a.ai.ac.length at hj
     rw [F2 ok hi hj] at hu
     by_cases e:j=Ev.n a.aj[i]!
     · rw [if_pos e] at hu;cases hu
     rw [if_neg e] at hu
     obtain ⟨w,hw,e1,e2⟩:=ok.used_ev hj hu;refine ⟨a.aj[w]!,?_,e1,e2⟩
     by_cases hl':w=a.aj.length-1
     · left;rw [hl']
     refine .inr ⟨w,by omega,fun h=>e ?_,rfl⟩
     rw [<- h];show j=(Ev.ix a.aj[w]!).toNat;omega
   · change j<a.ai.ac.length at hj
     rw [F2 ok hi hj] at hu
     by_cases e:j=Ev.n a.aj[i]!
     · rw [e];exact (CK ok hi (by omega) (by omega)).symm
     rw [if_neg e] at hu
     exact (ok.no_ev hu (by omega)).symm
   · change j<a.ai.ac.length at hj
     rw [F2 ok hi hj] at hu
     by_cases e:j=Ev.n a.aj[i]!
     · rw [e];exact CK ok hi (by omega) hwi
     rw [if_neg e] at hu
     exact ok.no_ev hu (by omega)
   · rintro e (rfl|⟨w,hw,_,rfl⟩)
     · exact ok.ev _ (by omega)
     exact ok.ev w (by omega)
   rintro e f (rfl|⟨v,hv,hvi,rfl⟩) (rfl|⟨w,hw,hwi,rfl⟩) he
   · rfl
   · rw [ok.nums (by omega) (by omega) he]
   · rw [ok.nums (by omega) (by omega) he]
   rw [ok.nums (by omega) (by omega) he]
 rw [if_neg hlt]
 have hie:i=a.aj.length-1:=by omega
 refine aPm (T8 ok hi) (fun e=> ∃w,w<a.aj.length-1/\a.aj[w]! =e) (by omega) (by rw [bo];exact ok.wl) hl (fun w hw=>?_) (fun e=>db) (fun k k0 hk=>ok.ord k k0 (by omega)) (fun j hj hu=>?_) un ?_ ?_
 · obtain ⟨c1,c2,c3,c4,c5⟩:=ok.back (show w<a.aj.length by omega)
   refine ⟨c1,by rw [bo,ok.wl];exact c2,?_⟩
   rw [bD,if_neg (fun h=>CK ok hi (show w<a.aj.length by omega) (by omega) h.1)]
   exact c5
 · change j<a.ai.ac.length at hj
   rw [F2 ok hi hj] at hu
   by_cases e:j=Ev.n a.aj[i]!
   · rw [if_pos e] at hu;cases hu
   rw [if_neg e] at hu
   obtain ⟨w,hw,e1,e2⟩:=ok.used_ev hj hu;refine ⟨a.aj[w]!,⟨w,?_,rfl⟩,e1,e2⟩
   have:w≠i:=fun h=>e (by rw [<- h];show j=(Ev.ix a.aj[w]!).toNat;omega)
   omega
 · rintro e ⟨w,hw,rfl⟩
   exact ok.ev w (by omega)
 rintro e f ⟨v,hv,rfl⟩ ⟨w,hw,rfl⟩ he
 rw [ok.nums (by omega) (by omega) he]
theorem Q3 (e:Ev):e∈(eL a i).aj↔(e∈a.aj/\e≠a.aj[i]!):=by
 have other: ∀w,w<a.aj.length->(a.aj[w]!≠a.aj[i]!↔w≠i):=fun w hw=>⟨fun h k=>h (by rw [k]),fun h k=>h (ok.inj hw hi (by rw [k]))⟩
 unfold eL
 by_cases hlt:i<a.aj.length-1
 · rw [if_pos hlt]
   have st:=NF ok hi hlt;show e∈(_:List Ev).take _↔_;rw [HU (by rw [st.hl];omega)]
   refine (st.mem e).trans ?_;constructor
   · rintro (h|⟨w,hw,hwi,rfl⟩)
     · rw [h];exact ⟨bE (by omega),(other _ (by omega)).2 (by omega)⟩
     exact ⟨bE (by omega),(other _ (by omega)).2 hwi⟩
   rintro ⟨h,hne⟩
   obtain ⟨w,hw,rfl⟩:=aU.1 h
   by_cases c:w=a.aj.length-1
   · left;rw [c]
   exact .inr ⟨w,by omega,(other w hw).1 hne,rfl⟩
 rw [if_neg hlt]
 show e∈a.aj.take _↔_;rw [HU (by omega)]
 constructor
 · rintro ⟨w,hw,rfl⟩
   exact ⟨bE (by omega),(other _ (by omega)).2 (by omega)⟩
 rintro ⟨h,hne⟩
 obtain ⟨w,hw,rfl⟩:=aU.1 h
 have:=(other w hw).1 hne
 exact ⟨w,by omega,rfl⟩
theorem MK:vA a (i:Int)=some (eL a i,a.aj[i]!,0):=by
 have bd:=ok.bd;obtain ⟨b1,b2,b3,b4,b5⟩:=ok.back hi;obtain ⟨c1,c2,c3,c4,c5⟩:=ok.back (show a.aj.length-1<a.aj.length by omega)
 unfold vA;have e1:aA .i64 ((a.aj.length:Int) -1)=((a.aj.length-1:Nat):Int):=qP (by omega) (by omega)
 have g1:aN a.am (a.aj[i]!).2.2.2.1=some a.am[(a.aj[i]!).2.2.2.1.toNat]!:=eK b1 (by rw [ok.wl];exact b2)
 have ws:cM a.am (a.aj[i]!).2.2.2.1 (-1)=a.am.set (Ev.n a.aj[i]!) (-1):=rfl
 simp only [aE a.aj i hi,aB,WB ok.so (ok.handle hi).1,show ((0:Int) !=0)=false from rfl,cond_false,aZ (show a.aj.length<=1048576 by omega),aZ (show a.am.length<=1048576 by omega),aF,e1,aE a.aj (a.aj.length-1) (by omega),mQ a.aj (a.aj.length-1) (by omega),g1,ws,bu]
 unfold eL
 by_cases hlt:i<a.aj.length-1
 · rw [aK (by omega),if_pos hlt]
   have se:=aBE (cap:=a.aj.length) (u:=(gC a.ai (a.aj[i]!).2.2.2).ac) (us:=(gC a.ai (a.aj[i]!).2.2.2).ae) (fr:=(gC a.ai (a.aj[i]!).2.2.2).af) (ok.ev (a.aj.length-1) (by omega)) (show 0<=Ev.ix a.aj[a.aj.length-1]! from c1) (T7 ok hi) hlt (show Ev.ix a.aj[a.aj.length-1]!<_ by rw [bo,ok.wl];exact c2)
   rw [se];rfl
 rw [dec_f (by omega),if_neg hlt]
 rfl
theorem uK (fit:F0 a) {h:Int×Int} (hh:(a.aj[i]!).2.2.2=h):oA a h=some (eL a i,a.aj[i]!,0):=by
 unfold oA;rw [Z2 ok fit hi hh];simp only [aB,show ((0:Int) !=0)=false from rfl,cond_false,MK ok hi]
theorem CL {h:Int×Int} (hh:(a.aj[i]!).2.2.2=h):lO a h=some (eL a i):=by
 have bd:=ok.bd;subst hh;obtain ⟨b1,b2,b3,b4,b5⟩:=ok.back hi;obtain ⟨c1,c2,c3,c4,c5⟩:=ok.back (show a.aj.length-1<a.aj.length by omega)
 unfold lO;rw [vL ok];have e1:aA .i64 ((a.aj.length:Int) -1)=((a.aj.length-1:Nat):Int):=qP (by omega) (by omega)
 have g1:aN a.am (a.aj[i]!).2.2.2.1=some (i:Int):=by
  rw [eK (l:=a.am) b1 (by rw [ok.wl];exact b2)]
  exact congrArg some b5
 have gv:=QN ok.so (ok.handle hi).1;simp only [aB,g1,aF,e1,bu];unfold eL
 by_cases hlt:i<a.aj.length-1
 · rw [dM (show (i:Int)≠((a.aj.length-1:Nat):Int) by omega),if_pos hlt]
   have hne:a.aj.length-1≠i:=by omega
   have nn:Ev.n a.aj[a.aj.length-1]!≠Ev.n a.aj[i]!:=CK ok hi (by omega) hne
   have sw:=KV (n:=a.aj.length) (x:=a.aj[i]!) (u:=a.ai.ac) (us:=a.ai.ae) (fr:=a.ai.af) (H:=a.aj) (W:=a.am) hi (show a.aj.length-1<a.aj.length by omega) hne rfl b1 (by rw [ok.wl];exact b2) c1 (by rw [ok.wl];exact c2)
   rw [set_same (l:=a.aj) rfl,set_same (l:=a.am) b5] at sw;have hs:(a.aj.set i a.aj[a.aj.length-1]!).set (a.aj.length-1) a.aj[i]! =(a.aj.set (a.aj.length-1) a.aj[i]!).set i a.aj[a.aj.length-1]!:=eg _ _ (by omega)
   have ws:cM ((a.am.set (Ev.n a.aj[a.aj.length-1]!) (i:Int)).set (Ev.n a.aj[i]!) ((a.aj.length-1:Nat):Int)) (a.aj[i]!).2.2.2.1 (-1)=(a.am.set (Ev.n a.aj[i]!) (-1)).set (Ev.n a.aj[a.aj.length-1]!) (i:Int):=by
    show ((a.am.set (Ev.n a.aj[a.aj.length-1]!) (i:Int)).set (Ev.n a.aj[i]!) ((a.aj.length-1:Nat):Int)).set (Ev.n a.aj[i]!) (-1)=_;rw [List.set_set,eg _ _ nn]
   have g2:aN ((a.am.set (Ev.n a.aj[a.aj.length-1]!) (i:Int)).set (Ev.n a.aj[i]!) ((a.aj.length-1:Nat):Int)) (a.aj[i]!).2.2.2.1=some _:=eK b1 (by rw [bo,bo,ok.wl];exact b2)
   have cells:pD (a.aj.length-1) (a.aj.set (a.aj.length-1) a.aj[i]!) (a.am.set (Ev.n a.aj[i]!) (-1)):=by
    refine ⟨by rw [bo];omega,by rw [bo];omega,fun w hw=>?_⟩
    rw [bD,if_neg (by omega)]
    exact (T7 ok hi).ev w hw
   have x1:Ev.ix a.aj[a.aj.length-1]!<(a.am.set (Ev.n a.aj[i]!) (-1)).length:=by rw [bo,ok.wl];exact c2
   have hx:=ok.ev (a.aj.length-1) (by omega)
   have gv':rR (bA.mk a.ai.ac a.ai.ae a.ai.af) (a.aj[i]!).2.2.2=some (gC a.ai (a.aj[i]!).2.2.2):=gv;have tk:(a.aj.set (a.aj.length-1) a.aj[i]!).take (a.aj.length-1)=a.aj.take (a.aj.length-1):=by rw [A0];exact c8 (by rw [bz];omega)
   have U:pA ((gC a.ai (a.aj[i]!).2.2.2).ac,(gC a.ai (a.aj[i]!).2.2.2).ae,(gC a.ai (a.aj[i]!).2.2.2).af,a.aj.length-1,((a.aj.set (a.aj.length-1) a.aj[i]!).set i a.aj[a.aj.length-1]!).length,(i:Int),(a.aj.set (a.aj.length-1) a.aj[i]!).set i a.aj[a.aj.length-1]!,(a.am.set (Ev.n a.aj[i]!) (-1)).set (Ev.n a.aj[a.aj.length-1]!) (i:Int))=
    some (((kN a.aj[a.aj.length-1]! i (a.aj.set (a.aj.length-1) a.aj[i]!) (a.am.set (Ev.n a.aj[i]!) (-1))).1:Int),(kN a.aj[a.aj.length-1]! i (a.aj.set (a.aj.length-1) a.aj[i]!) (a.am.set (Ev.n a.aj[i]!) (-1))).2.1.set (kN a.aj[a.aj.length-1]! i (a.aj.set (a.aj.length-1) a.aj[i]!) (a.am.set (Ev.n a.aj[i]!) (-1))).1 a.aj[a.aj.length-1]!,(kN a.aj[a.aj.length-1]! i (a.aj.set (a.aj.length-1) a.aj[i]!) (a.am.set (Ev.n a.aj[i]!) (-1))).2.2.set (Ev.n a.aj[a.aj.length-1]!) ((kN a.aj[a.aj.length-1]! i (a.aj.set (a.aj.length-1) a.aj[i]!) (a.am.set (Ev.n a.aj[i]!) (-1))).1:Int)):=by
    unfold pA
    exact aGE (n:=a.aj.length-1) (c0:=((gC a.ai (a.aj[i]!).2.2.2).ac,(gC a.ai (a.aj[i]!).2.2.2).ae,(gC a.ai (a.aj[i]!).2.2.2).af,a.aj.length-1,((a.aj.set (a.aj.length-1) a.aj[i]!).set i a.aj[a.aj.length-1]!).length,(i:Int),(a.aj.set (a.aj.length-1) a.aj[i]!).set i a.aj[a.aj.length-1]!,(a.am.set (Ev.n a.aj[i]!) (-1)).set (Ev.n a.aj[a.aj.length-1]!) (i:Int))) hx c1 i _ _ cells hlt x1 bo bo
   have ul:=aGK (x:=a.aj[a.aj.length-1]!) i (a.aj.set (a.aj.length-1) a.aj[i]!) (a.am.set (Ev.n a.aj[i]!) (-1));have un:=aDg (x:=a.aj[a.aj.length-1]!) i (a.aj.set (a.aj.length-1) a.aj[i]!) (a.am.set (Ev.n a.aj[i]!) (-1));have uc:=fun w hw=>FZ (x:=a.aj[a.aj.length-1]!) cells hlt (i:=i) rfl w hw
   have cells1:pD (a.aj.length-1) (kN a.aj[a.aj.length-1]! i (a.aj.set (a.aj.length-1) a.aj[i]!) (a.am.set (Ev.n a.aj[i]!) (-1))).2.1 (kN a.aj[a.aj.length-1]! i (a.aj.set (a.aj.length-1) a.aj[i]!) (a.am.set (Ev.n a.aj[i]!) (-1))).2.2:=by
    refine ⟨by rw [un.1,bo];omega,by rw [un.1,bo];omega,fun w hw=>?_⟩
    rw [un.2];exact uc w hw
   have D:mJ ((gC a.ai (a.aj[i]!).2.2.2).ac,(gC a.ai (a.aj[i]!).2.2.2).ae,(gC a.ai (a.aj[i]!).2.2.2).af,a.aj.length-1,((a.aj.set (a.aj.length-1) a.aj[i]!).set i a.aj[a.aj.length-1]!).length,((kN a.aj[a.aj.length-1]! i (a.aj.set (a.aj.length-1) a.aj[i]!) (a.am.set (Ev.n a.aj[i]!) (-1))).1:Int),(kN a.aj[a.aj.length-1]! i (a.aj.set (a.aj.length-1) a.aj[i]!) (a.am.set (Ev.n a.aj[i]!) (-1))).2.1.set (kN a.aj[a.aj.length-1]! i (a.aj.set (a.aj.length-1) a.aj[i]!) (a.am.set (Ev.n a.aj[i]!) (-1))).1 a.aj[a.aj.length-1]!,(kN a.aj[a.aj.length-1]! i (a.aj.set (a.aj.length-1) a.aj[i]!) (a.am.set (Ev.n a.aj[i]!) (-1))).2.2.set (Ev.n a.aj[a.aj.length-1]!) ((kN a.aj[a.aj.length-1]! i (a.aj.set (a.aj.length-1) a.aj[i]!) (a.am.set (Ev.n a.aj[i]!) (-1))).1:Int))=
    some (cY (a.aj.length-1) a.aj[a.aj.length-1]! i (a.aj.set (a.aj.length-1) a.aj[i]!) (a.am.set (Ev.n a.aj[i]!) (-1))):=by
    unfold mJ
    exact ZX (n:=a.aj.length-1) (c0:=((gC a.ai (a.aj[i]!).2.2.2).ac,(gC a.ai (a.aj[i]!).2.2.2).ae,(gC a.ai (a.aj[i]!).2.2.2).af,a.aj.length-1,((a.aj.set (a.aj.length-1) a.aj[i]!).set i a.aj[a.aj.length-1]!).length,((kN a.aj[a.aj.length-1]! i (a.aj.set (a.aj.length-1) a.aj[i]!) (a.am.set (Ev.n a.aj[i]!) (-1))).1:Int),(kN a.aj[a.aj.length-1]! i (a.aj.set (a.aj.length-1) a.aj[i]!) (a.am.set (Ev.n a.aj[i]!) (-1))).2.1.set (kN a.aj[a.aj.length-1]! i (a.aj.set (a.aj.length-1) a.aj[i]!) (a.am.set (Ev.n a.aj[i]!) (-1))).1 a.aj[a.aj.length-1]!,(kN a.aj[a.aj.length-1]! i (a.aj.set (a.aj.length-1) a.aj[i]!) (a.am.set (Ev.n a.aj[i]!) (-1))).2.2.set (Ev.n a.aj[a.aj.length-1]!) ((kN a.aj[a.aj.length-1]! i (a.aj.set (a.aj.length-1) a.aj[i]!) (a.am.set (Ev.n a.aj[i]!) (-1))).1:Int))) hx c1 a.aj.length (kN a.aj[a.aj.length-1]! i (a.aj.set (a.aj.length-1) a.aj[i]!) (a.am.set (Ev.n a.aj[i]!) (-1))).1 (kN a.aj[a.aj.length-1]! i (a.aj.set (a.aj.length-1) a.aj[i]!) (a.am.set (Ev.n a.aj[i]!) (-1))).2.1 (kN a.aj[a.aj.length-1]! i (a.aj.set (a.aj.length-1) a.aj[i]!) (a.am.set (Ev.n a.aj[i]!) (-1))).2.2 (by omega) cells1 (by omega) (by rw [un.2];exact x1) bo bo
   have st:=KZ (n:=(a.aj.length-1)) (x:=a.aj[a.aj.length-1]!) (i:=i) (H:=(a.aj.set (a.aj.length-1) a.aj[i]!)) (W:=(a.am.set (Ev.n a.aj[i]!) (-1))) hlt;have st2:=KZ (n:=(a.aj.length-1)) (x:=a.aj[a.aj.length-1]!) (i:=i) (H:=a.aj) (W:=(a.am.set (Ev.n a.aj[i]!) (-1))) hlt;rw [tk,st2] at st;injection st with st1 st3
   simp only [cond_true,sw,aB,mQ _ (a.aj.length-1) (show a.aj.length-1<=((a.aj.set (a.aj.length-1) a.aj[i]!).set i a.aj[a.aj.length-1]!).length by rw [bo,bo];omega),g2,gv',ws,hs,U,D,<- st1,<- st3]
 rw [bP (show (i:Int)=((a.aj.length-1:Nat):Int) by omega),if_neg hlt]
 have ws:cM a.am (a.aj[i]!).2.2.2.1 (-1)=a.am.set (Ev.n a.aj[i]!) (-1):=rfl;simp only [cond_false,mQ a.aj (a.aj.length-1) (by omega),aB,gv,ws]
end
abbrev wO:=Int×Int×Int
theorem fQ.fit {a:aP} (ok:fQ a):F0 a:=by
 have bd:=ok.bd
 have:=ok.so.fl
 have:=ok.so.n2
 exact ⟨by omega,by omega,by omega,fun w hw=>(ok.ev w hw).2.1⟩
theorem G5 (l:List wO) (id:Int) (hl:l.length<=1000000) (hs: ∀i j,i<j->j<l.length->(l[i]!).1<(l[j]!).1):
 (∀k,k<l.length->(l[k]!).1=id->aS l id ()=some ((k:Int),true))/\
 ((∀k,k<l.length->(l[k]!).1≠id)-> ∃m,m<=l.length/\(∀i,i<m->(l[i]!).1<id)/\(∀i,m<=i->i<l.length->id<(l[i]!).1)/\aS l id ()=some ((m:Int),false)):=by
 obtain ⟨m,m1,m2,m3⟩:=ZV (fun i=>(l[i]!).1) id l.length hs
 have run:aS l id ()=aH aT (l,id,(l.length:Int),(m:Int),(m:Int)):=by
  unfold aS;refine MF (body:=aT) (fun lo hi=>(l,id,(l.length:Int),(lo:Int),(hi:Int))) l.length m (fun i=>(l[i]!).1<id) (fun lo hi h1 h2=>?_) m2 (fun i h1 h2 h3=>by have:=m3 i h1 h2;omega) l.length 0 l.length (by omega) (by omega) m1 (bv _)
  have e1:decide ((lo:Int)<(hi:Int))=true:=aK (by omega)
  have hh:=aOq (a:=lo) (b:=hi) (by omega) (by omega)
  unfold aT wD;simp only [e1,cond_true,hh,aE l ((lo+hi) / 2) (by omega),mO,aB,aV (show (lo+hi) / 2<1000000000 by omega)]
  constructor
  · intro h
    have:decide (lU (l[(lo+hi) / 2]!).1 id<0)=true:=by
     rcases eF (l[(lo+hi) / 2]!).1 id with ⟨a,e⟩|⟨a,e⟩|⟨a,e⟩<;>rw [e]<;>first|rfl|omega
    rw [this];rfl
  intro h
  have:decide (lU (l[(lo+hi) / 2]!).1 id<0)=false:=by
   rcases eF (l[(lo+hi) / 2]!).1 id with ⟨a,e⟩|⟨a,e⟩|⟨a,e⟩<;>rw [e]<;>first|rfl|omega
  rw [this];rfl
 have fin:aH aT (l,id,(l.length:Int),(m:Int),(m:Int))=if m<l.length/\(l[m]!).1=id then some ((m:Int),true) else some ((m:Int),false):=by
  have e1:decide ((m:Int)<(m:Int))=false:=dec_f (by omega)
  by_cases hm:m<l.length
  · have e2:decide ((m:Int)<(l.length:Int))=true:=aK (by omega)
    have body:aT (l,id,(l.length:Int),(m:Int),(m:Int))=some (.done ((m:Int),lU (l[m]!).1 id==0)):=by
     unfold aT wD;simp only [e1,e2,cond_true,cond_false,aE l m hm,mO,aB]
    rw [aL body];rcases eF (l[m]!).1 id with ⟨a,e⟩|⟨a,e⟩|⟨a,e⟩
    · rw [e,if_neg (fun h=>by omega)];rfl
    · rw [e,if_pos ⟨hm,a⟩];rfl
    rw [e,if_neg (fun h=>by omega)];rfl
  have e2:decide ((m:Int)<(l.length:Int))=false:=dec_f (by omega)
  have body:aT (l,id,(l.length:Int),(m:Int),(m:Int))=some (.done ((m:Int),false)):=by
   unfold aT;simp only [e1,e2,cond_false]
  rw [aL body,if_neg (fun h=>hm h.1)]
 rw [run,fin];constructor
 · intro k hk he
   have hkm:k=m:=by
    rcases c7 k m with h|h|h
    · have:=m2 k h;omega
    · exact h
    have h1:=m3 m (bv _) (by omega)
    have h2:=hs m k h hk;omega
   subst hkm;rw [if_pos ⟨hk,he⟩]
 intro h
 refine ⟨m,m1,m2,fun i h1 h2=>?_,?_⟩
 · have:=m3 i h1 h2
   have:=h i h2
   omega
 rw [if_neg (fun k=>h m k.1 k.2)]
theorem aVn:dS=aS:=rfl
theorem aGM:dO=aS:=rfl
theorem aOw:dP=aS:=rfl
theorem zG {α:Type} (l:List α) (k:Nat):l.eraseIdx k=l.take k++l.drop (k+1):=List.eraseIdx_eq_take_drop_succ l k
theorem F3 (l:List wO) (k:Nat) (hk:k<l.length): ∃L:List wO,eY ((k:Int),((k+1:Nat):Int),l)=some (l.length-1,l.length,L)/\L.take (l.length-1)=l.eraseIdx k:=by
 unfold eY;have e1:decide ((0:Int)<=(k:Int))=true:=aK (by omega)
 have e2:decide ((k:Int)<=((k+1:Nat):Int))=true:=aK (by omega)
 have e3:decide (((k+1:Nat):Int)<=(l.length:Int))=true:=aK (by omega)
 have e4:decide ((l.length:Int)<=(l.length:Int))=true:=aK (by omega)
 have e5:((k:Int)==((k+1:Nat):Int))=false:=eT (by omega)
 have e6:decide ((0:Int)<=((k+1:Nat):Int))=true:=aK (by omega)
 have e7:decide ((k:Int)<=(l.length:Int))=true:=aK (by omega)
 have dr:(l.drop (k+1)).take (l.length- (k+1))=l.drop (k+1):=cd (by rw [c9];exact bv _)
 have dl:(l.drop (k+1)).length=l.length- (k+1):=c9;simp only [aF,e1,e2,e3,e4,e5,e6,e7,eh,cond_true,cond_false,mQ l k (by omega),aB,bu,Nat.zero_add,dr,dl,cm,Bool.and_true]
 by_cases h:k+1=l.length
 · have em:(l.drop (k+1)).isEmpty=true:=by rw [dz,cy];omega
   have n1:ej (l.length-k) 0=false:=by
    cases hb:ej (l.length-k) 0 with
    |false=>rfl
    |true=>have:=df hb;omega
   have n2:Nat.ble (k+(l.length-k)) l.length=true:=cu (by omega)
   have ll:(jY l k (d9 (l.length-k) ((0:Int),(0:Int),(0:Int)))).length=l.length:=by
    unfold jY;simp;omega
   simp only [em,cond_true,n1,cond_false,n2,ll,beq_self_eq_true];refine ⟨_,by rw [show k=l.length-1 by omega],?_⟩
   rw [zG,show l.length-1=k by omega]
   unfold jY;rw [cq,ce (by rw [bz];omega),ec,ek]
   rw [dd (by omega),d7]
 have em:(l.drop (k+1)).isEmpty=false:=by
  cases hb:(l.drop (k+1)).isEmpty with
  |false=>rfl
  |true=>rw [dz,cy] at hb;omega
 have n1:Nat.ble (k+(l.length- (k+1))) l.length=true:=cu (by omega)
 have n2:decide ((0:Int)<=((k+(l.length- (k+1)):Nat):Int))=true:=aK (by omega)
 have n3:decide (((k+(l.length- (k+1)):Nat):Int)<=(l.length:Int))=true:=aK (by omega)
 have n4:ej (l.length- (k+(l.length- (k+1)))) 0=false:=by
  cases hb:ej (l.length- (k+(l.length- (k+1)))) 0 with
  |false=>rfl
  |true=>have:=df hb;omega
 have l1:(jY l k (l.drop (k+1))).length=l.length:=by
  unfold jY;simp;omega
 have n5:Nat.ble (k+(l.length- (k+1))+(l.length- (k+(l.length- (k+1))))) l.length=true:=cu (by omega)
 have l2:(jY (jY l k (l.drop (k+1))) (k+(l.length- (k+1))) (d9 (l.length- (k+(l.length- (k+1)))) ((0:Int),(0:Int),(0:Int)))).length=l.length:=by
  unfold jY;simp;omega
 simp only [em,cond_false,n1,cond_true,n2,n3,eh,n4,l1,n5,l2,beq_self_eq_true];refine ⟨_,by rw [show k+(l.length- (k+1))=l.length-1 by omega],?_⟩
 rw [zG]
 have:k+(l.length- (k+1))=l.length-1:=by omega
 unfold jY;rw [cq,ce (by simp;omega),ec,ek,cq]
 rw [show (l.take k++(l.drop (k+1)++l.drop (k+(l.drop (k+1)).length)))=(l.take k++l.drop (k+1))++l.drop (k+(l.drop (k+1)).length) by rw [cq]]
 rw [ce (by simp;omega),cd (by simp;omega)]
theorem Q4:nJ=eY:=rfl
theorem Q5 {α:Type} [Inhabited α] {l:List α} {k i:Nat}:(l.eraseIdx k)[i]! =if i<k then l[i]! else l[i+1]!:=by
 rw [zG]
 by_cases hk:k<l.length
 · by_cases h:i<k
   · rw [if_pos h,iG (by rw [bz];omega),oD h]
   rw [if_neg h,kM (by rw [bz];omega),uF,bz]
   congr 1;omega
 have e1:l.take k=l:=cd (by omega)
 have e2:l.drop (k+1)=[]:=dd (by omega)
 rw [e1,e2,d7];split
 · rfl
 rw [getElem!_neg l i (by omega),getElem!_neg l (i+1) (by omega)]
def gF (x:Int×Int):Prop:=0<=x.1/\x.1<=65535/\0<=x.2/\x.2<=65535/\x.1≠x.2
theorem HV (x:Int×Int):yV x=some (decide (gF x)):=by
 obtain ⟨a,b⟩:=x;unfold yV;dsimp only
 by_cases h1:0<=a
 · by_cases h3:0<=b
   · have e1:decide (0<=if b<a then b else a)=true:=aK (by split<;>omega)
     rw [e1]
     by_cases h2:a<=65535
     · by_cases h4:b<=65535
       · have e2:decide ((if b>a then b else a)<=65535)=true:=aK (by split<;>omega)
         rw [e2]
         by_cases h5:a=b
         · rw [bP h5,dec_f (p:=gF (a,b)) (fun h=>h.2.2.2.2 h5)];rfl
         rw [dM h5,aK (p:=gF (a,b)) ⟨h1,h2,h3,h4,h5⟩];rfl
       have e2:decide ((if b>a then b else a)<=65535)=false:=dec_f (by split<;>omega)
       rw [e2,dec_f (p:=gF (a,b)) (fun h=>h4 h.2.2.2.1)];rfl
     have e2:decide ((if b>a then b else a)<=65535)=false:=dec_f (by split<;>omega)
     rw [e2,dec_f (p:=gF (a,b)) (fun h=>h2 h.2.1)];rfl
   have e1:decide (0<=if b<a then b else a)=false:=dec_f (by split<;>omega)
   rw [e1,dec_f (p:=gF (a,b)) (fun h=>h3 h.2.2.1)];rfl
 have e1:decide (0<=if b<a then b else a)=false:=dec_f (by split<;>omega)
 rw [e1,dec_f (p:=gF (a,b)) (fun h=>h1 h.1)];rfl
theorem HW (x:Int×Int):zB x=some (decide (gF x)):=by
 obtain ⟨a,b⟩:=x;unfold zB;dsimp only
 by_cases h1:0<=a
 · by_cases h2:a<=65535
   · by_cases h3:0<=b
     · by_cases h4:b<=65535
       · by_cases h5:a=b
         · rw [bP h5,aK h1,aK h2,aK h3,aK h4,dec_f (p:=gF (a,b)) (fun h=>h.2.2.2.2 h5)];rfl
         rw [dM h5,aK h1,aK h2,aK h3,aK h4,aK (p:=gF (a,b)) ⟨h1,h2,h3,h4,h5⟩];rfl
       rw [aK h1,aK h2,aK h3,dec_f h4,dec_f (p:=gF (a,b)) (fun h=>h4 h.2.2.2.1)];rfl
     rw [aK h1,aK h2,dec_f h3,dec_f (p:=gF (a,b)) (fun h=>h3 h.2.2.1)];rfl
   rw [aK h1,dec_f h2,dec_f (p:=gF (a,b)) (fun h=>h2 h.2.1)];rfl
 rw [dec_f h1,dec_f (p:=gF (a,b)) (fun h=>h1 h.1)];rfl
structure fA (c:bM):Prop where
 len:c.aq.length<=200
 n0:0<=c.ao
 n1:c.ao<=1000000
 cv: ∀i,i<c.aq.length->gF (c.aq[i]!).2
 nr: ∀i,i<c.aq.length->0<=(c.aq[i]!).1/\(c.aq[i]!).1<c.ao
 up: ∀i j,i<j->j<c.aq.length->(c.aq[i]!).1<(c.aq[j]!).1
 nd: ∀i j,i<j->j<c.aq.length->(c.aq[i]!).2≠(c.aq[j]!).2
def F4 (l:List wO) (i:Nat):Int:=if i=0 then -1 else (l[i-1]!).1
def aBG (c:bM) (i:Nat):Prop:=gF (c.aq[i]!).2/\(∀j,j<i->(c.aq[j]!).2≠(c.aq[i]!).2)/\F4 c.aq i<(c.aq[i]!).1/\(c.aq[i]!).1<c.ao
theorem fA.iff {c:bM} (h1:c.aq.length<=200) (h2:0<=c.ao) (h3:c.ao<=1000000):fA c↔ ∀i,i<c.aq.length->aBG c i:=by
 constructor
 · intro ok i hi
   refine ⟨ok.cv i hi,fun j hj=>ok.nd j i hj hi,?_,(ok.nr i hi).2⟩
   unfold F4;split
   · have:=(ok.nr i hi).1;omega
   exact ok.up (i-1) i (by omega) hi
 intro h
 have low: ∀i,i<c.aq.length->0<=(c.aq[i]!).1:=by
  intro i
  induction i with
  |zero=>
   intro hi
   have:=(h 0 hi).2.2.1
   unfold F4 at this;rw [if_pos rfl] at this;omega
  |succ i ih=>
   intro hi;have h1:=(h (i+1) hi).2.2.1;unfold F4 at h1;rw [if_neg (by omega),show i+1-1=i by omega] at h1
   have:=ih (by omega)
   omega
 have up: ∀i j,i<j->j<c.aq.length->(c.aq[i]!).1<(c.aq[j]!).1:=by
  intro i j
  induction j with
  |zero=>intro h;omega
  |succ j ih=>
   intro hij hj;have h1:=(h (j+1) hj).2.2.1;unfold F4 at h1;rw [if_neg (by omega),show j+1-1=j by omega] at h1
   by_cases e:i=j
   · subst e;exact h1
   have:=ih (by omega) (by omega)
   omega
 exact ⟨h1,h2,h3,fun i hi=>(h i hi).1,fun i hi=>⟨low i hi,(h i hi).2.2.2⟩,up,fun i j hij hj=>(h j hj).2.1 i hij⟩
theorem Q6 (l:List wO) (k:Nat) (a b:Int):sF [a,b] ((l.take k).map fun x=>[x.2.1,x.2.2])=true:=by
 unfold sF;rw [List.all_eq_true];intro x hx;obtain ⟨y,hy,rfl⟩:=cj.1 hx;rfl
theorem Q7 (l:List wO) (k:Nat) (x:Int×Int):NN ((l.take k).map fun y=>[y.2.1,y.2.2]) [x.1,x.2]=decide (∃j,j<k/\j<l.length/\(l[j]!).2=x):=by
 unfold NN;rw [de,List.any_eq_true,decide_eq_true_iff];constructor
 · rintro ⟨y,hy,he⟩
   obtain ⟨z,hz,rfl⟩:=cj.1 hy;obtain ⟨j,h1,h2,rfl⟩:=cL.1 hz
   have:[x.1,x.2]=[(l[j]!).2.1,(l[j]!).2.2]:=by simpa using he
   injection this with e1 e2;injection e2 with e2 _;exact ⟨j,h1,h2,ci e1.symm e2.symm⟩
 rintro ⟨j,h1,h2,h3⟩
 refine ⟨[(l[j]!).2.1,(l[j]!).2.2],cj.2 ⟨l[j]!,cL.2 ⟨j,h1,h2,rfl⟩,rfl⟩,?_⟩;rw [h3];simp
theorem BN (c:bM):tY c=some (if fA c then 0 else 8):=by
 unfold tY;simp only [aF]
 by_cases h1:200<c.aq.length
 · rw [aK (show (200:Int)<(c.aq.length:Int) by omega),if_neg (fun h=>by have:=h.len;omega)];rfl
 rw [dec_f (show¬(200:Int)<(c.aq.length:Int) by omega)]
 by_cases h2:c.ao<0
 · rw [aK h2,if_neg (fun h=>by have:=h.n0;omega)];rfl
 rw [dec_f h2]
 by_cases h3:1000000<c.ao
 · rw [aK h3,if_neg (fun h=>by have:=h.n1;omega)];rfl
 rw [dec_f h3];simp only [cond_false];have key:=dT (body:=uX) (fun i=>(F4 c.aq i,c.aq,(c.aq.length:Int),(i:Int),c.ao,c.aq,(c.aq.take i).map fun x=>[x.2.1,x.2.2])) c.aq.length (fun i=> ¬aBG c i) (r:=8) (e:=0) (fun i hi=>by
  have e1:decide ((i:Int)<(c.aq.length:Int))=true:=aK (by omega)
  have has:XY ((c.aq.take i).map fun x=>[x.2.1,x.2.2]) [(c.aq[i]!).2.1,(c.aq[i]!).2.2]=some (decide (∃j,j<i/\j<c.aq.length/\(c.aq[j]!).2=(c.aq[i]!).2)):=by
   unfold XY;rw [Q6,Q7];rfl
  have nx:(c.aq.take (i+1)).map (fun x=>[x.2.1,x.2.2])=((c.aq.take i).map fun x=>[x.2.1,x.2.2])++[[(c.aq[i]!).2.1,(c.aq[i]!).2.2]]:=by
   rw [iR hi,List.map_append];rfl
  have ln:F4 c.aq (i+1)=(c.aq[i]!).1:=by unfold F4;rw [if_neg (by omega),show i+1-1=i by omega]
  unfold uX;simp only [e1,cond_true,aE c.aq i hi,aB,HV,has,nx,ln,aV (show i<1000000000 by omega)]
  unfold aBG
  by_cases b1:gF (c.aq[i]!).2
  case neg=>
   rw [dec_f b1];exact ⟨fun _=>rfl,fun h=>absurd (bn.1 h).1 b1⟩
  rw [aK b1]
  by_cases b2: ∃j,j<i/\j<c.aq.length/\(c.aq[j]!).2=(c.aq[i]!).2
  · rw [aK b2]
    refine ⟨fun _=>rfl,fun h=>?_⟩
    obtain ⟨j,j1,j2,j3⟩:=b2;exact absurd j3 ((bn.1 h).2.1 j j1)
  rw [dec_f b2];have b2': ∀j,j<i->(c.aq[j]!).2≠(c.aq[i]!).2:=fun j hj he=>b2 ⟨j,hj,by omega,he⟩
  by_cases b3:(c.aq[i]!).1<=F4 c.aq i
  · rw [aK b3]
    exact ⟨fun _=>rfl,fun h=>absurd (bn.1 h).2.2.1 (by omega)⟩
  rw [dec_f b3]
  by_cases b4:c.ao<=(c.aq[i]!).1
  · rw [aK b4]
    exact ⟨fun _=>rfl,fun h=>absurd (bn.1 h).2.2.2 (by omega)⟩
  rw [dec_f b4];have ins:XZ ((c.aq.take i).map fun x=>[x.2.1,x.2.2]) [(c.aq[i]!).2.1,(c.aq[i]!).2.2]=some (((c.aq.take i).map fun x=>[x.2.1,x.2.2])++[[(c.aq[i]!).2.1,(c.aq[i]!).2.2]]):=by
   unfold XZ aAQ;rw [Q6,Q7,dec_f b2];rfl
  rw [ins];exact ⟨fun h=>absurd ⟨b1,b2',by omega,by omega⟩ h,fun _=>rfl⟩) (by
  unfold uX
  have:decide ((c.aq.length:Int)<(c.aq.length:Int))=false:=dec_f (by omega)
  simp only [this,cond_false])
 have h0:F4 c.aq 0= -1:=rfl;rw [h0] at key
 by_cases ok:fA c
 · rw [if_pos ok]
   exact key.2 fun i hi=>bn.2 ((fA.iff (by omega) (by omega) (by omega)).1 ok i hi)
 rw [if_neg ok]
 rw [fA.iff (by omega) (by omega) (by omega)] at ok
 obtain ⟨i,h⟩:=bw.1 ok;obtain ⟨hi,hx⟩:=cb.1 h;exact key.1 ⟨i,hi,hx⟩
theorem Z7 (c:bM) (i:Nat) (hi:i<c.aq.length) (hl:c.aq.length<=200):
 ((∃j,j<i/\(c.aq[j]!).2=(c.aq[i]!).2)->aH gV ((i:Int),0,c.ao,c.aq,c.aq[i]!)=some (.done 8))/\
 ((∀j,j<i-> ¬(c.aq[j]!).2=(c.aq[i]!).2)->aH gV ((i:Int),0,c.ao,c.aq,c.aq[i]!)=some (.next (((i+1:Nat):Int),c.ao,c.aq))):=by
 refine dT (body:=gV) (fun j=>((i:Int),(j:Int),c.ao,c.aq,c.aq[i]!)) i (fun j=>(c.aq[j]!).2=(c.aq[i]!).2) (r:= .done 8) (e:= .next (((i+1:Nat):Int),c.ao,c.aq)) (fun j hj=>?_) ?_
 · have e1:decide ((j:Int)<(i:Int))=true:=aK (by omega)
   unfold gV;simp only [e1,cond_true,aE c.aq j (by omega),aB,aV (show j<1000000000 by omega)]
   generalize c.aq[j]! =x;generalize c.aq[i]! =y;constructor
   · intro h;rw [dW (congrArg ed h),dW (congrArg ef h)];rfl
   intro h
   by_cases h1:x.2.1=y.2.1
   · rw [dW h1,eT (fun h2=>h (ci h1 h2))];rfl
   rw [eT h1];rfl
 unfold gV
 have:decide ((i:Int)<(i:Int))=false:=dec_f (by omega)
 simp only [this,cond_false,aV (show i<1000000000 by omega)]
theorem F5 (c:bM):wI c=some (if fA c then 0 else 8):=by
 unfold wI;simp only [aF]
 by_cases h1:200<c.aq.length
 · rw [aK (show (200:Int)<(c.aq.length:Int) by omega),if_neg (fun h=>by have:=h.len;omega)];rfl
 rw [dec_f (show¬(200:Int)<(c.aq.length:Int) by omega)]
 by_cases h2:c.ao<0
 · rw [aK h2,if_neg (fun h=>by have:=h.n0;omega)];rfl
 rw [dec_f h2]
 by_cases h3:1000000<c.ao
 · rw [aK h3,if_neg (fun h=>by have:=h.n1;omega)];rfl
 rw [dec_f h3];simp only [cond_false];have key:=dT (body:=sP) (fun i=>((i:Int),c.ao,c.aq)) c.aq.length (fun i=> ¬(gF (c.aq[i]!).2/\0<=(c.aq[i]!).1/\(c.aq[i]!).1<c.ao/\(0<i->(c.aq[i-1]!).1<(c.aq[i]!).1)/\ ∀j,j<i-> ¬(c.aq[j]!).2=(c.aq[i]!).2)) (r:=8) (e:=0) (fun i hi=>by
  have e1:decide ((i:Int)<(c.aq.length:Int))=true:=aK (by omega)
  have l1:=Z7 c i hi (by omega)
  unfold sP;simp only [aF,e1,cond_true,aE c.aq i hi,aB,HW]
  by_cases b1:gF (c.aq[i]!).2
  case neg=>
   rw [dec_f b1];exact ⟨fun _=>rfl,fun h=>absurd (bn.1 h).1 b1⟩
  rw [aK b1]
  by_cases b2:(c.aq[i]!).1<0
  · rw [aK b2]
    exact ⟨fun _=>rfl,fun h=>absurd (bn.1 h).2.1 (by omega)⟩
  rw [dec_f b2]
  by_cases b3:c.ao<=(c.aq[i]!).1
  · rw [aK b3]
    exact ⟨fun _=>rfl,fun h=>absurd (bn.1 h).2.2.1 (by omega)⟩
  rw [dec_f b3];simp only [bq,cond_false];have go:(0<i->(c.aq[i-1]!).1<(c.aq[i]!).1)->(¬(gF (c.aq[i]!).2/\0<=(c.aq[i]!).1/\(c.aq[i]!).1<c.ao/\(0<i->(c.aq[i-1]!).1<(c.aq[i]!).1)/\ ∀j,j<i-> ¬(c.aq[j]!).2=(c.aq[i]!).2)->aH gV ((i:Int),0,c.ao,c.aq,c.aq[i]!)=some (.done 8))/\
   (¬¬(gF (c.aq[i]!).2/\0<=(c.aq[i]!).1/\(c.aq[i]!).1<c.ao/\(0<i->(c.aq[i-1]!).1<(c.aq[i]!).1)/\ ∀j,j<i-> ¬(c.aq[j]!).2=(c.aq[i]!).2)->aH gV ((i:Int),0,c.ao,c.aq,c.aq[i]!)=some (.next (((i+1:Nat):Int),c.ao,c.aq))):=by
   intro hp;constructor
   · intro h
     refine l1.1 (Classical.byContradiction fun hx=>h ⟨b1,by omega,by omega,hp,fun j hj he=>hx ⟨j,hj,he⟩⟩)
   intro h
   exact l1.2 (bn.1 h).2.2.2.2
  by_cases b4:0<i
  · have f1:decide ((0:Int)<(i:Int))=true:=aK (by omega)
    simp only [f1,cond_true,qP (show i<1000000000 by omega) b4,aE c.aq (i-1) (by omega),aB]
    by_cases b5:(c.aq[i]!).1<=(c.aq[i-1]!).1
    · rw [aK b5]
      exact ⟨fun _=>rfl,fun h=>absurd ((bn.1 h).2.2.2.1 b4) (by omega)⟩
    rw [dec_f b5]
    exact go fun _=>by omega
  · have f1:decide ((0:Int)<(i:Int))=false:=dec_f (by omega)
    rw [f1];exact go fun h=>absurd h b4) (by
  unfold sP
  have:decide ((c.aq.length:Int)<(c.aq.length:Int))=false:=dec_f (by omega)
  simp only [aF,this,cond_false])
 have same:fA c↔ ∀i,i<c.aq.length->(gF (c.aq[i]!).2/\0<=(c.aq[i]!).1/\(c.aq[i]!).1<c.ao/\(0<i->(c.aq[i-1]!).1<(c.aq[i]!).1)/\ ∀j,j<i-> ¬(c.aq[j]!).2=(c.aq[i]!).2):=by
  constructor
  · intro ok i hi
    exact ⟨ok.cv i hi,(ok.nr i hi).1,(ok.nr i hi).2,fun h=>ok.up (i-1) i (by omega) hi,fun j hj=>ok.nd j i hj hi⟩
  intro h
  rw [fA.iff (by omega) (by omega) (by omega)]
  intro i hi;obtain ⟨a1,a2,a3,a4,a5⟩:=h i hi;refine ⟨a1,a5,?_,a3⟩;unfold F4;split
  · omega
  exact a4 (by omega)
 by_cases ok:fA c
 · rw [if_pos ok]
   exact key.2 fun i hi=>bn.2 (same.1 ok i hi)
 rw [if_neg ok]
 rw [same] at ok;obtain ⟨i,h⟩:=bw.1 ok;obtain ⟨hi,hx⟩:=cb.1 h;exact key.1 ⟨i,hi,hx⟩
def wP (l:List wO) (x:Int×Int):Prop:= ∃i,i<l.length/\(l[i]!).2=x
theorem Q8 (l:List wO) (x:Int×Int) (hl:l.length<=1000000):cV l x=some (decide (wP l x)):=by
 unfold cV gI;have key:=nC (body:=dZ) (fun i=>(l,x.1,x.2,(l.length:Int),(i:Int))) l.length (fun i=>(l[i]!).2=x) (fun i=>(i:Int)) (e:= -1) (fun i hi=>by
  have e1:decide ((i:Int)<(l.length:Int))=true:=aK (by omega)
  unfold dZ IY;simp only [e1,cond_true,aE l i hi,aB,aV (show i<1000000000 by omega)]
  generalize l[i]! =y;constructor
  · intro h;rw [dW (congrArg ed h),dW (congrArg ef h)];rfl
  · intro h
    by_cases h1:y.2.1=x.1
    · rw [dW h1,eT (fun h2=>h (ci h1 h2))];rfl
    rw [eT h1];rfl) (by
  unfold dZ
  have:decide ((l.length:Int)<(l.length:Int))=false:=dec_f (by omega)
  simp only [this,cond_false])
 rw [aF]
 by_cases hx:wP l x
 · obtain ⟨k,h1,h2,h3⟩:=KP hx
   have:=key.1 k h1 h2 h3
   rw [show ((0:Nat):Int)=0 from rfl] at this;rw [this,aK hx];simp only [aB,aK (show (0:Int)<=(k:Int) by omega)]
 have:=key.2 fun i hi he=>hx ⟨i,hi,he⟩
 rw [show ((0:Nat):Int)=0 from rfl] at this;rw [this,dec_f hx];rfl
theorem CN:eX=cV:=rfl
theorem D0 (c:bM) (x:Int×Int) (hl:c.aq.length<=1000000):yG c x=some (decide (wP c.aq x)):=by
 unfold yG;have key:=dT (body:=xV) (fun i=>((i:Int),c.ao,c.aq,x)) c.aq.length (fun i=>(c.aq[i]!).2=x) (r:=true) (e:=false) (fun i hi=>by
  have e1:decide ((i:Int)<(c.aq.length:Int))=true:=aK (by omega)
  unfold xV;simp only [aF,e1,cond_true,aE c.aq i hi,aB,aV (show i<1000000000 by omega)]
  generalize c.aq[i]! =y;constructor
  · intro h;rw [dW (congrArg ed h),dW (congrArg ef h)];rfl
  · intro h
    by_cases h1:y.2.1=x.1
    · rw [dW h1,eT (fun h2=>h (ci h1 h2))];rfl
    rw [eT h1];rfl) (by
  unfold xV
  have:decide ((c.aq.length:Int)<(c.aq.length:Int))=false:=dec_f (by omega)
  simp only [aF,this,cond_false])
 by_cases hx:wP c.aq x
 · rw [aK hx];exact key.1 hx
 rw [dec_f hx];exact key.2 fun i hi he=>hx ⟨i,hi,he⟩
def qR (c:bM) (x:Int×Int):bM:=⟨c.ao+1,c.aq++[(c.ao,x)]⟩
def HX (c:bM):Prop:=c.aq.length=200\/c.ao=1000000
theorem Z8 {c:bM} (ok:fA c) {x:Int×Int} (hx:gF x):KI c x=some (if wP c.aq x then (⟨0,[]⟩,0,14) else if HX c then (⟨0,[]⟩,0,18) else (qR c x,c.ao,0)):=by
 have:=ok.len;have:=ok.n0;have:=ok.n1
 unfold KI;rw [BN,if_pos ok,HV,aK hx,Q8 _ _ (by omega)]
 simp only [aB,show ((0:Int) !=0)=false from rfl,cond_false,bq,aF]
 by_cases h1:wP c.aq x
 · rw [aK h1,if_pos h1];rfl
 rw [dec_f h1,if_neg h1];unfold HX
 by_cases h2:c.aq.length=200
 · rw [dW (show (c.aq.length:Int)=200 by omega),if_pos (.inl h2)];rfl
 rw [eT (show¬(c.aq.length:Int)=200 by omega)]
 by_cases h3:c.ao=1000000
 · rw [dW h3,if_pos (.inr h3)];rfl
 rw [eT h3,if_neg (by omega)]
 have e:aA .i64 (c.ao+1)=c.ao+1:=by rw [wi];omega
 simp only [cond_false,aZ (show c.aq.length<=1048576 by omega),aB,eU (show c.aq.length+[(c.ao,x)].length<=1048576 by simp;omega),e]
 rfl
theorem WJ {c:bM} (ok:fA c) {x:Int×Int} (hx:gF x):GX c x=some (if wP c.aq x then (⟨0,[]⟩,0,14) else if HX c then (⟨0,[]⟩,0,18) else (qR c x,c.ao,0)):=by
 have:=ok.len;have:=ok.n0;have:=ok.n1
 unfold GX qX;rw [F5,if_pos ok,HW,aK hx,D0 _ _ (by omega)]
 simp only [aB,show ((0:Int) !=0)=false from rfl,cond_false,bq,aF]
 by_cases h1:wP c.aq x
 · rw [aK h1,if_pos h1];rfl
 rw [dec_f h1,if_neg h1];unfold HX
 by_cases h2:c.aq.length=200
 · rw [dW (show (c.aq.length:Int)=200 by omega),if_pos (.inl h2)];rfl
 rw [eT (show¬(c.aq.length:Int)=200 by omega)]
 by_cases h3:c.ao=1000000
 · rw [dW h3,if_pos (.inr h3)];rfl
 rw [eT h3,if_neg (by omega)]
 have e:aA .i64 (c.ao+1)=c.ao+1:=by rw [wi];omega
 simp only [cond_false,aZ (show c.aq.length<=1048576 by omega),aB,eU (show c.aq.length+[(c.ao,x)].length<=1048576 by simp;omega),e]
 rfl
theorem zH {c:bM} {x:Int×Int} {i:Nat}:(qR c x).aq[i]! =if i<c.aq.length then c.aq[i]! else if i=c.aq.length then (c.ao,x) else default:=by
 show (c.aq++[(c.ao,x)])[i]! =_
 by_cases h:i<c.aq.length
 · rw [if_pos h,iG h]
 rw [if_neg h,kM (by omega)]
 by_cases e:i=c.aq.length
 · rw [if_pos e,e,dc];rfl
 rw [if_neg e,getElem!_neg _ _ (by simp;omega)]
theorem G6 {c:bM} {x:Int×Int}:(qR c x).aq.length=c.aq.length+1:=by
 show (c.aq++[(c.ao,x)]).length=_;simp
theorem aBH {c:bM} (ok:fA c) {x:Int×Int} (hx:gF x) (hn: ¬wP c.aq x) (hf: ¬HX c):fA (qR c x):=by
 have h1:=ok.len;have h2:=ok.n0;have h3:=ok.n1;unfold HX at hf;refine ⟨by rw [G6];omega,by show 0<=c.ao+1;omega,by show c.ao+1<=1000000;omega,?_,?_,?_,?_⟩
 · intro i hi
   rw [G6] at hi;rw [zH]
   by_cases h:i<c.aq.length
   · rw [if_pos h];exact ok.cv i h
   rw [if_neg h,if_pos (by omega)];exact hx
 · intro i hi
   rw [G6] at hi;rw [zH];show 0<=_/\_<c.ao+1
   by_cases h:i<c.aq.length
   · rw [if_pos h];have:=ok.nr i h;omega
   rw [if_neg h,if_pos (by omega)];dsimp only;omega
 · intro i j hij hj
   rw [G6] at hj;rw [zH,zH,if_pos (by omega)]
   by_cases h:j<c.aq.length
   · rw [if_pos h];exact ok.up i j hij h
   rw [if_neg h,if_pos (by omega)]
   exact (ok.nr i (by omega)).2
 intro i j hij hj
 rw [G6] at hj;rw [zH,zH,if_pos (by omega)]
 by_cases h:j<c.aq.length
 · rw [if_pos h];exact ok.nd i j hij h
 rw [if_neg h,if_pos (by omega)]
 exact fun he=>hn ⟨i,by omega,he⟩
def pW (c:bM) (k:Nat):bM:=⟨c.ao,c.aq.eraseIdx k⟩
theorem aDh {α:Type} {l:List α} {k:Nat} (hk:k<l.length):(l.eraseIdx k).length=l.length-1:=by
 rw [List.length_eraseIdx,if_pos hk]
theorem Q9 {c:bM} (ok:fA c) {k:Nat} (hk:k<c.aq.length):fA (pW c k):=by
 have h1:=ok.len;have len:(pW c k).aq.length=c.aq.length-1:=aDh hk;have cell: ∀i,∃j,i<=j/\j<=i+1/\(i<c.aq.length-1->j<c.aq.length)/\(pW c k).aq[i]! =c.aq[j]!/\(i<k->j=i)/\(k<=i->j=i+1):=by
  intro i
  by_cases h:i<k
  · exact ⟨i,by omega,by omega,by omega,by show (c.aq.eraseIdx k)[i]! =_;rw [Q5,if_pos h],fun _=>rfl,by omega⟩
  exact ⟨i+1,by omega,by omega,by omega,by show (c.aq.eraseIdx k)[i]! =_;rw [Q5,if_neg h],by omega,fun _=>rfl⟩
 refine ⟨by omega,ok.n0,ok.n1,?_,?_,?_,?_⟩
 · intro i hi
   obtain ⟨j,j1,j2,j3,j4,j5,j6⟩:=cell i;rw [j4];exact ok.cv j (j3 (by omega))
 · intro i hi
   obtain ⟨j,j1,j2,j3,j4,j5,j6⟩:=cell i;rw [j4];exact ok.nr j (j3 (by omega))
 · intro i i' hij hi
   obtain ⟨j,j1,j2,j3,j4,j5,j6⟩:=cell i;obtain ⟨m,m1,m2,m3,m4,m5,m6⟩:=cell i';rw [j4,m4];exact ok.up j m (by omega) (m3 (by omega))
 intro i i' hij hi
 obtain ⟨j,j1,j2,j3,j4,j5,j6⟩:=cell i;obtain ⟨m,m1,m2,m3,m4,m5,m6⟩:=cell i';rw [j4,m4];exact ok.nd j m (by omega) (m3 (by omega))
theorem F6 {c:bM} (ok:fA c) {k:Nat} (hk:k<c.aq.length) {n:Int} (hn:(c.aq[k]!).1=n):AH c n=some (pW c k,(c.aq[k]!).2,0):=by
 have h1:=ok.len;unfold AH MA;obtain ⟨L,d1,d2⟩:=F3 c.aq k hk;rw [BN,if_pos ok,(G5 c.aq n (by omega) ok.up).1 k hk hn]
 simp only [aB,show ((0:Int) !=0)=false from rfl,cond_false,bq,aZ (show c.aq.length<=1048576 by omega),aV (show k<1000000000 by omega),d1,aE c.aq k hk,d2]
 rfl
theorem WK {l:List wO} {k:Nat} (hk:k<l.length) (hs: ∀i j,i<j->j<l.length->(l[i]!).1<(l[j]!).1) {n:Int} (hn:(l[k]!).1=n):l.filter (fun x=>x.1 !=n)=l.eraseIdx k:=by
 rw [zG];have e:l.filter (fun x=>x.1 !=n)=(l.take k++l[k]!::l.drop (k+1)).filter (fun x=>x.1 !=n):=congrArg _ (aGw hk)
 rw [e,dt,List.filter_cons_of_neg (by rw [hn];simp)]
 congr 1
 · rw [di]
   intro x hx;obtain ⟨i,h1,h2,rfl⟩:=cL.1 hx
   have:=hs i k h1 hk
   exact dM (by omega)
 rw [di]
 intro x hx;obtain ⟨i,h1,rfl⟩:=aU.1 hx;rw [c9] at h1;rw [uF]
 have:=hs k (k+1+i) (by omega) (by omega)
 exact dM (by omega)
theorem ML {c:bM} (ok:fA c) {k:Nat} (hk:k<c.aq.length) {n:Int} (hn:(c.aq[k]!).1=n):vC c n=some (pW c k):=by
 have h1:=ok.len;unfold vC;have key:=dX (body:=mI) (fun i=>(n,(i:Int),c.ao,c.aq,0,c.ao,(c.aq.take i).filter (fun x=>x.1 !=n))) c.aq.length (fun i hi=>by
  have e1:decide ((i:Int)<(c.aq.length:Int))=true:=aK (by omega)
  have nx:(c.aq.take (i+1)).filter (fun x=>x.1 !=n)=(c.aq.take i).filter (fun x=>x.1 !=n)++(if (c.aq[i]!).1 !=n then [c.aq[i]!] else []):=by
   rw [iR hi,dt,List.filter_cons,List.filter_nil]
  have fl:((c.aq.take i).filter (fun x=>x.1 !=n)).length<=200:=ei (List.length_filter_le _ _) (by rw [bz];omega)
  unfold mI;simp only [aF,e1,cond_true,aE c.aq i hi,aB,aV (show i<1000000000 by omega),nx]
  by_cases h:(c.aq[i]!).1=n
  · rw [bP h];simp
  rw [dM h]
  simp only [cond_true,if_true,eU (show ((c.aq.take i).filter (fun x=>x.1 !=n)).length+[c.aq[i]!].length<=1048576 by simp only [dy,d6];omega),aB])
 have fin:mI (n,(c.aq.length:Int),c.ao,c.aq,0,c.ao,(c.aq.take c.aq.length).filter (fun x=>x.1 !=n))=some (.done (pW c k)):=by
  unfold mI
  have:decide ((c.aq.length:Int)<(c.aq.length:Int))=false:=dec_f (by omega)
  simp only [aF,this,cond_false,List.take_length];rw [WK hk ok.up hn];rfl
 refine Eq.trans ?_ (aL fin);exact key
def pF (l:List Pt) (id:Int):Prop:= ∃k,k<l.length/\(l[k]!).1=id
noncomputable def fU (l:List Pt) (id:Int):Pt:=if h:pF l id then l[h.choose]! else (-1,0,0)
theorem xZ {l:List Pt} (hs:fY l) {k:Nat} (hk:k<l.length) {id:Int} (h:(l[k]!).1=id):fU l id=l[k]!:=by
 have hp:pF l id:=⟨k,hk,h⟩;unfold fU;rw [dif_pos hp]
 have:=hp.choose_spec
 rw [qZ hs this.1 hk (by rw [this.2,h])]
theorem dG {l:List Pt} (ok:bZ l) {id:Int} (h:pF l id):gJ (fU l id)/\(fU l id).1=id:=by
 obtain ⟨k,hk,he⟩:=h;rw [xZ ok.2.2 hk he];exact ⟨ok.2.1 _ (bE hk),he⟩
theorem MM {l:List Pt} {id:Int} (h: ¬pF l id):fU l id=(-1,0,0):=by unfold fU;rw [dif_neg h]
theorem pG {l:List Pt} (ok:bZ l) (id:Int):lD ⟨l⟩ id=some (fU l id):=by
 have h1:=ok.1;have bs:=G5 l id (by omega) (fun i j=>pU ok.2.2)
 unfold lD;dsimp only;rw [aGM]
 by_cases h:pF l id
 · obtain ⟨k,hk,he⟩:=h
   rw [bs.1 k hk he];simp only [aB,bq,cond_false,aE l k hk,xZ ok.2.2 hk he]
 obtain ⟨m,m1,m2,m3,e⟩:=bs.2 (fun k hk he=>h ⟨k,hk,he⟩)
 rw [e,MM h];rfl
theorem D1 {l:List Pt} (ok:bZ l) {id:Int} (h:pF l id): ∃k,k<l.length/\iN ⟨l⟩ id=some (k:Int)/\l[k]! =fU l id:=by
 have h1:=ok.1;obtain ⟨k,hk,he⟩:=h;exact ⟨k,hk,aEl ok.2.2 (by omega) hk he,(xZ ok.2.2 hk he).symm⟩
theorem aBI {l:List Pt} (ok:bZ l) {id:Int} (h: ¬pF l id):iN ⟨l⟩ id=some (-1):=by
 have h1:=ok.1;exact aOu (by omega) fun k hk he=>h ⟨k,hk,he⟩
def kE (l:List Pt) (x:Int×Int):Prop:=pF l x.1/\pF l x.2
noncomputable def bL (l:List Pt) (x t:Int×Int):(Int×Int)×Bool:=lS (fU l x.2) (fU l x.1) t
theorem BO {l:List Pt} (ok:bZ l) {x t:Int×Int} (hx:gF x) (ht:bK t) (h64:nD t):
 uB ⟨l⟩ x t=some (if kE l x then ((bL l x t).1,(bL l x t).2,0) else ((0,0),false,8)):=by
 unfold uB;rw [pG ok,pG ok];simp only [aB,NT h64];have bad: ¬gJ (-1,0,0):=by unfold gJ;dsimp only;omega
 by_cases h1:pF l x.1
 · by_cases h2:pF l x.2
   · obtain ⟨p1,p2⟩:=dG ok h1
     obtain ⟨q1,q2⟩:=dG ok h2;rw [if_pos ⟨q1,p1,ht,by rw [p2,q2];exact fun h=>hx.2.2.2.2 h.symm⟩,if_pos ⟨h1,h2⟩]
     rfl
   rw [MM h2,if_neg (fun h=>bad h.1),if_neg (fun h=>bad h.1),if_neg (fun h=>h2 h.2)]
 rw [MM h1,if_neg (fun h=>bad h.2.1),if_neg (fun h=>bad h.2.1),if_neg (fun h=>h1 h.1)]
theorem BP {l:List Pt} (ok:bZ l) {x t:Int×Int} (h64:nD t) (hb:kE l x):uE ⟨l⟩ x t=some (bL l x t):=by
 obtain ⟨h1,h2⟩:=hb;obtain ⟨j,j1,j2,j3⟩:=D1 ok h1;obtain ⟨k,k1,k2,k3⟩:=D1 ok h2;unfold uE;simp only [j2,k2,aB,aE l j j1,aE l k k1,j3,k3,aBz (dG ok h2).1 (dG ok h1).1 h64];rfl
theorem aGN (c:bM) {l:List Pt} (ok:bZ l) (hl:c.aq.length<=200):AR c ⟨l⟩=some (decide (∀i,i<c.aq.length->kE l (c.aq[i]!).2)):=by
 unfold AR;have key:=dT (body:=sQ) (fun i=>((i:Int),c.ao,c.aq,l)) c.aq.length (fun i=> ¬kE l (c.aq[i]!).2) (r:=false) (e:=true) (fun i hi=>by
  have e1:decide ((i:Int)<(c.aq.length:Int))=true:=aK (by omega)
  unfold sQ kE;simp only [aF,e1,cond_true,aE c.aq i hi,aB,aV (show i<1000000000 by omega)]
  by_cases h1:pF l (c.aq[i]!).2.1
  · obtain ⟨k,k1,k2,_⟩:=D1 ok h1
    rw [k2];simp only [aB,dec_f (show¬(k:Int)<0 by omega),cond_false]
    by_cases h2:pF l (c.aq[i]!).2.2
    · obtain ⟨j,j1,j2,_⟩:=D1 ok h2
      rw [j2];simp only [aB,dec_f (show¬(j:Int)<0 by omega),cond_false]
      exact ⟨fun h=>absurd ⟨h1,h2⟩ h,fun _=>trivial⟩
    rw [aBI ok h2]
    exact ⟨fun _=>rfl,fun h=>absurd (bn.1 h).2 h2⟩
  · rw [aBI ok h1]
    exact ⟨fun _=>rfl,fun h=>absurd (bn.1 h).1 h1⟩) (by
  unfold sQ
  have:decide ((c.aq.length:Int)<(c.aq.length:Int))=false:=dec_f (by omega)
  simp only [aF,this,cond_false])
 by_cases hx: ∀i,i<c.aq.length->kE l (c.aq[i]!).2
 · rw [aK hx];exact key.2 fun i hi=>bn.2 (hx i hi)
 rw [dec_f hx]
 obtain ⟨i,h⟩:=bw.1 hx;obtain ⟨hi,hx⟩:=cb.1 h;exact key.1 ⟨i,hi,hx⟩
def aX (l:List Pt) (t:Int×Int) (H:List Ev):List wO->List wO->Prop
 | [],ds=>ds=[]
 |x::cs,ds=>((bL l x.2 t).2=true-> ∃d ds',ds=d::ds'/\d.1=x.1/\((bL l x.2 t).1.1,(bL l x.2 t).1.2,x.1,d.2)∈H/\aX l t H cs ds')/\((bL l x.2 t).2=false->aX l t H cs ds)
structure aR (c:aO):Prop where
 nowv:bK c.ar
 now64:nD c.ar
 fld:bZ c.au.aa
 crt:fA c.ax
 agd:fQ c.ay
 w200:c.ay.am.length=200
 hd:c.ay.aj.length=c.az.length
 known: ∀i,i<c.ax.aq.length->kE c.au.aa (c.ax.aq[i]!).2
 fol:aX c.au.aa c.ar c.ay.aj c.ax.aq c.az
structure wQ (c:aO):Prop where
 now64:nD c.ar
 ag:F0 c.ay
 du:c.az.length<=1000000
theorem aPn {a:aP} (ok:fQ a) (w2:a.am.length=200) (t:Int×Int) (n:Int) (h:Int×Int):
 (0<=h.1/\h.1<200/\0<=a.am[h.1.toNat]!/\a.aj[(a.am[h.1.toNat]!).toNat]! =(t.1,t.2,n,h))↔((t.1,t.2,n,h):Ev)∈a.aj:=by
 have wl:=ok.wl;have hu:=ok.so.ul;constructor
 · rintro ⟨h1,h2,h3,h4⟩
   cases hb:a.ai.ae[h.1.toNat]! with
   |false=>
    have:=ok.un h.1.toNat (by omega) hb
    omega
   |true=>
    have:=ok.fwd h.1.toNat (by omega) hb
    rw [<- h4];exact bE (by omega)
 intro hm
 obtain ⟨w,hw,he⟩:=aU.1 hm;obtain ⟨b1,b2,b3,b4,b5⟩:=ok.back hw;have e:Ev.ix a.aj[w]! =h.1:=by rw [he]
 have e2:Ev.n a.aj[w]! =h.1.toNat:=by rw [he]
 rw [e] at b1 b2;rw [e2] at b5;refine ⟨b1,by omega,by omega,?_⟩
 rw [b5,bu,he]
theorem aGO {a:aP} (ok:fQ a) {i:Nat} (hi:i<a.ai.ac.length) (h:0<=a.am[i]!):a.am[i]!<a.aj.length:=by
 cases hb:a.ai.ae[i]! with
 |false=>have:=ok.un i hi hb;omega
 |true=>exact (ok.fwd i hi hb).2.1
theorem uL {α:Type} [Inhabited α] {l:List α} {i:Nat} (h:i<l.length):l.drop i=l[i]!::l.drop (i+1):=by
 rw [getElem!_pos l i h];exact List.drop_eq_getElem_cons h
theorem Z9 {c:aO} (nowv:bK c.ar) (now64:nD c.ar) (fld:bZ c.au.aa) (crt:fA c.ax) (agd:fQ c.ay) (w2:c.ay.am.length=200):
 ∀(d i:Nat) (ds:List wO),c.ax.aq.length-i<=d->i<=c.ax.aq.length->ds.length<=1000000->
  aH dE (ds,c.ax.aq,(c.ax.aq.length:Int),(i:Int),c.ar.1,c.ar.2,c.au.aa,c.ax.ao,c.ax.aq,c.ay.ai.ac,c.ay.ai.ae,c.ay.ai.af,c.ay.aj,c.ay.am,c.az)=
   some (.done (if (∀j,i<=j->j<c.ax.aq.length->kE c.au.aa (c.ax.aq[j]!).2)/\aX c.au.aa c.ar c.ay.aj (c.ax.aq.drop i) ds then 0 else 8)):=by
 have hl:=crt.len;have wl:=agd.wl;have fin: ∀(ds:List wO),aH dE (ds,c.ax.aq,(c.ax.aq.length:Int),(c.ax.aq.length:Int),c.ar.1,c.ar.2,c.au.aa,c.ax.ao,c.ax.aq,c.ay.ai.ac,c.ay.ai.ae,c.ay.ai.af,c.ay.aj,c.ay.am,c.az)=some (.done (if ds=[] then 0 else 8)):=by
  intro ds;refine aL ?_;unfold dE;have e1:decide ((c.ax.aq.length:Int)<(c.ax.aq.length:Int))=false:=dec_f (by omega)
  simp only [aF,e1,cond_false];cases ds with
  |nil=>rw [dec_f (by simp),if_pos rfl];rfl
  |cons d ds=>rw [aK (by simp),if_neg (by simp)];rfl
 intro d
 induction d with
 |zero=>
  intro i ds hd hi hds
  have:i=c.ax.aq.length:=by omega
  subst this;rw [fin ds,cw]
  have:((∀j,c.ax.aq.length<=j->j<c.ax.aq.length->kE c.au.aa (c.ax.aq[j]!).2)/\aX c.au.aa c.ar c.ay.aj [] ds)↔ds=[]:=⟨fun h=>h.2,fun h=>⟨fun j h1 h2=>by omega,h⟩⟩
  by_cases h:ds=[]
  · rw [if_pos h,if_pos (this.2 h)]
  rw [if_neg h,if_neg (fun k=>h (this.1 k))]
 |succ d ih=>
  intro i ds hd hi hds
  by_cases he:i=c.ax.aq.length
  · subst he
    rw [fin ds,cw]
    have:((∀j,c.ax.aq.length<=j->j<c.ax.aq.length->kE c.au.aa (c.ax.aq[j]!).2)/\aX c.au.aa c.ar c.ay.aj [] ds)↔ds=[]:=⟨fun h=>h.2,fun h=>⟨fun j h1 h2=>by omega,h⟩⟩
    by_cases h:ds=[]
    · rw [if_pos h,if_pos (this.2 h)]
    rw [if_neg h,if_neg (fun k=>h (this.1 k))]
  have hi':i<c.ax.aq.length:=by omega
  have e1:decide ((i:Int)<(c.ax.aq.length:Int))=true:=aK (by omega)
  have hw:=BO fld (x:=(c.ax.aq[i]!).2) (t:=(c.ar.1,c.ar.2)) (crt.cv i hi') nowv now64;have dr:=uL hi';have all:(∀j,i<=j->j<c.ax.aq.length->kE c.au.aa (c.ax.aq[j]!).2)↔(kE c.au.aa (c.ax.aq[i]!).2/\ ∀j,i+1<=j->j<c.ax.aq.length->kE c.au.aa (c.ax.aq[j]!).2):=by
   constructor
   · intro h;exact ⟨h i (bv _) hi',fun j h1 h2=>h j (by omega) h2⟩
   rintro ⟨h1,h2⟩ j h3 h4
   by_cases e:j=i
   · rw [e];exact h1
   exact h2 j (by omega) h4
  have sc:=aV (show i<1000000000 by omega)
  by_cases hb:kE c.au.aa (c.ax.aq[i]!).2
  case neg=>
   rw [if_neg (fun h=>hb (all.1 h.1).1)]
   refine aL ?_;unfold dE;simp only [e1,cond_true,aE c.ax.aq i hi',aB,hw,if_neg hb];rfl
  rw [if_pos hb] at hw
  by_cases is:(bL c.au.aa (c.ax.aq[i]!).2 c.ar).2=true
  case neg=>
   have is':(bL c.au.aa (c.ax.aq[i]!).2 c.ar).2=false:=by simpa using is
   rw [aW (y:=(ds,c.ax.aq,(c.ax.aq.length:Int),((i+1:Nat):Int),c.ar.1,c.ar.2,c.au.aa,c.ax.ao,c.ax.aq,c.ay.ai.ac,c.ay.ai.ae,c.ay.ai.af,c.ay.aj,c.ay.am,c.az)) (by
    unfold dE;simp only [e1,cond_true,aE c.ax.aq i hi',aB,hw,sc,is',show ((0:Int) !=0)=false from rfl,cond_false,cm]),ih (i+1) ds (by omega) (by omega) hds]
   have same:((∀j,i<=j->j<c.ax.aq.length->kE c.au.aa (c.ax.aq[j]!).2)/\aX c.au.aa c.ar c.ay.aj (c.ax.aq.drop i) ds)↔((∀j,i+1<=j->j<c.ax.aq.length->kE c.au.aa (c.ax.aq[j]!).2)/\aX c.au.aa c.ar c.ay.aj (c.ax.aq.drop (i+1)) ds):=by
    rw [dr,all];constructor
    · rintro ⟨⟨_,h1⟩,h2⟩;exact ⟨h1,h2.2 is'⟩
    rintro ⟨h1,h2⟩;exact ⟨⟨hb,h1⟩,fun h=>absurd h is,fun _=>h2⟩
   simp only [same]
  have stop:(¬((∀j,i<=j->j<c.ax.aq.length->kE c.au.aa (c.ax.aq[j]!).2)/\aX c.au.aa c.ar c.ay.aj (c.ax.aq.drop i) ds))->dE (ds,c.ax.aq,(c.ax.aq.length:Int),(i:Int),c.ar.1,c.ar.2,c.au.aa,c.ax.ao,c.ax.aq,c.ay.ai.ac,c.ay.ai.ae,c.ay.ai.af,c.ay.aj,c.ay.am,c.az)=some (.done (.done 8))->aH dE (ds,c.ax.aq,(c.ax.aq.length:Int),(i:Int),c.ar.1,c.ar.2,c.au.aa,c.ax.ao,c.ax.aq,c.ay.ai.ac,c.ay.ai.ae,c.ay.ai.af,c.ay.aj,c.ay.am,c.az)=
   some (.done (if (∀j,i<=j->j<c.ax.aq.length->kE c.au.aa (c.ax.aq[j]!).2)/\aX c.au.aa c.ar c.ay.aj (c.ax.aq.drop i) ds then 0 else 8)):=by
   intro h1 h2;rw [if_neg h1];exact aL h2
  cases ds with
  |nil=>
   refine stop (fun h=>?_) ?_
   · rw [dr] at h
     obtain ⟨d,ds',h1,_⟩:=h.2.1 is;cases h1
   unfold dE
   simp only [e1,cond_true,aE c.ax.aq i hi',aB,hw,is,show ((0:Int) !=0)=false from rfl,cond_false,bq];rfl
  |cons d0 ds=>
   have l0:((((d0::ds).length:Nat):Int)==0)=false:=eT (by simp;omega)
   have g0:aN (d0::ds) 0=some d0:=rfl
   have fol: ∀P:Prop,(P↔d0.1=(c.ax.aq[i]!).1/\(((bL c.au.aa (c.ax.aq[i]!).2 c.ar).1.1,(bL c.au.aa (c.ax.aq[i]!).2 c.ar).1.2,(c.ax.aq[i]!).1,d0.2):Ev)∈c.ay.aj)-> ¬P-> ¬((∀j,i<=j->j<c.ax.aq.length->kE c.au.aa (c.ax.aq[j]!).2)/\aX c.au.aa c.ar c.ay.aj (c.ax.aq.drop i) (d0::ds)):=by
    intro P hP hn h;rw [dr] at h;obtain ⟨d,ds',h1,h2,h3,_⟩:=h.2.1 is;injection h1 with h1 _;subst h1;exact hn (hP.2 ⟨h2,h3⟩)
   by_cases b1:d0.1=(c.ax.aq[i]!).1
   case neg=>
    refine stop (fol (d0.1=(c.ax.aq[i]!).1/\_) db (fun h=>b1 h.1)) ?_
    unfold dE;simp only [aF,e1,cond_true,aE c.ax.aq i hi',aB,hw,is,show ((0:Int) !=0)=false from rfl,cond_false,bq,l0,g0,dM b1]
   have ea:=aPn agd w2 (bL c.au.aa (c.ax.aq[i]!).2 c.ar).1 (c.ax.aq[i]!).1 d0.2
   by_cases b2:d0.2.1<0
   · refine stop (fol (d0.1=(c.ax.aq[i]!).1/\_) db (fun h=>by have:=(ea.2 h.2).1;omega)) ?_
     unfold dE;simp only [aF,e1,cond_true,aE c.ax.aq i hi',aB,hw,is,show ((0:Int) !=0)=false from rfl,cond_false,bq,l0,g0,bP b1,aK b2]
   by_cases b3:200<=d0.2.1
   · refine stop (fol (d0.1=(c.ax.aq[i]!).1/\_) db (fun h=>by have:=(ea.2 h.2).2.1;omega)) ?_
     unfold dE;simp only [aF,e1,cond_true,aE c.ax.aq i hi',aB,hw,is,show ((0:Int) !=0)=false from rfl,cond_false,bq,l0,g0,bP b1,dec_f b2,aK b3]
   have gw:=eK (l:=c.ay.am) (i:=d0.2.1) (by omega) (by omega)
   by_cases b4:c.ay.am[d0.2.1.toNat]!<0
   · refine stop (fol (d0.1=(c.ax.aq[i]!).1/\_) db (fun h=>by have:=(ea.2 h.2).2.2.1;omega)) ?_
     unfold dE;simp only [aF,e1,cond_true,aE c.ax.aq i hi',aB,hw,is,show ((0:Int) !=0)=false from rfl,cond_false,bq,l0,g0,bP b1,dec_f b2,dec_f b3,gw,aK b4]
   have gh:=eK (l:=c.ay.aj) (i:=c.ay.am[d0.2.1.toNat]!) (by omega) (aGO agd (by omega) (by omega))
   have sl:jS (d0::ds) 1 ((((d0::ds).length:Nat):Int))=some ds:=by
    unfold jS;rw [if_pos ⟨by omega,by simp;omega,by omega⟩]
    simp
   have evq: ∀(e:Ev) (p:Int×Int) (n:Int) (h:Int×Int),((e.1==p.1)&&((e.2.1==p.2)&&((e.2.2.1==n)&&((e.2.2.2.1==h.1)&&(e.2.2.2.2==h.2)))))=decide (e=(p.1,p.2,n,h)):=by
    intro e p n h;rw [de,decide_eq_true_iff];simp only [d5,beq_iff_eq];constructor
    · rintro ⟨h1,h2,h3,h4,h5⟩
      exact ci h1 (ci h2 (ci h3 (ci h4 h5)))
    intro h;rw [h];exact ⟨rfl,rfl,rfl,rfl,rfl⟩
   have evq':=evq c.ay.aj[(c.ay.am[d0.2.1.toNat]!).toNat]! (bL c.au.aa (c.ax.aq[i]!).2 c.ar).1 (c.ax.aq[i]!).1 d0.2
   by_cases b5:c.ay.aj[(c.ay.am[d0.2.1.toNat]!).toNat]! =((bL c.au.aa (c.ax.aq[i]!).2 c.ar).1.1,(bL c.au.aa (c.ax.aq[i]!).2 c.ar).1.2,(c.ax.aq[i]!).1,d0.2)
   case neg=>
    refine stop (fol (d0.1=(c.ax.aq[i]!).1/\_) db (fun h=>b5 (ea.2 h.2).2.2.2)) ?_
    unfold dE;simp only [aF,e1,cond_true,aE c.ax.aq i hi',aB,hw,is,show ((0:Int) !=0)=false from rfl,cond_false,bq,l0,g0,bP b1,dec_f b2,dec_f b3,gw,dec_f b4,gh];rw [evq',dec_f b5];rfl
   have hmem:=ea.1 ⟨by omega,by omega,by omega,b5⟩
   rw [aW (y:=(ds,c.ax.aq,(c.ax.aq.length:Int),((i+1:Nat):Int),c.ar.1,c.ar.2,c.au.aa,c.ax.ao,c.ax.aq,c.ay.ai.ac,c.ay.ai.ae,c.ay.ai.af,c.ay.aj,c.ay.am,c.az)) (by
    unfold dE;simp only [aF,e1,cond_true,aE c.ax.aq i hi',aB,hw,is,show ((0:Int) !=0)=false from rfl,cond_false,bq,l0,g0,bP b1,dec_f b2,dec_f b3,gw,dec_f b4,gh,sl,sc];rw [evq',aK b5]
    rfl),ih (i+1) ds (by omega) (by omega) (by simp at hds;omega)]
   have same:((∀j,i<=j->j<c.ax.aq.length->kE c.au.aa (c.ax.aq[j]!).2)/\aX c.au.aa c.ar c.ay.aj (c.ax.aq.drop i) (d0::ds))↔((∀j,i+1<=j->j<c.ax.aq.length->kE c.au.aa (c.ax.aq[j]!).2)/\aX c.au.aa c.ar c.ay.aj (c.ax.aq.drop (i+1)) ds):=by
    rw [dr,all];constructor
    · rintro ⟨⟨_,h1⟩,h2⟩
      obtain ⟨d,ds',k1,k2,k3,k4⟩:=h2.1 is;injection k1 with k1 k5;subst k5;exact ⟨h1,k4⟩
    rintro ⟨h1,h2⟩
    exact ⟨⟨hb,h1⟩,fun _=>⟨d0,ds,rfl,b1,hmem,h2⟩,fun h=>by rw [is] at h;cases h⟩
   simp only [same]
theorem aR.iff {c:aO} (fit:wQ c):aR c↔bK c.ar/\bZ c.au.aa/\fA c.ax/\fQ c.ay/\c.ay.am.length=200/\c.ay.aj.length=c.az.length/\(∀i,i<c.ax.aq.length->kE c.au.aa (c.ax.aq[i]!).2)/\aX c.au.aa c.ar c.ay.aj c.ax.aq c.az:=
 ⟨fun h=>⟨h.nowv,h.fld,h.crt,h.agd,h.w200,h.hd,h.known,h.fol⟩,fun ⟨h1,h2,h3,h4,h5,h6,h7,h8⟩=>⟨h1,fit.now64,h2,h3,h4,h5,h6,h7,h8⟩⟩
theorem aR.fit {c:aO} (ok:aR c):wQ c:=⟨ok.now64,ok.agd.fit,by have:=ok.hd;have:=ok.agd.bd;omega⟩
theorem aAa {c:aO} {n0 n1 n2 n3:Int}:
 aH fW (4,0,c.ar.1,c.ar.2,c.au.aa,c.ax.ao,c.ax.aq,c.ay.ai.ac,c.ay.ai.ae,c.ay.ai.af,c.ay.aj,c.ay.am,c.az,[n0,n1,n2,n3])=
  if n0=0/\n1=0/\n2=0/\n3=0 then aH fW (4,4,c.ar.1,c.ar.2,c.au.aa,c.ax.ao,c.ax.aq,c.ay.ai.ac,c.ay.ai.ae,c.ay.ai.af,c.ay.aj,c.ay.am,c.az,[n0,n1,n2,n3]) else some 8:=by
 have st: ∀(i:Nat) (n:Int),i<4->aN [n0,n1,n2,n3] (i:Int)=some n->aH fW (4,(i:Int),c.ar.1,c.ar.2,c.au.aa,c.ax.ao,c.ax.aq,c.ay.ai.ac,c.ay.ai.ae,c.ay.ai.af,c.ay.aj,c.ay.am,c.az,[n0,n1,n2,n3])=
  if n=0 then aH fW (4,((i+1:Nat):Int),c.ar.1,c.ar.2,c.au.aa,c.ax.ao,c.ax.aq,c.ay.ai.ac,c.ay.ai.ae,c.ay.ai.af,c.ay.aj,c.ay.am,c.az,[n0,n1,n2,n3]) else some 8:=by
  intro i n hi hg;have e1:decide ((i:Int)<4)=true:=aK (by omega)
  by_cases h:n=0
  · rw [if_pos h]
    refine aW ?_;unfold fW;simp only [e1,cond_true,hg,aB,bP h,cond_false,aV (show i<1000000000 by omega)]
  rw [if_neg h]
  refine aL ?_;unfold fW;simp only [e1,cond_true,hg,aB,dM h]
 have s0:=st 0 n0 (by omega) rfl
 have s1:=st 1 n1 (by omega) rfl
 have s2:=st 2 n2 (by omega) rfl
 have s3:=st 3 n3 (by omega) rfl
 have c0:((0:Nat):Int)=0:=rfl;have c4:((3+1:Nat):Int)=4:=rfl;rw [c0] at s0;rw [c4] at s3;rw [s0]
 by_cases h0:n0=0
 · rw [if_pos h0,show ((0+1:Nat):Int)=((1:Nat):Int) from rfl,s1]
   by_cases h1:n1=0
   · rw [if_pos h1,show ((1+1:Nat):Int)=((2:Nat):Int) from rfl,s2]
     by_cases h2:n2=0
     · rw [if_pos h2,show ((2+1:Nat):Int)=((3:Nat):Int) from rfl,s3]
       by_cases h3:n3=0
       · rw [if_pos h3,if_pos ⟨h0,h1,h2,h3⟩]
       rw [if_neg h3,if_neg (fun h=>h3 h.2.2.2)]
     rw [if_neg h2,if_neg (fun h=>h2 h.2.2.1)]
   rw [if_neg h1,if_neg (fun h=>h1 h.2.1)]
 rw [if_neg h0,if_neg (fun h=>h0 h.1)]
theorem mR {c:aO} (fit:wQ c):gZ c=some (if aR c then 0 else 8):=by
 unfold gZ;rw [dF fit.now64,mP,BN,kW _ fit.ag];simp only [aB];have h4:Int.ofNat [if bK c.ar then (0:Int) else 8,wN c.au.aa,if fA c.ax then (0:Int) else 8,if fQ c.ay then (0:Int) else 8].length=4:=rfl
 rw [h4,aAa];have z: ∀(p:Prop) [Decidable p],(if p then (0:Int) else 8)=0↔p:=fun p _=>by by_cases h:p<;>simp [h]
 simp only [z,lH];have f1:=aR.iff fit
 by_cases ok:bK c.ar/\bZ c.au.aa/\fA c.ax/\fQ c.ay
 case neg=>rw [if_neg ok,if_neg (c:=aR c) (fun h=>ok ⟨h.nowv,h.fld,h.crt,h.agd⟩)]
 obtain ⟨nowv,fld,crt,agd⟩:=ok;rw [if_pos ⟨nowv,fld,crt,agd⟩]
 by_cases w2:c.ay.am.length=200
 case neg=>
  rw [if_neg (c:=aR c) (fun h=>w2 h.w200)]
  refine aL ?_;unfold fW;simp only [aF,dec_f (show¬(4:Int)<4 by omega),cond_false,dM (show¬(c.ay.am.length:Int)=200 by omega),cond_true]
 by_cases hd:c.ay.aj.length=c.az.length
 case neg=>
  rw [if_neg (c:=aR c) (fun h=>hd h.hd)]
  refine aL ?_;unfold fW;simp only [aF,dec_f (show¬(4:Int)<4 by omega),cond_false,bP (show (c.ay.am.length:Int)=200 by omega),dM (show¬(c.ay.aj.length:Int)=(c.az.length:Int) by omega),cond_true]
 have run:=Z9 nowv fit.now64 fld crt agd w2 c.ax.aq.length 0 c.az (by omega) (by omega) fit.du
 rw [dh] at run;have same:((∀j,0<=j->j<c.ax.aq.length->kE c.au.aa (c.ax.aq[j]!).2)/\aX c.au.aa c.ar c.ay.aj c.ax.aq c.az)↔aR c:=by
  rw [f1];constructor
  · rintro ⟨h1,h2⟩;exact ⟨nowv,fld,crt,agd,w2,hd,fun i hi=>h1 i (by omega) hi,h2⟩
  rintro ⟨_,_,_,_,_,_,h1,h2⟩;exact ⟨fun j _ hj=>h1 j hj,h2⟩
 simp only [same] at run;refine aL ?_;unfold fW;simp only [aF,dec_f (show¬(4:Int)<4 by omega),cond_false,bP (show (c.ay.am.length:Int)=200 by omega),bP (show (c.ay.aj.length:Int)=(c.az.length:Int) by omega)]
 exact run
theorem aOx {a:aP} (ok:fQ a) (h:Int×Int):zD a h=some (if AZ a.ai h then (a.aj[(a.am[h.1.toNat]!).toNat]!,0) else ((0,0,0,0,0),6)):=by
 unfold zD;rw [F1 a ok.fit,if_pos ok,aDe ok.so];simp only [aB,show ((0:Int) !=0)=false from rfl,cond_false]
 by_cases lv:AZ a.ai h
 · obtain ⟨i,hi,hw,hh⟩:=ok.live lv
   have:=lv.1;have:=lv.2.1;have:=ok.wl
   rw [aK lv,if_pos lv,eK (l:=a.am) lv.1 (by omega),hw]
   simp only [bq,cond_false,aB,aE a.aj i hi,bu]
 rw [dec_f lv,if_neg lv];rfl
theorem aAb {c:aO} (now64:nD c.ar) (fld:bZ c.au.aa) (crt:fA c.ax) (agd:fQ c.ay) (w2:c.ay.am.length=200) (hdu:c.az.length<=1000000)
 (kn: ∀i,i<c.ax.aq.length->kE c.au.aa (c.ax.aq[i]!).2):
 ∀(d i k:Nat),c.ax.aq.length-i<=d->i<=c.ax.aq.length->k<=c.az.length->
  aH eE ((k:Int),(i:Int),c.ar.1,c.ar.2,c.au.aa,c.ax.ao,c.ax.aq,c.ay.ai.ac,c.ay.ai.ae,c.ay.ai.af,c.ay.aj,c.ay.am,c.az)=
   some (if aX c.au.aa c.ar c.ay.aj (c.ax.aq.drop i) (c.az.drop k) then 0 else 8):=by
 have hl:=crt.len;have wl:=agd.wl
 have fin: ∀k:Nat,k<=c.az.length->aH eE ((k:Int),(c.ax.aq.length:Int),c.ar.1,c.ar.2,c.au.aa,c.ax.ao,c.ax.aq,c.ay.ai.ac,c.ay.ai.ae,c.ay.ai.af,c.ay.aj,c.ay.am,c.az)=some (if aX c.au.aa c.ar c.ay.aj (c.ax.aq.drop c.ax.aq.length) (c.az.drop k) then 0 else 8):=by
  intro k hk;rw [cw];refine aL ?_;unfold eE;have e1:decide ((c.ax.aq.length:Int)<(c.ax.aq.length:Int))=false:=dec_f (by omega)
  simp only [aF,e1,cond_false]
  have:aX c.au.aa c.ar c.ay.aj [] (c.az.drop k)↔k=c.az.length:=by
   show c.az.drop k=[]↔_;rw [cy];omega
  by_cases h:k=c.az.length
  · rw [if_pos (this.2 h),bP (by omega)];rfl
  rw [if_neg (fun x=>h (this.1 x)),dM (by omega)];rfl
 intro d
 induction d with
 |zero=>
  intro i k hd hi hk
  have:i=c.ax.aq.length:=by omega
  subst this;exact fin k hk
 |succ d ih=>
  intro i k hd hi hk
  by_cases he:i=c.ax.aq.length
  · subst he;exact fin k hk
  have hi':i<c.ax.aq.length:=by omega
  have e1:decide ((i:Int)<(c.ax.aq.length:Int))=true:=aK (by omega)
  have hw:=BP fld (x:=(c.ax.aq[i]!).2) (t:=(c.ar.1,c.ar.2)) now64 (kn i hi');have dr:=uL hi';have sc:=aV (show i<1000000000 by omega)
  have sk:=aV (show k<1000000000 by omega)
  by_cases is:(bL c.au.aa (c.ax.aq[i]!).2 c.ar).2=true
  case neg=>
   have is':(bL c.au.aa (c.ax.aq[i]!).2 c.ar).2=false:=by simpa using is
   rw [aW (y:=((k:Int),((i+1:Nat):Int),c.ar.1,c.ar.2,c.au.aa,c.ax.ao,c.ax.aq,c.ay.ai.ac,c.ay.ai.ae,c.ay.ai.af,c.ay.aj,c.ay.am,c.az)) (by
    unfold eE;simp only [aF,e1,cond_true,aE c.ax.aq i hi',aB,hw,sc,is',cm]),ih (i+1) k (by omega) (by omega) hk]
   have same:aX c.au.aa c.ar c.ay.aj (c.ax.aq.drop i) (c.az.drop k)↔aX c.au.aa c.ar c.ay.aj (c.ax.aq.drop (i+1)) (c.az.drop k):=by
    rw [dr];exact ⟨fun h=>h.2 is',fun h=>⟨fun h'=>absurd h' is,fun _=>h⟩⟩
   simp only [same]
  have stop:(¬aX c.au.aa c.ar c.ay.aj (c.ax.aq.drop i) (c.az.drop k))->eE ((k:Int),(i:Int),c.ar.1,c.ar.2,c.au.aa,c.ax.ao,c.ax.aq,c.ay.ai.ac,c.ay.ai.ae,c.ay.ai.af,c.ay.aj,c.ay.am,c.az)=some (.done 8)->
   aH eE ((k:Int),(i:Int),c.ar.1,c.ar.2,c.au.aa,c.ax.ao,c.ax.aq,c.ay.ai.ac,c.ay.ai.ae,c.ay.ai.af,c.ay.aj,c.ay.am,c.az)=some (if aX c.au.aa c.ar c.ay.aj (c.ax.aq.drop i) (c.az.drop k) then 0 else 8):=by
   intro h1 h2;rw [if_neg h1];exact aL h2
  by_cases hkl:k=c.az.length
  · refine stop (fun h=>?_) ?_
    · rw [dr] at h
      obtain ⟨d,ds',h1,_⟩:=h.1 is;rw [hkl,cw] at h1;cases h1
    unfold eE
    simp only [aF,e1,cond_true,aE c.ax.aq i hi',aB,hw,is,bq,cond_false,aK (show (c.az.length:Int)<=(k:Int) by omega)]
  have hk':k<c.az.length:=by omega
  have dk:=uL hk';have e2:decide ((c.az.length:Int)<=(k:Int))=false:=dec_f (by omega)
  have fol: ¬((c.az[k]!).1=(c.ax.aq[i]!).1/\(((bL c.au.aa (c.ax.aq[i]!).2 c.ar).1.1,(bL c.au.aa (c.ax.aq[i]!).2 c.ar).1.2,(c.ax.aq[i]!).1,(c.az[k]!).2):Ev)∈c.ay.aj)-> ¬aX c.au.aa c.ar c.ay.aj (c.ax.aq.drop i) (c.az.drop k):=by
   intro hn h;rw [dr,dk] at h;obtain ⟨d,ds',h1,h2,h3,_⟩:=h.1 is;injection h1 with h1 _;subst h1;exact hn ⟨h2,h3⟩
  by_cases b1:(c.az[k]!).1=(c.ax.aq[i]!).1
  case neg=>
   refine stop (fol (fun h=>b1 h.1)) ?_
   unfold eE;simp only [aF,e1,cond_true,aE c.ax.aq i hi',aB,hw,is,bq,cond_false,e2,aE c.az k hk',dM b1]
  have fi:=aOx agd (c.az[k]!).2;have ea:=aPn agd w2 (bL c.au.aa (c.ax.aq[i]!).2 c.ar).1 (c.ax.aq[i]!).1 (c.az[k]!).2;have fi':zD (aP.mk (bA.mk c.ay.ai.ac c.ay.ai.ae c.ay.ai.af) c.ay.aj c.ay.am) (c.az[k]!).2=_:=fi
  by_cases lv:AZ c.ay.ai (c.az[k]!).2
  case neg=>
   rw [if_neg lv] at fi';refine stop (fol (fun h=>lv ?_)) ?_
   · obtain ⟨w,hw',hev⟩:=aU.1 h.2
     have:=(agd.handle hw').1
     rwa [hev] at this
   unfold eE
   simp only [aF,e1,cond_true,aE c.ax.aq i hi',aB,hw,is,bq,cond_false,e2,aE c.az k hk',bP b1,fi',show ((6:Int) !=0)=true from rfl]
  rw [if_pos lv] at fi';obtain ⟨w,hw1,hw2,hw3⟩:=agd.live lv;rw [hw2,bu] at fi';have q1:(0<=(c.az[k]!).2.1/\(c.az[k]!).2.1<200/\0<=c.ay.am[(c.az[k]!).2.1.toNat]!):=⟨lv.1,by have:=lv.2.1;omega,by rw [hw2];omega⟩
  by_cases b2:(c.ay.aj[w]!).2.2.1=(c.ax.aq[i]!).1
  case neg=>
   refine stop (fol (fun h=>b2 ?_)) ?_
   · have:=(ea.2 h.2).2.2.2
     rw [hw2,bu] at this;rw [this]
   unfold eE
   simp only [aF,e1,cond_true,aE c.ax.aq i hi',aB,hw,is,bq,cond_false,e2,aE c.az k hk',bP b1,fi',show ((0:Int) !=0)=false from rfl,dM b2]
  have teq:((c.ay.aj[w]!).1==(bL c.au.aa (c.ax.aq[i]!).2 c.ar).1.1&&(c.ay.aj[w]!).2.1==(bL c.au.aa (c.ax.aq[i]!).2 c.ar).1.2)=decide (((c.ay.aj[w]!).1,(c.ay.aj[w]!).2.1)=(bL c.au.aa (c.ax.aq[i]!).2 c.ar).1):=by
   rw [de,decide_eq_true_iff];simp only [d5,beq_iff_eq];constructor
   · rintro ⟨h1,h2⟩;exact ci h1 h2
   intro h;rw [<- h];exact ⟨rfl,rfl⟩
  by_cases b3:((c.ay.aj[w]!).1,(c.ay.aj[w]!).2.1)=(bL c.au.aa (c.ax.aq[i]!).2 c.ar).1
  case neg=>
   refine stop (fol (fun h=>b3 ?_)) ?_
   · have:=(ea.2 h.2).2.2.2
     rw [hw2,bu] at this;rw [this]
   unfold eE
   simp only [aF,e1,cond_true,aE c.ax.aq i hi',aB,hw,is,bq,cond_false,e2,aE c.az k hk',bP b1,fi',show ((0:Int) !=0)=false from rfl,bP b2];rw [teq,dec_f b3];rfl
  have hmem:=ea.1 ⟨q1.1,q1.2.1,q1.2.2,by
   rw [hw2,bu];have t1:=congrArg ed b3;have t2:=congrArg ef b3;exact ci t1 (ci t2 (ci b2 hw3))⟩
  rw [aW (y:=(((k+1:Nat):Int),((i+1:Nat):Int),c.ar.1,c.ar.2,c.au.aa,c.ax.ao,c.ax.aq,c.ay.ai.ac,c.ay.ai.ae,c.ay.ai.af,c.ay.aj,c.ay.am,c.az)) (by
   unfold eE;simp only [aF,e1,cond_true,aE c.ax.aq i hi',aB,hw,is,bq,cond_false,e2,aE c.az k hk',bP b1,fi',show ((0:Int) !=0)=false from rfl,bP b2,sc,sk];rw [teq,aK b3]
   rfl),ih (i+1) (k+1) (by omega) (by omega) (by omega)]
  have same:aX c.au.aa c.ar c.ay.aj (c.ax.aq.drop i) (c.az.drop k)↔aX c.au.aa c.ar c.ay.aj (c.ax.aq.drop (i+1)) (c.az.drop (k+1)):=by
   rw [dr,dk];constructor
   · intro h2
     obtain ⟨d,ds',k1,k2,k3,k4⟩:=h2.1 is;injection k1 with k1 k5;subst k5;exact k4
   intro h2
   exact ⟨fun _=>⟨_,_,rfl,b1,hmem,h2⟩,fun h=>by rw [is] at h;cases h⟩
  simp only [same]
theorem RA {c:aO} (fit:wQ c):AT c=some (if aR c then 0 else 8):=by
 unfold AT;rw [iQ fit.now64,FX,F5,F1 _ fit.ag];simp only [aB]
 by_cases nowv:bK c.ar
 case neg=>rw [if_neg nowv,if_neg (c:=aR c) (fun h=>nowv h.nowv)];rfl
 rw [if_pos nowv]
 by_cases fld:bZ c.au.aa
 case neg=>rw [dM (fun h=>fld (lH.1 h)),if_neg (c:=aR c) (fun h=>fld h.fld)];rfl
 rw [bP (lH.2 fld)]
 by_cases crt:fA c.ax
 case neg=>rw [if_neg crt,if_neg (c:=aR c) (fun h=>crt h.crt)];rfl
 rw [if_pos crt];have kn:=aGN c.ax fld crt.len;simp only [show ((0:Int) !=0)=false from rfl,cond_false,kn,aB]
 by_cases known: ∀i,i<c.ax.aq.length->kE c.au.aa (c.ax.aq[i]!).2
 case neg=>rw [dec_f known,if_neg (c:=aR c) (fun h=>known h.known)];rfl
 rw [aK known]
 by_cases agd:fQ c.ay
 case neg=>rw [if_neg agd,if_neg (c:=aR c) (fun h=>agd h.agd)];rfl
 rw [if_pos agd];simp only [aF,show ((0:Int) !=0)=false from rfl,cond_false,bq]
 by_cases w2:c.ay.am.length=200
 case neg=>rw [dM (by omega),if_neg (c:=aR c) (fun h=>w2 h.w200)];rfl
 rw [bP (by omega)]
 by_cases hd:c.ay.aj.length=c.az.length
 case neg=>rw [dM (by omega),if_neg (c:=aR c) (fun h=>hd h.hd)];rfl
 rw [bP (by omega)]
 have run:=aAb fit.now64 fld crt agd w2 fit.du known c.ax.aq.length 0 0 (by omega) (by omega) (by omega)
 rw [dh,dh] at run;have same:aX c.au.aa c.ar c.ay.aj c.ax.aq c.az↔aR c:=by
  rw [aR.iff fit];exact ⟨fun h=>⟨nowv,fld,crt,agd,w2,hd,known,h⟩,fun h=>h.2.2.2.2.2.2.2⟩
 simp only [same] at run;simp only [cond_false];exact run
section
variable {l : List Pt} {t : Int × Int}
theorem aX.cons_true {H:List Ev} {x:wO} {cs ds:List wO} (h:(bL l x.2 t).2=true):aX l t H (x::cs) ds↔ ∃d ds',ds=d::ds'/\d.1=x.1/\(((bL l x.2 t).1.1,(bL l x.2 t).1.2,x.1,d.2):Ev)∈H/\aX l t H cs ds':=
 ⟨fun k=>k.1 h,fun k=>⟨fun _=>k,fun k'=>(by rw [h] at k';cases k')⟩⟩
theorem aX.cons_false {H:List Ev} {x:wO} {cs ds:List wO} (h:(bL l x.2 t).2=false):aX l t H (x::cs) ds↔aX l t H cs ds:=
 ⟨fun k=>k.2 h,fun k=>⟨fun k'=>(by rw [h] at k';cases k'),fun _=>k⟩⟩
theorem aX.mono {H H':List Ev}: ∀{cs ds:List wO},(∀x∈cs,∀e:Ev,e.num=x.1->e∈H->e∈H')->aX l t H cs ds->aX l t H' cs ds
 | [],_,_,h=>h
 |x::cs,ds,hm,h=>by
  have hm': ∀y∈cs,∀e:Ev,e.num=y.1->e∈H->e∈H':=fun y hy=>hm y (by simp [hy])
  cases hx:(bL l x.2 t).2 with
  |true=>
   rw [aX.cons_true hx] at h ⊢;obtain ⟨d,ds',h1,h2,h3,h4⟩:=h;exact ⟨d,ds',h1,h2,hm x (by simp) _ rfl h3,aX.mono hm' h4⟩
  |false=>
   rw [aX.cons_false hx] at h ⊢;exact aX.mono hm' h
theorem aX.az {H:List Ev}: ∀{cs ds:List wO},aX l t H cs ds-> ∀d∈ds,∃x∈cs,d.1=x.1/\(bL l x.2 t).2=true/\(((bL l x.2 t).1.1,(bL l x.2 t).1.2,x.1,d.2):Ev)∈H
 | [],ds,h,d,hd=>by
  have:ds=[]:=h
  subst this;cases hd
 |x::cs,ds,h,d,hd=>by
  cases hx:(bL l x.2 t).2 with
  |true=>
   rw [aX.cons_true hx] at h;obtain ⟨e,ds',h1,h2,h3,h4⟩:=h;subst h1;rcases dm.1 hd with rfl|hd
   · exact ⟨x,by simp,h2,hx,h3⟩
   obtain ⟨y,hy,k⟩:=aX.az h4 d hd
   exact ⟨y,by simp [hy],k⟩
  |false=>
   rw [aX.cons_false hx] at h;obtain ⟨y,hy,k⟩:=aX.az h d hd;exact ⟨y,by simp [hy],k⟩
theorem aX.has {H:List Ev}: ∀{cs ds:List wO},aX l t H cs ds-> ∀x∈cs,(bL l x.2 t).2=true-> ∃d∈ds,d.1=x.1/\(((bL l x.2 t).1.1,(bL l x.2 t).1.2,x.1,d.2):Ev)∈H
 | [],_,_,x,hx,_=>by cases hx
 |y::cs,ds,h,x,hx,hf=>by
  cases hy:(bL l y.2 t).2 with
  |true=>
   rw [aX.cons_true hy] at h;obtain ⟨e,ds',h1,h2,h3,h4⟩:=h;subst h1;rcases dm.1 hx with rfl|hx
   · exact ⟨e,by simp,h2,h3⟩
   obtain ⟨d,hd,k⟩:=aX.has h4 x hx hf
   exact ⟨d,by simp [hd],k⟩
  |false=>
   rw [aX.cons_false hy] at h;rcases dm.1 hx with rfl|hx
   · rw [hf] at hy;cases hy
   exact aX.has h x hx hf
def Up (cs:List wO):Prop:=cs.Pairwise fun x y=>x.1<y.1
theorem vM {cs:List wO}:Up cs↔ ∀i j,i<j->j<cs.length->(cs[i]!).1<(cs[j]!).1:=by
 unfold Up;rw [List.pairwise_iff_getElem];constructor
 · intro h i j hij hj
   rw [getElem!_pos cs i (by omega),getElem!_pos cs j hj]
   exact h i j (by omega) hj hij
 intro h i j hi hj hij
 have:=h i j hij hj
 rwa [getElem!_pos cs i hi,getElem!_pos cs j hj] at this
theorem aX.up {H:List Ev}: ∀{cs ds:List wO},aX l t H cs ds->Up cs->Up ds
 | [],ds,h,_=>by
  have:ds=[]:=h
  subst this;exact List.Pairwise.nil
 |x::cs,ds,h,hu=>by
  have hu':=dv.1 hu;cases hx:(bL l x.2 t).2 with
  |true=>
   rw [aX.cons_true hx] at h;obtain ⟨e,ds',h1,h2,h3,h4⟩:=h;subst h1;refine dv.2 ⟨fun d hd=>?_,aX.up h4 hu'.2⟩
   obtain ⟨y,hy,k,_⟩:=aX.az h4 d hd
   have:=hu'.1 y hy
   omega
  |false=>
   rw [aX.cons_false hx] at h;exact aX.up h hu'.2
theorem aX.snoc {H:List Ev}: ∀{cs ds:List wO} {x:wO},aX l t H cs ds->((bL l x.2 t).2=false->aX l t H (cs++[x]) ds)/\
 (∀d:wO,(bL l x.2 t).2=true->d.1=x.1->(((bL l x.2 t).1.1,(bL l x.2 t).1.2,x.1,d.2):Ev)∈H->aX l t H (cs++[x]) (ds++[d]))
 | [],ds,x,h=>by
  have:ds=[]:=h
  subst this;refine ⟨fun hx=>(aX.cons_false hx).2 rfl,fun d hx h1 h2=>(aX.cons_true hx).2 ⟨d,[],rfl,h1,h2,rfl⟩⟩
 |y::cs,ds,x,h=>by
  cases hy:(bL l y.2 t).2 with
  |true=>
   rw [aX.cons_true hy] at h;obtain ⟨e,ds',h1,h2,h3,h4⟩:=h;subst h1;have ih:=aX.snoc (x:=x) h4;refine ⟨fun hx=>(aX.cons_true hy).2 ⟨e,ds',rfl,h2,h3,ih.1 hx⟩,fun d hx k1 k2=>(aX.cons_true hy).2 ⟨e,ds'++[d],rfl,h2,h3,ih.2 d hx k1 k2⟩⟩
  |false=>
   rw [aX.cons_false hy] at h;have ih:=aX.snoc (x:=x) h;exact ⟨fun hx=>(aX.cons_false hy).2 (ih.1 hx),fun d hx k1 k2=>(aX.cons_false hy).2 (ih.2 d hx k1 k2)⟩
theorem aX.erase {H:List Ev}: ∀{cs ds:List wO} {i:Nat},aX l t H cs ds->i<cs.length->((bL l (cs[i]!).2 t).2=false->aX l t H (cs.eraseIdx i) ds)/\
 ((bL l (cs[i]!).2 t).2=true-> ∃k,k<ds.length/\(ds[k]!).1=(cs[i]!).1/\(((bL l (cs[i]!).2 t).1.1,(bL l (cs[i]!).2 t).1.2,(cs[i]!).1,(ds[k]!).2):Ev)∈H/\aX l t H (cs.eraseIdx i) (ds.eraseIdx k))
 | [],_,i,_,hi=>by cases hi
 |y::cs,ds,0,h,_=>by
  show ((bL l y.2 t).2=false->aX l t H cs ds)/\((bL l y.2 t).2=true-> ∃k,k<ds.length/\(ds[k]!).1=y.1/\(((bL l y.2 t).1.1,(bL l y.2 t).1.2,y.1,(ds[k]!).2):Ev)∈H/\aX l t H cs (ds.eraseIdx k));refine ⟨fun hy=>(aX.cons_false hy).1 h,fun hy=>?_⟩
  obtain ⟨e,ds',h1,h2,h3,h4⟩:=(aX.cons_true hy).1 h;subst h1;exact ⟨0,by simp,h2,h3,h4⟩
 |y::cs,ds,i+1,h,hi=>by
  have hi':i<cs.length:=by simpa using hi
  show ((bL l (cs[i]!).2 t).2=false->aX l t H (y::cs.eraseIdx i) ds)/\((bL l (cs[i]!).2 t).2=true-> ∃k,k<ds.length/\(ds[k]!).1=(cs[i]!).1/\(((bL l (cs[i]!).2 t).1.1,(bL l (cs[i]!).2 t).1.2,(cs[i]!).1,(ds[k]!).2):Ev)∈H/\aX l t H (y::cs.eraseIdx i) (ds.eraseIdx k));cases hy:(bL l y.2 t).2 with
  |true=>
   obtain ⟨e,ds',h1,h2,h3,h4⟩:=(aX.cons_true hy).1 h;subst h1;have ih:=aX.erase (i:=i) h4 hi';refine ⟨fun hx=>(aX.cons_true hy).2 ⟨e,ds',rfl,h2,h3,ih.1 hx⟩,fun hx=>?_⟩
   obtain ⟨k,k1,k2,k3,k4⟩:=ih.2 hx;exact ⟨k+1,by simp;omega,k2,k3,(aX.cons_true hy).2 ⟨e,ds'.eraseIdx k,rfl,h2,h3,k4⟩⟩
  |false=>
   have h:=(aX.cons_false hy).1 h;have ih:=aX.erase (i:=i) h hi';refine ⟨fun hx=>(aX.cons_false hy).2 (ih.1 hx),fun hx=>?_⟩
   obtain ⟨k,k1,k2,k3,k4⟩:=ih.2 hx;exact ⟨k,k1,k2,k3,(aX.cons_false hy).2 k4⟩
end
theorem NG {H:List Ev} {ns:List Int} (hd:ns.Nodup) (hl:H.length<=ns.length) (he: ∀n∈ns,∃e∈H,Ev.num e=n): ∀e∈H,Ev.num e∈ns:=by
 have pos: ∀n,n∈ns-> ∃w,w<H.length/\Ev.num H[w]! =n:=fun n hn=>by
  obtain ⟨e,he,h2⟩:=he n hn;obtain ⟨w,hw,rfl⟩:=aU.1 he;exact ⟨w,hw,h2⟩
 let f:Int->Nat:=fun n=>if h: ∃w,w<H.length/\Ev.num H[w]! =n then h.choose else 0
 have hf: ∀n∈ns,f n<H.length/\Ev.num H[f n]! =n:=fun n hn=>by
  have h:=pos n hn;show (if h: ∃w,w<H.length/\Ev.num H[w]! =n then h.choose else 0)<_/\Ev.num H[(if h: ∃w,w<H.length/\Ev.num H[w]! =n then h.choose else 0)]! =n
  rw [dif_pos h];exact h.choose_spec
 have full:=NC (n:=H.length) (l:=ns.map f) (G4 hd fun x hx y hy h=>by
  have h1:=(hf x hx).2;have h2:=(hf y hy).2;rw [h] at h1
  omega) (fun x hx=>by
  obtain ⟨n,hn,rfl⟩:=cj.1 hx;exact (hf n hn).1) (by rw [d8];exact hl)
 intro e hm;obtain ⟨w,hw,rfl⟩:=aU.1 hm;obtain ⟨n,hn,h⟩:=cj.1 (full w hw);rw [<- h,(hf n hn).2];exact hn
theorem aAc {cs:List wO} (h:Up cs):(cs.map fun x=>x.1).Nodup:=by
 refine G4 ?_ ?_
 · unfold Up at h
   exact h.imp fun hab he=>by rw [he] at hab;omega
 intro x hx y hy he
 obtain ⟨i,hi,rfl⟩:=aU.1 hx;obtain ⟨j,hj,rfl⟩:=aU.1 hy;rcases c7 i j with h1|h1|h1
 · have:=vM.1 h i j h1 hj;omega
 · rw [h1]
 have:=vM.1 h j i h1 hi;omega
theorem aR.crt_up {c:aO} (ok:aR c):Up c.ax.aq:=vM.2 ok.crt.up
theorem aR.due_up {c:aO} (ok:aR c):Up c.az:=ok.fol.up ok.crt_up
theorem aR.nums {c:aO} (ok:aR c): ∀e∈c.ay.aj,∃d∈c.az,d.1=Ev.num e:=by
 have:=NG (H:=c.ay.aj) (aAc ok.due_up) (by rw [d8,ok.hd];exact bv _) (fun n hn=>by
  obtain ⟨d,hd,rfl⟩:=cj.1 hn;obtain ⟨x,hx,h1,h2,h3⟩:=ok.fol.az d hd;exact ⟨_,h3,h1.symm⟩)
 intro e he;obtain ⟨d,hd,h⟩:=cj.1 (this e he);exact ⟨d,hd,h⟩
end Go.Proofs.YtlnclppkepgdmaaGreat
