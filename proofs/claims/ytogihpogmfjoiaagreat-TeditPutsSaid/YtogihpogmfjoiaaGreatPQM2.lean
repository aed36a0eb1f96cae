/- Plain laws (2). -/
import Derived.Test.YtogihpogmfjoiaaGreatPQM1
open Classical renaming not_not->bn,not_forall->bw,not_imp->cd
open List renaming length_set->bo,length_take->bz,take_of_length_le->ce,take_append_of_le_length->cf,mem_map->cj,append_assoc->cm,drop_length->cq,drop_eq_nil_iff->cu,length_append->cw,set_eq_of_length_le->cz,length_drop->c6,drop_eq_nil_of_le->c9,drop_zero->de,filter_eq_self->df,mem_cons->di,getElem?_take->dj,filter_append->dm,pairwise_cons->dp,getElem?_set->dt,length_cons->dv,isEmpty_iff->dw,length_nil->dz,append_nil->d5,length_map->d6,replicate->d7,take_take->d8,set_comm->ec
open Bool renaming not_true->bq,not_false->ck,eq_iff_iff->db,and_eq_true->dy,and_self->eg
open Int renaming toNat_natCast->bu,lt_irrefl->dh
open Nat renaming le_refl->bv,ble_eq_true_of_le->cp,lt_trichotomy->cy,sub_self->c8,eq_of_beq_eq_true->dd,le_trans->eh,beq->ei,min_self->ej
open Prod renaming ext->ci,fst->d9,snd->eb
open Iff renaming rfl->c7
namespace Go.Proofs.YtogihpogmfjoiaaGreat
open Go.Vm Classical
theorem U6 (a:aO) (fit:E6 a) (so:fK a.ai) (wl:a.am.length=a.ai.ac.length):
 aH nK (a.am,(a.am.length:Int),0,a.ai.ac,a.ai.ae,a.ai.af,a.aj,a.am)=some (if (∀i,i<a.ai.ac.length->PN a i)/\(∀k,k<a.aj.length->Q5 a.aj k) then 0 else 8):=by
 have hu:=so.ul;have hn:=so.n2;have hh:=fit.hp;have inner:=U5 a.aj a.ai.ac a.ai.af a.am a.ai.ae fit.hp fit.at64
 have key:=dO (body:=nK) (fun i=>(a.am,(a.am.length:Int),(i:Int),a.ai.ac,a.ai.ae,a.ai.af,a.aj,a.am)) a.am.length (fun i=> ¬PN a i) (r:=8) (e:=if (∀k,k<a.aj.length->Q5 a.aj k) then 0 else 8) (fun i hi=>by
  have e1:decide ((i:Int)<(a.am.length:Int))=true:=aJ (by omega)
  unfold nK;simp only [aF,e1,cond_true,aD a.am i hi,aD a.ai.ae i (by omega),aD a.ai.ac i (by omega),aB,aU (show i<1000000000 by omega)]
  unfold PN;generalize a.am[i]! =w at*;cases hb:a.ai.ae[i]! with
  |false=>
   simp only [ck,cond_true]
   by_cases hw:w= -1
   · rw [bF hw]
     exact ⟨fun h=>absurd ⟨fun h=>(by cases h),fun _=>hw⟩ h,fun _=>rfl⟩
   rw [cN hw]
   exact ⟨fun _=>rfl,fun h=>absurd ((bn.1 h).2 trivial) hw⟩
  |true=>
   simp only [bq,cond_false]
   by_cases b1:w<0
   · rw [aJ b1]
     exact ⟨fun _=>rfl,fun h=>absurd ((bn.1 h).1 trivial).1 (by omega)⟩
   by_cases b2:(a.aj.length:Int)<=w
   · rw [dec_f b1,aJ b2]
     exact ⟨fun _=>rfl,fun h=>absurd ((bn.1 h).1 trivial).2.1 (by omega)⟩
   rw [dec_f b1,dec_f b2];simp only [cond_false,eD (l:=a.aj) (i:=w) (by omega) (by omega),aB]
   by_cases b3:(a.aj[w.toNat]!).2.2.2.1=i
   · by_cases b4:(a.aj[w.toNat]!).2.2.2.2=a.ai.ac[i]!
     · rw [eY b3,eY b4]
       exact ⟨fun h=>absurd ⟨fun _=>⟨by omega,by omega,b3,b4⟩,fun h=>(by cases h)⟩ h,fun _=>rfl⟩
     rw [eY b3,eO b4]
     exact ⟨fun _=>rfl,fun h=>absurd ((bn.1 h).1 trivial).2.2.2 b4⟩
   rw [eO b3]
   exact ⟨fun _=>rfl,fun h=>absurd ((bn.1 h).1 trivial).2.2.1 b3⟩) (by
  unfold nK
  have:decide ((a.am.length:Int)<(a.am.length:Int))=false:=dec_f (by omega)
  simp only [aF,this,cond_false]
  by_cases hx: ∀k,k<a.aj.length->Q5 a.aj k
  · rw [if_pos hx];exact inner.1 hx
  rw [if_neg hx];exact inner.2 hx)
 by_cases hw: ∀i,i<a.ai.ac.length->PN a i
 · refine (key.2 fun i hi=>bn.2 (hw i (by omega))).trans ?_
   by_cases hx: ∀k,k<a.aj.length->Q5 a.aj k
   · rw [if_pos hx,if_pos ⟨hw,hx⟩]
   rw [if_neg hx,if_neg (fun h=>hx h.2)]
 rw [if_neg (fun h=>hw h.1)]
 obtain ⟨i,h⟩:=bw.1 hw;obtain ⟨hi,hx⟩:=cd.1 h;exact key.1 ⟨i,by omega,hx⟩
theorem nL (a:aO) (fit:E6 a):mY a=some (if fJ a then 0 else 8):=by
 have hh:=fit.hp;unfold mY;rw [AX _ fit.fr];simp only [aF]
 by_cases so:fK a.ai
 case neg=>rw [if_neg so,if_neg (fun h=>so h.so)];rfl
 have hu:=so.ul;have hn:=so.n2;have hf:=so.fl;rw [if_pos so];simp only [aB,show ((0:Int) !=0)=false from rfl,cond_false]
 by_cases wl:a.am.length=a.ai.ac.length
 case neg=>
  rw [cN (by omega),if_neg (fun h=>wl h.wl)];rfl
 rw [bF (by omega)]
 have e:aA .i64 ((a.ai.ae.length:Int) - (a.ai.af.length:Int))=((a.ai.ac.length-a.ai.af.length:Nat):Int):=by rw [wi];omega
 rw [e]
 by_cases hl:a.aj.length+a.ai.af.length=a.ai.ac.length
 case neg=>
  rw [cN (by omega),if_neg (fun h=>hl h.hl)];rfl
 rw [bF (by omega)]
 simp only [cond_false];rw [U6 a fit so wl]
 by_cases ok:fJ a
 · rw [if_pos ok,if_pos ok.to]
 rw [if_neg ok,if_neg]
 intro h;exact ok (fJ.of fit so wl hl h.1 h.2)
theorem aFQ {x y:Ev} (hx:tH (x.1,x.2.1)) (hy:tH (y.1,y.2.1)):eX x y=some (decide (eB x y)):=by
 unfold eX eB;rw [O8 hx hy];simp only [aB];generalize IB (x.1,x.2.1) (y.1,y.2.1)=c
 by_cases h1:c<0
 · simp [h1]
 by_cases h2:c=0
 · subst h2;simp
 simp only [h1,eO h2,h2,decide_false,cond_false,false_or,false_and]
theorem aCo {s:bC} (ok:fK s) (h:Int×Int):yN s h=some (decide (AH s h)):=by
 have hu:=ok.ul;unfold yN AH;simp only [aF]
 by_cases a1:0<=h.1
 · by_cases a2:h.1<s.ac.length
   · simp only [a1,a2,decide_true,cond_true,eD (l:=s.ae) a1 (by omega),eD (l:=s.ac) a1 a2,aB,true_and]
     generalize s.ac[h.1.toNat]! =u;cases s.ae[h.1.toNat]!<;>simp [aCl]
   simp [a1,a2]
 simp [a1]
theorem aDx (a:aO) (so:fK a.ai):xK a=some (decide (a.am.length=a.ai.ac.length/\a.aj.length+a.ai.af.length=a.ai.ac.length/\ ∀i,i<a.ai.ac.length->PN a i)):=by
 have hu:=so.ul;have hn:=so.n2;have hf:=so.fl;unfold xK;simp only [aF]
 by_cases wl:a.am.length=a.ai.ac.length
 case neg=>
  rw [cN (by omega),dec_f (fun h=>wl h.1)];rfl
 rw [bF (by omega)]
 have e:aA .i64 ((a.ai.ac.length:Int) - (a.ai.af.length:Int))=((a.ai.ac.length-a.ai.af.length:Nat):Int):=by rw [wi];omega
 rw [e]
 by_cases hl:a.aj.length+a.ai.af.length=a.ai.ac.length
 case neg=>
  rw [cN (by omega),dec_f (fun h=>hl h.2.1)];rfl
 rw [bF (by omega)]
 simp only [cond_false];have key:=dO (body:=qD) (fun i=>((a.ai.ac.length:Int),(i:Int),a.ai.ac,a.ai.ae,a.ai.af,a.aj,a.am)) a.ai.ac.length (fun i=> ¬PN a i) (r:=false) (e:=true) (fun i hi=>by
  have e1:decide ((i:Int)<(a.ai.ac.length:Int))=true:=aJ (by omega)
  unfold qD;simp only [aF,e1,cond_true,aD a.am i (by omega),aD a.ai.ae i (by omega),aB,aU (show i<1000000000 by omega)]
  unfold PN;generalize a.am[i]! =w at*;cases hb:a.ai.ae[i]! with
  |false=>
   simp only [ck,cond_true]
   by_cases hw:w= -1
   · rw [bF hw]
     exact ⟨fun h=>absurd ⟨fun h=>(by cases h),fun _=>hw⟩ h,fun _=>rfl⟩
   rw [cN hw]
   exact ⟨fun _=>rfl,fun h=>absurd ((bn.1 h).2 trivial) hw⟩
  |true=>
   simp only [bq,cond_false]
   by_cases b1:w<0
   · rw [aJ b1]
     exact ⟨fun _=>rfl,fun h=>absurd ((bn.1 h).1 trivial).1 (by omega)⟩
   by_cases b2:(a.aj.length:Int)<=w
   · rw [dec_f b1,aJ b2]
     exact ⟨fun _=>rfl,fun h=>absurd ((bn.1 h).1 trivial).2.1 (by omega)⟩
   rw [dec_f b1,dec_f b2];simp only [cond_false,eD (l:=a.aj) (i:=w) (by omega) (by omega),aB]
   by_cases b3:(a.aj[w.toNat]!).2.2.2.1=i
   · rw [bF b3]
     simp only [cond_false];rw [aCo (s:=⟨a.ai.ac,a.ai.ae,a.ai.af⟩) so];have lv:AH ⟨a.ai.ac,a.ai.ae,a.ai.af⟩ (a.aj[w.toNat]!).2.2.2↔(a.aj[w.toNat]!).2.2.2.2=a.ai.ac[i]!:=by
      unfold AH;dsimp only;rw [b3];constructor
      · intro h;exact h.2.2.2.symm
      intro h;exact ⟨by omega,by omega,by rw [bu];exact hb,by rw [bu];exact h.symm⟩
     simp only [aB,lv]
     by_cases b4:(a.aj[w.toNat]!).2.2.2.2=a.ai.ac[i]!
     · rw [aJ b4]
       exact ⟨fun h=>absurd ⟨fun _=>⟨by omega,by omega,b3,b4⟩,fun h=>(by cases h)⟩ h,fun _=>rfl⟩
     rw [dec_f b4]
     exact ⟨fun _=>rfl,fun h=>absurd ((bn.1 h).1 trivial).2.2.2 b4⟩
   rw [cN b3]
   exact ⟨fun _=>rfl,fun h=>absurd ((bn.1 h).1 trivial).2.2.1 b3⟩) (by
  unfold qD
  have:decide ((a.ai.ac.length:Int)<(a.ai.ac.length:Int))=false:=dec_f (by omega)
  simp only [this,cond_false])
 by_cases hw: ∀i,i<a.ai.ac.length->PN a i
 · rw [aJ ⟨wl,hl,hw⟩]
   exact key.2 fun i hi=>bn.2 (hw i hi)
 rw [dec_f (fun h=>hw h.2.2)]
 obtain ⟨i,h⟩:=bw.1 hw;obtain ⟨hi,hx⟩:=cd.1 h;exact key.1 ⟨i,hi,hx⟩
theorem YK (H:List Ev) (u fr W:List Int) (us:List Bool) (k:Nat) (hk:k<H.length) (hl:H.length<=1000000) (x:Ev):
 ((∃j,j<k/\(H[j]!).2.2.1=x.2.2.1)->aH lZ ((k:Int),0,u,us,fr,H,W,x)=some (.done 8))/\
 ((∀j,j<k-> ¬(H[j]!).2.2.1=x.2.2.1)->aH lZ ((k:Int),0,u,us,fr,H,W,x)=some (.next (((k+1:Nat):Int),u,us,fr,H,W))):=by
 refine dO (body:=lZ) (fun j=>((k:Int),(j:Int),u,us,fr,H,W,x)) k (fun j=>(H[j]!).2.2.1=x.2.2.1) (r:= .done 8) (e:= .next (((k+1:Nat):Int),u,us,fr,H,W)) (fun j hj=>?_) ?_
 · have e1:decide ((j:Int)<(k:Int))=true:=aJ (by omega)
   unfold lZ;simp only [e1,cond_true,aD H j (by omega),aB,aU (show j<1000000000 by omega)]
   constructor
   · intro h;rw [eY h];rfl
   intro h;rw [eO h];rfl
 unfold lZ
 have:decide ((k:Int)<(k:Int))=false:=dec_f (by omega)
 simp only [this,cond_false,aU (show k<1000000000 by omega)]
theorem YL (H:List Ev) (u fr W:List Int) (us:List Bool) (hl:H.length<=1000000) (r64: ∀w,w<H.length->tH ((H[w]!).1,(H[w]!).2.1)):
 aH mA (1,u,us,fr,H,W)=some (.done (if∀k,0<k->k<H.length-> ¬eB H[k]! H[(k-1) / 2]! then 0 else 8)):=by
 by_cases h0:H.length=0
 · rw [if_pos (fun k _ hk=>by omega)]
   refine aL ?_;unfold mA
   have:decide ((1:Int)<(H.length:Int))=false:=dec_f (by omega)
   simp only [aF,this,cond_false]
 have key:=dO (body:=mA) (fun i=>(((i+1:Nat):Int),u,us,fr,H,W)) (H.length-1) (fun i=>eB H[i+1]! H[i / 2]!) (r:= .done 8) (e:= .done 0) (fun i hi=>by
  have e1:decide (((i+1:Nat):Int)<(H.length:Int))=true:=aJ (by omega)
  unfold mA;simp only [aF,e1,cond_true,wT (show i<1000000000 by omega),aD H (i+1) (by omega),aD H (i / 2) (by omega),aB,aFQ (r64 (i+1) (by omega)) (r64 (i / 2) (by omega)),aU (show i+1<1000000000 by omega)]
  constructor
  · intro h;rw [aJ h];rfl
  · intro h;rw [dec_f h];rfl) (by
  unfold mA
  have:decide (((H.length-1+1:Nat):Int)<(H.length:Int))=false:=dec_f (by omega)
  simp only [aF,this,cond_false])
 by_cases ho: ∀k,0<k->k<H.length-> ¬eB H[k]! H[(k-1) / 2]!
 · rw [if_pos ho]
   refine key.2 fun i hi hc=>ho (i+1) (by omega) (by omega) ?_
   rwa [show (i+1-1) / 2=i / 2 by omega]
 rw [if_neg ho]
 obtain ⟨k,h⟩:=bw.1 ho;obtain ⟨k0,h⟩:=cd.1 h;obtain ⟨hk,hx⟩:=cd.1 h;refine key.1 ⟨k-1,by omega,?_⟩
 rw [show k-1+1=k by omega]
 exact bn.1 hx
def U7 (H:List Ev) (k:Nat):Prop:=cS ((H[k]!).1,(H[k]!).2.1)/\0<=(H[k]!).2.2.1/\(H[k]!).2.2.1<=1000000/\(∀j,j<k-> ¬(H[j]!).2.2.1=(H[k]!).2.2.1)
theorem E7 (a:aO) (fit:E6 a):wE a=some (if fJ a then 0 else 8):=by
 have hh:=fit.hp;unfold wE;rw [PM _ fit.fr]
 by_cases so:fK a.ai
 case neg=>rw [if_neg so,if_neg (fun h=>so h.so)];rfl
 rw [if_pos so];simp only [aB,show ((0:Int) !=0)=false from rfl,cond_false,aDx a so]
 by_cases pl:a.am.length=a.ai.ac.length/\a.aj.length+a.ai.af.length=a.ai.ac.length/\ ∀i,i<a.ai.ac.length->PN a i
 case neg=>
  rw [dec_f pl,if_neg (fun h=>pl ⟨h.wl,h.hl,h.to.1⟩)];rfl
 rw [aJ pl];obtain ⟨wl,hl,hw⟩:=pl;simp only [bq,cond_false];have key:=dO (body:=sL) (fun k=>((k:Int),a.ai.ac,a.ai.ae,a.ai.af,a.aj,a.am)) a.aj.length (fun k=> ¬U7 a.aj k) (r:=8) (e:=if∀k,0<k->k<a.aj.length-> ¬eB a.aj[k]! a.aj[(k-1) / 2]! then 0 else 8) (fun k hk=>by
  have e1:decide ((k:Int)<(a.aj.length:Int))=true:=aJ (by omega)
  have l1:=YK a.aj a.ai.ac a.ai.af a.am a.ai.ae k hk hh a.aj[k]!;unfold sL;simp only [aF,e1,cond_true,aD a.aj k hk,aB,E3 (fit.at64 k hk)];unfold U7
  by_cases b1:cS ((a.aj[k]!).1,(a.aj[k]!).2.1)
  case neg=>
   rw [if_neg b1];exact ⟨fun _=>rfl,fun h=>absurd (bn.1 h).1 b1⟩
  rw [if_pos b1]
  by_cases b2:(a.aj[k]!).2.2.1<0
  · rw [aJ b2]
    exact ⟨fun _=>rfl,fun h=>absurd (bn.1 h).2.1 (by omega)⟩
  by_cases b3:1000000<(a.aj[k]!).2.2.1
  · rw [dec_f b2,aJ b3]
    exact ⟨fun _=>rfl,fun h=>absurd (bn.1 h).2.2.1 (by omega)⟩
  rw [dec_f b2,dec_f b3];simp only [show ((0:Int) !=0)=false from rfl,cond_false]
  by_cases b4: ∃j,j<k/\(a.aj[j]!).2.2.1=(a.aj[k]!).2.2.1
  · refine ⟨fun _=>l1.1 b4,fun h=>?_⟩
    obtain ⟨j,j1,j2⟩:=b4;exact absurd j2 ((bn.1 h).2.2.2 j j1)
  · have b4': ∀j,j<k-> ¬(a.aj[j]!).2.2.1=(a.aj[k]!).2.2.1:=fun j h1 h2=>b4 ⟨j,h1,h2⟩
    exact ⟨fun h=>absurd ⟨b1,by omega,by omega,b4'⟩ h,fun _=>l1.2 b4'⟩) (by
  unfold sL
  have:decide ((a.aj.length:Int)<(a.aj.length:Int))=false:=dec_f (by omega)
  simp only [aF,this,cond_false];exact YL a.aj _ _ _ _ hh fit.at64)
 have same:fJ a↔(∀k,k<a.aj.length->U7 a.aj k)/\ ∀k,0<k->k<a.aj.length-> ¬eB a.aj[k]! a.aj[(k-1) / 2]!:=by
  constructor
  · intro ok
    refine ⟨fun k hk=>?_,ok.ord⟩
    have:=ok.to.2 k hk
    exact ⟨this.1,this.2.1,this.2.2.1,this.2.2.2.1⟩
  rintro ⟨h1,h2⟩
  refine fJ.of fit so wl hl hw fun k hk=>?_
  obtain ⟨c1,c2,c3,c4⟩:=h1 k hk;refine ⟨c1,c2,c3,c4,fun k0=>?_⟩
  unfold aAR;rw [if_pos ⟨c1,(h1 ((k-1) / 2) (by omega)).1⟩,JR]
  exact h2 k k0 hk
 by_cases he: ∀k,k<a.aj.length->U7 a.aj k
 · refine (key.2 fun i hi=>bn.2 (he i hi)).trans ?_
   by_cases ho: ∀k,0<k->k<a.aj.length-> ¬eB a.aj[k]! a.aj[(k-1) / 2]!
   · rw [if_pos ho,if_pos (same.2 ⟨he,ho⟩)]
   rw [if_neg ho,if_neg (fun h=>ho (same.1 h).2)]
 rw [if_neg (fun h=>he (same.1 h).1)]
 obtain ⟨i,h⟩:=bw.1 he;obtain ⟨hi,hx⟩:=cd.1 h;exact key.1 ⟨i,hi,hx⟩
theorem G5 {l:List Ev} {n:Nat} {e:Ev} (hn:n<=l.length):e∈l.take n↔ ∃w,w<n/\l[w]! =e:=by
 rw [cD];constructor
 · rintro ⟨i,h1,_,h3⟩;exact ⟨i,h1,h3⟩
 rintro ⟨i,h1,h3⟩;exact ⟨i,h1,by omega,h3⟩
theorem aOq {s:bC} (so:fK s) {n:Nat} {H:List Ev} {W:List Int} (E:Ev->Prop) (hn:n<=H.length) (wl:W.length=s.ac.length) (hl:n+s.af.length=s.ac.length)
 (ix: ∀w,w<n->0<=(H[w]!).ix/\(H[w]!).ix<W.length/\W[(H[w]!).n]! =(w:Int)) (mem: ∀e,(∃w,w<n/\H[w]! =e)↔E e) (ord: ∀k,0<k->k<n-> ¬eB H[k]! H[(k-1) / 2]!)
 (ue: ∀i,i<s.ac.length->s.ae[i]! =true-> ∃e:Ev,E e/\e.ix=i/\e.2.2.2.2=s.ac[i]!) (un: ∀i,i<s.ac.length->s.ae[i]! =false->W[i]! = -1)
 (ev: ∀e,E e->uC e) (nums: ∀e f:Ev,E e->E f->e.num=f.num->e.ix=f.ix):fJ ⟨s,H.take n,W⟩:=by
 have len:(H.take n).length=n:=by rw [bz];omega
 have cell: ∀w,w<n->(H.take n)[w]! =H[w]!:=fun w hw=>kQ hw
 refine ⟨so,wl,by show (H.take n).length+_=_;rw [len];exact hl,?_,un,?_,?_,?_⟩
 · intro i hi hu
   dsimp only at hi hu ⊢;rw [len];obtain ⟨e,he,e1,e2⟩:=ue i hi hu;obtain ⟨w,hw,rfl⟩:=(mem e).2 he;obtain ⟨a1,a2,a3⟩:=ix w hw;have hn':(H[w]!).n=i:=by show ((H[w]!).ix).toNat=i;omega
   rw [hn'] at a3;rw [a3,bu,cell w hw];exact ⟨by omega,by omega,e1,e2⟩
 · intro w hw
   dsimp only at hw ⊢;rw [len] at hw;rw [cell w hw];exact ev _ ((mem _).1 ⟨w,hw,rfl⟩)
 · intro v w hv hw
   dsimp only at hw ⊢;rw [len] at hw;rw [cell v (by omega),cell w hw]
   intro hc
   have:=nums _ _ ((mem _).1 ⟨v,by omega,rfl⟩) ((mem _).1 ⟨w,hw,rfl⟩) hc
   obtain ⟨a1,a2,a3⟩:=ix v (by omega)
   obtain ⟨b1,b2,b3⟩:=ix w hw;have hn':(H[v]!).n=(H[w]!).n:=by show ((H[v]!).ix).toNat=((H[w]!).ix).toNat;rw [this]
   rw [hn'] at a3;omega
 intro k k0 hk
 dsimp only at hk ⊢;rw [len] at hk;rw [cell k hk,cell _ (by omega)]
 exact ord k k0 hk
theorem A0 {s:bC} (so:fK s) {n:Nat} {x:Ev} {M:Ev->Prop} {K:Nat->Prop} {H H1:List Ev} {W W1:List Int} (st:GC n x M K H W H1 W1) (hn:n<=H.length) (wl:W.length=s.ac.length) (hl:n+s.af.length=s.ac.length)
 (ue: ∀i,i<s.ac.length->s.ae[i]! =true-> ∃e:Ev,(e=x\/M e)/\e.ix=i/\e.2.2.2.2=s.ac[i]!) (un: ∀i,i<s.ac.length->s.ae[i]! =false->K i/\W[i]! = -1)
 (ev: ∀e,(e=x\/M e)->uC e) (nums: ∀e f:Ev,(e=x\/M e)->(f=x\/M f)->e.num=f.num->e.ix=f.ix):fJ ⟨s,H1.take n,W1⟩:=by
 refine aOq so (fun e=>e=x\/M e) (by rw [st.hl];exact hn) (by rw [st.wl];exact wl) hl (by rw [st.wl];exact st.ix) st.mem st.ord ue ?_ ev nums
 intro i hi hu;rw [st.out i (un i hi hu).1];exact (un i hi hu).2
theorem fJ.bd {a:aO} (ok:fJ a):a.aj.length<=200/\a.am.length<=200:=by
 have:=ok.hl;have:=ok.wl;have:=ok.so.n2
 omega
theorem fJ.cells {a:aO} (ok:fJ a):oW a.aj.length a.aj a.am:=by
 have:=ok.bd
 refine ⟨bv _,by omega,fun w hw=>?_⟩
 obtain ⟨b1,b2,b3,b4,b5⟩:=ok.back hw;exact ⟨ok.ev w hw,b1,by rw [ok.wl];exact b2⟩
theorem fJ.inj {a:aO} (ok:fJ a) {v w:Nat} (hv:v<a.aj.length) (hw:w<a.aj.length) (h:Ev.ix a.aj[v]! =Ev.ix a.aj[w]!):v=w:=by
 have h1:=(ok.back hv).2.2.2.2;have h2:=(ok.back hw).2.2.2.2
 have:Ev.n a.aj[v]! =Ev.n a.aj[w]!:=by show (Ev.ix a.aj[v]!).toNat=(Ev.ix a.aj[w]!).toNat;rw [h]
 rw [this] at h1;omega
theorem fJ.grand {a:aO} (ok:fJ a) {i k:Nat} (i0:0<i) (k0:0<k) (hk:k<a.aj.length) (hp:(k-1) / 2=i): ¬eB a.aj[k]! a.aj[(i-1) / 2]!:=by
 have h1:=ok.ord k k0 hk;rw [hp] at h1;exact GB (ok.ev _ (by omega)).den (ok.ev _ (by omega)).den (ok.ev _ hk).den (ok.ord i i0 (by omega)) h1
theorem fJ.live {a:aO} (ok:fJ a) {h:Int×Int} (lv:AH a.ai h): ∃i,i<a.aj.length/\a.am[h.1.toNat]! =(i:Int)/\(a.aj[i]!).2.2.2=h:=by
 obtain ⟨l1,l2,l3,l4⟩:=lv;obtain ⟨f1,f2,f3,f4⟩:=ok.fwd h.1.toNat (by omega) l3
 refine ⟨(a.am[h.1.toNat]!).toNat,by omega,by omega,?_⟩
 have e1:(a.aj[(a.am[h.1.toNat]!).toNat]!).2.2.2.1=h.1:=by
  have:Ev.ix a.aj[(a.am[h.1.toNat]!).toNat]! =(h.1.toNat:Int):=f3
  have h2:Ev.ix a.aj[(a.am[h.1.toNat]!).toNat]! =(a.aj[(a.am[h.1.toNat]!).toNat]!).2.2.2.1:=rfl;omega
 exact ci e1 (by rw [f4,l4])
theorem fJ.handle {a:aO} (ok:fJ a) {i:Nat} (hi:i<a.aj.length):AH a.ai (a.aj[i]!).2.2.2/\a.am[((a.aj[i]!).2.2.2.1).toNat]! =(i:Int):=by
 obtain ⟨b1,b2,b3,b4,b5⟩:=ok.back hi;exact ⟨⟨b1,b2,b3,b4⟩,b5⟩
theorem fJ.used_ev {a:aO} (ok:fJ a) {i:Nat} (hi:i<a.ai.ac.length) (hu:a.ai.ae[i]! =true): ∃w,w<a.aj.length/\Ev.ix a.aj[w]! =i/\(a.aj[w]!).2.2.2.2=a.ai.ac[i]!:=by
 obtain ⟨f1,f2,f3,f4⟩:=ok.fwd i hi hu;exact ⟨(a.am[i]!).toNat,by omega,f3,f4⟩
theorem fJ.no_ev {a:aO} (ok:fJ a) {i:Nat} (hu:a.ai.ae[i]! =false) {w:Nat} (hw:w<a.aj.length):Ev.n a.aj[w]!≠i:=by
 intro h
 have:=(ok.back hw).2.2.1
 rw [h,hu] at this;cases this
theorem fJ.nums {a:aO} (ok:fJ a) {v w:Nat} (hv:v<a.aj.length) (hw:w<a.aj.length) (h:Ev.num a.aj[v]! =Ev.num a.aj[w]!):v=w:=by
 rcases cy v w with h1|h1|h1
 · exact absurd h (ok.nd v w h1 hw)
 · exact h1
 exact absurd h.symm (ok.nd w v h1 hv)
theorem set_same {α:Type} [Inhabited α] {l:List α} {k:Nat} {v:α} (h:l[k]! =v):l.set k v=l:=by
 by_cases hk:k<l.length
 · apply wH (by rw [bo])
   intro i hi;rw [aZ];split
   · rename_i e;rw [e.1];exact h.symm
   rfl
 exact cz (by omega)
def uD (x:Ev) (t:Int×Int):Ev:=(t.1,t.2,x.2.2)
noncomputable def lR (a:aO) (i:Nat) (t:Int×Int):aO:=⟨a.ai,(cU a.aj.length (uD a.aj[i]! t) i a.aj a.am).1,(cU a.aj.length (uD a.aj[i]! t) i a.aj a.am).2⟩
theorem PO {a:aO} (ok:fJ a) {i:Nat} (hi:i<a.aj.length) {t:Int×Int} (ht:cS t) (h64:tH t):uC (uD a.aj[i]! t):=by
 have:=ok.ev i hi
 exact ⟨ht,h64,this.2.2.1,this.2.2.2⟩
theorem PP {a:aO} (ok:fJ a) {i:Nat} (hi:i<a.aj.length) (t:Int×Int):IE a.aj.length (uD a.aj[i]! t) (fun e=> ∃w,w<a.aj.length/\w≠i/\a.aj[w]! =e) a.aj a.am i:=by
 obtain ⟨b1,b2,b3,b4,b5⟩:=ok.back hi;refine ⟨hi,bv _,fun w hw hwi=>?_,b1,by rw [ok.wl];exact b2,fun e=>c7⟩
 obtain ⟨c1,c2,c3,c4,c5⟩:=ok.back hw;exact ⟨c1,by rw [ok.wl];exact c2,c5,fun h=>hwi (ok.inj hw hi h)⟩
theorem SQ {a:aO} (ok:fJ a) (i:Nat):IL a.aj.length a.aj i:=
 ⟨fun w hw=>(ok.ev w hw).den,fun k k0 hk _ _=>ok.ord k k0 hk,fun i0 _k k0 hk hp=>ok.grand i0 k0 hk hp⟩
theorem pV {a:aO} (ok:fJ a) {i:Nat} (hi:i<a.aj.length) {t:Int×Int} (ht:cS t):
 GC a.aj.length (uD a.aj[i]! t) (fun e=> ∃w,w<a.aj.length/\w≠i/\a.aj[w]! =e) (fun k=>k≠Ev.n (uD a.aj[i]! t)/\ ∀w,w<a.aj.length->w≠i->Ev.n a.aj[w]!≠k) a.aj a.am (lR a i t).aj (lR a i t).am:=
 E4 (x:=uD a.aj[i]! t) ht.1 (PP ok hi t) (SQ ok i)
theorem LC {a:aO} (ok:fJ a) {i:Nat} (hi:i<a.aj.length) {t:Int×Int} (ht:cS t):(lR a i t).aj.length=a.aj.length/\(lR a i t).am.length=a.am.length:=
 ⟨(pV ok hi ht).hl,(pV ok hi ht).wl⟩
theorem aDy {a:aO} (ok:fJ a) {i:Nat} (hi:i<a.aj.length) {t:Int×Int} (ht:cS t) (e:Ev):e∈(lR a i t).aj↔(e=uD a.aj[i]! t\/(e∈a.aj/\e≠a.aj[i]!)):=by
 have st:=pV ok hi ht;have h1:e∈(lR a i t).aj↔ ∃w,w<a.aj.length/\((lR a i t).aj)[w]! =e:=by
  rw [aY,(LC ok hi ht).1]
 rw [h1];refine (st.mem e).trans ?_;constructor
 · rintro (h|⟨w,hw,hwi,rfl⟩)
   · exact .inl h
   exact .inr ⟨bH hw,fun h=>hwi (ok.inj hw hi (by rw [h]))⟩
 rintro (h|⟨h,hne⟩)
 · exact .inl h
 obtain ⟨w,hw,rfl⟩:=aY.1 h
 exact .inr ⟨w,hw,fun h=>hne (by rw [h]),rfl⟩
theorem aFR {a:aO} (ok:fJ a) {i:Nat} (hi:i<a.aj.length) {t:Int×Int} (ht:cS t) (h64:tH t):fJ (lR a i t):=by
 have st:=pV ok hi ht;have len:=(LC ok hi ht).1;have hx:Ev.ix (uD a.aj[i]! t)=Ev.ix a.aj[i]!:=rfl;have key:=A0 ok.so st (bv _) ok.wl ok.hl (fun j hj hu=>by
  obtain ⟨w,hw,e1,e2⟩:=ok.used_ev hj hu
  by_cases e:w=i
  · subst e;exact ⟨uD a.aj[w]! t,.inl rfl,e1,e2⟩
  · exact ⟨a.aj[w]!,.inr ⟨w,hw,e,rfl⟩,e1,e2⟩) (fun j hj hu=>⟨⟨(ok.no_ev hu hi).symm,fun w hw _=>ok.no_ev hu hw⟩,ok.un j hj hu⟩) (by
  rintro e (rfl|⟨w,hw,_,rfl⟩)
  · exact PO ok hi ht h64
  · exact ok.ev w hw) (by
  rintro e f (rfl|⟨v,hv,hvi,rfl⟩) (rfl|⟨w,hw,hwi,rfl⟩) he
  · rfl
  · exact absurd (ok.nums hi hw he).symm hwi
  · exact absurd (ok.nums hv hi he) hvi
  rw [ok.nums hv hw he])
 have:(lR a i t).aj.take a.aj.length=(lR a i t).aj:=ce (by rw [len];exact bv _)
 show fJ ⟨a.ai,(lR a i t).aj,(lR a i t).am⟩;rw [<- this];exact key
theorem YM {a:aO} (ok:fJ a) (fit:E6 a) {h:Int×Int} {i:Nat} (hi:i<a.aj.length) (hh:(a.aj[i]!).2.2.2=h):sG a h=some ((i:Int),0):=by
 obtain ⟨lv,wv⟩:=ok.handle hi;rw [hh] at lv;unfold sG;rw [nL a fit,if_pos ok];simp only [aB,show ((0:Int) !=0)=false from rfl,cond_false,L9 ok.so,aJ lv,bq]
 have:=lv.2.1;have:=lv.1;have:=ok.wl
 have e:(a.aj[i]!).2.2.2.1=h.1:=by rw [hh]
 rw [eD (l:=a.am) lv.1 (by omega),<- e,wv]
 rfl
theorem MP {a:aO} (ok:fJ a) (fit:E6 a) {h t:Int×Int} {i:Nat} (hi:i<a.aj.length) (hh:(a.aj[i]!).2.2.2=h) (ht:cS t) (h64:tH t):xJ a h t=some (lR a i t,0):=by
 have bd:=ok.bd;obtain ⟨b1,b2,b3,b4,b5⟩:=ok.back hi;unfold xJ;rw [nL a fit,if_pos ok,gQ h64,if_pos ht];have pl:=YM ok fit hi hh;have se:=PI (u:=a.ai.ac) (us:=a.ai.ae) (fr:=a.ai.af) (PO ok hi ht h64) (show 0<=Ev.ix (uD a.aj[i]! t) from b1) ok.cells rfl hi (show Ev.ix (uD a.aj[i]! t)<a.am.length by rw [ok.wl];exact b2)
 have se':fI (a.ai.ac,a.ai.ae,a.ai.af,(i:Int),t.1,t.2,(a.aj[i]!).2.2.1,(a.aj[i]!).2.2.2.1,(a.aj[i]!).2.2.2.2,a.aj,a.am)=some (cU a.aj.length (uD a.aj[i]! t) i a.aj a.am):=se
 simp only [aB,gt_iff_lt,dh,if_false,show ((0:Int) !=0)=false from rfl,cond_false,pl,aT (show a.aj.length<=1048576 by omega),aT (show a.am.length<=1048576 by omega),aD a.aj i hi,se']
 rfl
theorem vG {a:aO} (ok:fJ a):mX a=some a:=by
 have bd:=ok.bd;unfold mX;simp only [AY ok.so,aB,aT (show a.aj.length<=1048576 by omega),aT (show a.am.length<=1048576 by omega)]
theorem LD {a:aO} (ok:fJ a) {h t:Int×Int} {i:Nat} (hi:i<a.aj.length) (hh:(a.aj[i]!).2.2.2=h) (ht:cS t) (h64:tH t):vB a h t=some (lR a i t):=by
 have bd:=ok.bd;obtain ⟨b1,b2,b3,b4,b5⟩:=ok.back hi;obtain ⟨lv,wv⟩:=ok.handle hi;have hx:=PO ok hi ht h64;have x1:Ev.ix (uD a.aj[i]! t)<a.am.length:=by rw [ok.wl];exact b2
 have st:=pV ok hi ht;obtain ⟨j,H1,W1,e1,e3,e4,e5,e6,e7,e8,e9,e10⟩:=M6 (x:=uD a.aj[i]! t) ht.1 i a.aj a.am (PP ok hi t) (SQ ok i);have w1:a.am.set (Ev.n (uD a.aj[i]! t)) (i:Int)=a.am:=set_same b5;unfold vB;rw [vG ok];have g1:aN a.am h.1=some (i:Int):=by
  have e:(a.aj[i]!).2.2.2.1=h.1:=by rw [hh]
  rw [eD (l:=a.am) (i:=h.1) (by rw [<- e];exact b1) (by rw [<- e,ok.wl];exact b2),<- e,wv]
 have u1:sS ((i:Int),a.ai.ac,a.ai.ae,a.ai.af,a.aj.set i (uD a.aj[i]! t),a.am)=some ((j:Int),a.ai.ac,a.ai.ae,a.ai.af,H1.set j (uD a.aj[i]! t),W1.set (Ev.n (uD a.aj[i]! t)) (j:Int)):=by
  unfold sS
  have:=aFN (c0:=((i:Int),a.ai.ac,a.ai.ae,a.ai.af,a.aj.set i (uD a.aj[i]! t),a.am)) (u:=a.ai.ac) (us:=a.ai.ae) (fr:=a.ai.af) hx b1 rfl rfl rfl i a.aj a.am ok.cells hi rfl x1 bo rfl
  rw [w1,e1] at this;exact this
 have cells1:oW a.aj.length H1 W1:=by
  refine ⟨by rw [e5];exact bv _,by omega,fun w hw=>?_⟩
  exact ⟨(E5 ok.cells hi e1 w hw).1,(E5 ok.cells hi e1 w hw).2.1,by rw [e6];exact (E5 ok.cells hi e1 w hw).2.2⟩
 have d1:pF ((j:Int),a.ai.ac,a.ai.ae,a.ai.af,H1.set j (uD a.aj[i]! t),W1.set (Ev.n (uD a.aj[i]! t)) (j:Int))=some (a.ai.ac,a.ai.ae,a.ai.af,(cU a.aj.length (uD a.aj[i]! t) i a.aj a.am).1,(cU a.aj.length (uD a.aj[i]! t) i a.aj a.am).2):=by
  unfold pF
  have:=YI (c0:=((j:Int),a.ai.ac,a.ai.ae,a.ai.af,H1.set j (uD a.aj[i]! t),W1.set (Ev.n (uD a.aj[i]! t)) (j:Int))) (n:=a.aj.length) (u:=a.ai.ac) (us:=a.ai.ae) (fr:=a.ai.af) hx b1 rfl rfl rfl a.aj.length j H1 W1 (by omega) cells1 e3.lt e5 (by rw [e6];exact x1) bo bo
  rw [this];unfold cU;rw [e1]
 have s1:cL a.aj (i:Int) (t.1,t.2,(a.aj[i]!).2.2)=a.aj.set i (uD a.aj[i]! t):=rfl;simp only [aB,g1,aD a.aj i hi,s1,u1,d1];rfl
theorem SS (H:List Ev) (n:Int) (hl:H.length<=1000000):dD H n=some (decide (∃w,w<H.length/\(H[w]!).2.2.1=n)):=by
 unfold dD fD;have key:=lA (body:=dC) (fun i=>(H,n,(H.length:Int),(i:Int))) H.length (fun i=>(H[i]!).2.2.1=n) (fun i=>(i:Int)) (e:= -1) (fun i hi=>by
  have e1:decide ((i:Int)<(H.length:Int))=true:=aJ (by omega)
  unfold dC AV;simp only [e1,cond_true,aD H i hi,aB,aU (show i<1000000000 by omega)]
  constructor
  · intro h;rw [eY h];rfl
  · intro h;rw [eO h];rfl) (by
  unfold dC
  have:decide ((H.length:Int)<(H.length:Int))=false:=dec_f (by omega)
  simp only [this,cond_false])
 rw [aF]
 by_cases hx: ∃w,w<H.length/\(H[w]!).2.2.1=n
 · obtain ⟨k,h1,h2,h3⟩:=G1 hx
   have:=key.1 k h1 h2 h3
   rw [show ((0:Nat):Int)=0 from rfl] at this;rw [this,aJ hx];simp only [aB,aJ (show (0:Int)<=(k:Int) by omega)]
 have:=key.2 fun i hi he=>hx ⟨i,hi,he⟩
 rw [show ((0:Nat):Int)=0 from rfl] at this;rw [this,dec_f hx];rfl
noncomputable def dS (a:aO) (t:Int×Int) (n:Int):Ev:=(t.1,t.2,n,nD a.ai)
noncomputable def nE (a:aO) (t:Int×Int) (n:Int):aO:=
 ⟨iJ a.ai,(cU (a.aj.length+1) (dS a t n) a.aj.length (a.aj++[dS a t n]) a.am).1,(cU (a.aj.length+1) (dS a t n) a.aj.length (a.aj++[dS a t n]) a.am).2⟩
section
variable {a : aO} (ok : fJ a) (op : DW a.ai) {t : Int × Int} (ht : cS t) (h64 : tH t) {n : Int} (n0 : 0 <= n) (n1 : n <= 1000000)
include ok op
theorem JT:Ev.ix (dS a t n)=(dI a.ai:Int)/\dI a.ai<a.ai.ac.length/\a.ai.ae[dI a.ai]! =false/\a.ai.af.length=(iJ a.ai).af.length+1:=by
 obtain ⟨h1,h2,h3⟩:=GA ok.so op.1;refine ⟨rfl,h1,?_,?_⟩
 · have:=ok.so.uf (dI a.ai) h1
   cases h:a.ai.ae[dI a.ai]! with
   |false=>rfl
   |true=>exact absurd h3 (this.1 h)
 show _=(a.ai.af.take (a.ai.af.length-1)).length+1
 have:=op.1
 rw [bz];omega
theorem ST:IE (a.aj.length+1) (dS a t n) (fun e=>e∈a.aj) (a.aj++[dS a t n]) a.am a.aj.length:=by
 obtain ⟨h1,h2,h3,h4⟩:=JT (t:=t) (n:=n) ok op;have cell: ∀w,w<a.aj.length->(a.aj++[dS a t n])[w]! =a.aj[w]!:=fun w hw=>eJ hw
 refine ⟨by omega,by simp,fun w hw hwi=>?_,by rw [h1];omega,by rw [h1,ok.wl];omega,fun e=>?_⟩
 · have hw':w<a.aj.length:=by omega
   rw [cell w hw'];obtain ⟨c1,c2,c3,c4,c5⟩:=ok.back hw';refine ⟨c1,by rw [ok.wl];exact c2,c5,fun h=>?_⟩
   rw [h1] at h
   have:Ev.n a.aj[w]! =dI a.ai:=by show (Ev.ix a.aj[w]!).toNat=_;omega
   exact ok.no_ev h3 hw' this
 constructor
 · rintro ⟨w,hw,hwi,rfl⟩
   rw [cell w (by omega)]
   exact bH (by omega)
 intro h
 obtain ⟨w,hw,rfl⟩:=aY.1 h;exact ⟨w,by omega,by omega,cell w hw⟩
theorem YN (ht:cS t):IL (a.aj.length+1) (a.aj++[dS a t n]) a.aj.length:=by
 have _:=op;have cell: ∀w,w<a.aj.length->(a.aj++[dS a t n])[w]! =a.aj[w]!:=fun w hw=>eJ hw
 refine ⟨fun w hw=>?_,fun k k0 hk k1 k2=>?_,fun i0 k k0 hk hp=>by omega⟩
 · by_cases h:w<a.aj.length
   · rw [cell w h];exact (ok.ev w h).den
   have:w=a.aj.length:=by omega
   subst this;rw [fQ (bv _),c8];exact ht.1
 rw [cell k (by omega),cell _ (by omega)]
 exact ok.ord k k0 (by omega)
theorem C9 (ht:cS t):GC (a.aj.length+1) (dS a t n) (fun e=>e∈a.aj) (fun k=>k≠Ev.n (dS a t n)/\ ∀w,w<a.aj.length+1->w≠a.aj.length->Ev.n (a.aj++[dS a t n])[w]!≠k) (a.aj++[dS a t n]) a.am (nE a t n).aj (nE a t n).am:=
 E4 (x:=dS a t n) ht.1 (ST ok op) (YN ok op ht)
theorem JU (ht:cS t):(nE a t n).aj.length=a.aj.length+1:=by
 have:=(C9 (n:=n) ok op ht).hl
 rw [this];simp
theorem YO (ht:cS t) (e:Ev):e∈(nE a t n).aj↔(e=dS a t n\/e∈a.aj):=by
 have st:=C9 (n:=n) ok op ht;rw [aY,JU ok op ht];exact st.mem e
theorem U8 (ht:cS t) (h64:tH t) (n0:0<=n) (n1:n<=1000000):uC (dS a t n):=by
 have _:=ok;have _:=op;exact ⟨ht,h64,n0,n1⟩
theorem aCp (ht:cS t) (h64:tH t) (n0:0<=n) (n1:n<=1000000) (nn: ∀e∈a.aj,Ev.num e≠n):fJ (nE a t n):=by
 have st:=C9 (n:=n) ok op ht;have len:=JU (n:=n) ok op ht;obtain ⟨h1,h2,h3,h4⟩:=JT (t:=t) (n:=n) ok op;have hu:=ok.so.ul;have ul:(iJ a.ai).ac.length=a.ai.ac.length:=bo;have key:=A0 (aFL ok.so op) st (by simp) (by rw [ul];exact ok.wl) (by rw [ul];have:=ok.hl;omega) (fun j hj hu'=>by
  rw [ul] at hj;change (a.ai.ae.set (dI a.ai) true)[j]! =true at hu';rw [aZ] at hu'
  show∃e:Ev,_/\_/\_=(a.ai.ac.set (dI a.ai) (a.ai.ac[dI a.ai]!+1))[j]!
  rw [aZ]
  by_cases e:j=dI a.ai
  · rw [if_pos ⟨e,h2⟩]
    exact ⟨dS a t n,.inl rfl,by rw [h1,e],rfl⟩
  · rw [if_neg (fun k=>e k.1)]
    rw [if_neg (fun k=>e k.1)] at hu'
    obtain ⟨w,hw,e1,e2⟩:=ok.used_ev hj hu';exact ⟨a.aj[w]!,.inr (bH hw),e1,e2⟩) (fun j hj hu'=>by
  rw [ul] at hj;change (a.ai.ae.set (dI a.ai) true)[j]! =false at hu';rw [aZ] at hu'
  by_cases e:j=dI a.ai
  · rw [if_pos ⟨e,by omega⟩] at hu';cases hu'
  · rw [if_neg (fun k=>e k.1)] at hu'
    refine ⟨⟨?_,fun w hw hwi=>?_⟩,ok.un j hj hu'⟩
    · show j≠(Ev.ix (dS a t n)).toNat
      omega
    rw [eJ (by omega)]
    exact ok.no_ev hu' (by omega)) (by
  rintro e (rfl|h)
  · exact U8 ok op ht h64 n0 n1
  · obtain ⟨w,hw,rfl⟩:=aY.1 h
    exact ok.ev w hw) (by
  rintro e f (rfl|he) (rfl|hf) hn
  · rfl
  · exact absurd hn.symm (nn f hf)
  · exact absurd hn (nn e he)
  obtain ⟨v,hv,rfl⟩:=aY.1 he
  obtain ⟨w,hw,rfl⟩:=aY.1 hf;rw [ok.nums hv hw hn])
 have:(nE a t n).aj.take (a.aj.length+1)=(nE a t n).aj:=ce (by rw [len];exact bv _)
 show fJ ⟨iJ a.ai,(nE a t n).aj,(nE a t n).am⟩;rw [<- this];exact key
theorem PQ (ht:cS t) (h64:tH t) (n0:0<=n) (n1:n<=1000000):oW (a.aj.length+1) (a.aj++[dS a t n]) a.am:=by
 have bd:=ok.bd;obtain ⟨h1,h2,h3,h4⟩:=JT (t:=t) (n:=n) ok op;refine ⟨by simp,by simp;omega,fun w hw=>?_⟩
 by_cases h:w<a.aj.length
 · rw [eJ h];exact ok.cells.ev w h
 have:w=a.aj.length:=by omega
 subst this;rw [fQ (bv _),c8];exact ⟨U8 ok op ht h64 n0 n1,by show 0<=Ev.ix (dS a t n);omega,by show Ev.ix (dS a t n)<_;rw [ok.wl];omega⟩
theorem BT (fit:E6 a) (ht:cS t) (h64:tH t) (n0:0<=n) (n1:n<=1000000) (nn: ∀e∈a.aj,Ev.num e≠n):mQ a t n=some (nE a t n,nD a.ai,0):=by
 have bd:=ok.bd;obtain ⟨h1,h2,h3,h4⟩:=JT (t:=t) (n:=n) ok op;have hn: ¬ ∃w,w<a.aj.length/\(a.aj[w]!).2.2.1=n:=by
  rintro ⟨w,hw,e⟩;exact nn _ (bH hw) e
 unfold mQ;rw [nL a fit,if_pos ok,gQ h64,if_pos ht,SS _ _ (by omega),dec_f hn,JQ ok.so,if_pos op]
 have se:=PI (u:=(iJ a.ai).ac) (us:=(iJ a.ai).ae) (fr:=(iJ a.ai).af) (U8 ok op ht h64 n0 n1) (show 0<=Ev.ix (dS a t n) by omega) (PQ ok op ht h64 n0 n1) (by simp) (show a.aj.length<a.aj.length+1 by omega) (show Ev.ix (dS a t n)<a.am.length by rw [ok.wl];omega)
 have e1:aA .i64 (((a.aj++[dS a t n]).length:Int) -1)=(a.aj.length:Int):=by rw [wi,cw];simp;omega
 have ap:bN a.aj [(t.1,t.2,n,nD a.ai)]=some (a.aj++[dS a t n]):=cI (by simp;omega)
 have se':fI ((iJ a.ai).ac,(iJ a.ai).ae,(iJ a.ai).af,(a.aj.length:Int),t.1,t.2,n,(nD a.ai).1,(nD a.ai).2,a.aj++[dS a t n],a.am)=some (cU (a.aj.length+1) (dS a t n) a.aj.length (a.aj++[dS a t n]) a.am):=se
 simp only [aB,gt_iff_lt,dh,if_false,show ((0:Int) !=0)=false from rfl,cond_false,dec_f (show¬n<0 by omega),dec_f (show¬1000000<n by omega),aT (show a.aj.length<=1048576 by omega),aT (show a.am.length<=1048576 by omega),ap,aF,e1,se']
 rfl
theorem DX (ht:cS t) (h64:tH t) (n0:0<=n) (n1:n<=1000000):fE a t n=some (nE a t n,nD a.ai):=by
 have bd:=ok.bd;obtain ⟨h1,h2,h3,h4⟩:=JT (t:=t) (n:=n) ok op;unfold fE;rw [vG ok];have e1:aA .i64 (((a.aj++[dS a t n]).length:Int) -1)=(a.aj.length:Int):=by rw [wi,cw];simp;omega
 have ap:bN a.aj [(t.1,t.2,n,nD a.ai)]=some (a.aj++[dS a t n]):=cI (by simp;omega)
 have hx:=U8 (n:=n) ok op ht h64 n0 n1;have last:cU (a.aj.length+1) (dS a t n) a.aj.length (a.aj++[dS a t n]) a.am=_:=YG (x:=dS a t n) ht.1 (ST ok op) (YN ok op ht) (fun k k0 hk hp=>by omega)
 have hs:(a.aj++[dS a t n]).set a.aj.length (dS a t n)=a.aj++[dS a t n]:=set_same (by rw [fQ (bv _),c8];rfl)
 have ws:cL a.am (nD a.ai).1 (a.aj.length:Int)=a.am.set (Ev.n (dS a t n)) (a.aj.length:Int):=rfl
 have u1:sU ((iJ a.ai).ac,(iJ a.ai).ae,(iJ a.ai).af,(a.aj.length:Int),a.aj++[dS a t n],a.am.set (Ev.n (dS a t n)) (a.aj.length:Int))=some (((kH (dS a t n) a.aj.length (a.aj++[dS a t n]) a.am).1:Int),(kH (dS a t n) a.aj.length (a.aj++[dS a t n]) a.am).2.1.set (kH (dS a t n) a.aj.length (a.aj++[dS a t n]) a.am).1 (dS a t n),(kH (dS a t n) a.aj.length (a.aj++[dS a t n]) a.am).2.2.set (Ev.n (dS a t n)) ((kH (dS a t n) a.aj.length (a.aj++[dS a t n]) a.am).1:Int)):=by
  unfold sU
  have:=aFP (c0:=((iJ a.ai).ac,(iJ a.ai).ae,(iJ a.ai).af,(a.aj.length:Int),a.aj++[dS a t n],a.am.set (Ev.n (dS a t n)) (a.aj.length:Int))) (u:=(iJ a.ai).ac) (us:=(iJ a.ai).ae) (fr:=(iJ a.ai).af) hx (show 0<=Ev.ix (dS a t n) by omega) a.aj.length (a.aj++[dS a t n]) a.am (PQ ok op ht h64 n0 n1) (by omega) (by simp) (by rw [ok.wl];omega) rfl bo
  rw [hs] at this;exact this
 have g1:aN a.am (nD a.ai).1=some a.am[dI a.ai]!:=aD a.am (dI a.ai) (by rw [ok.wl];exact h2)
 simp only [aB,PE ok.so op,ap,g1,aF,e1,ws,u1];unfold nE;rw [last]
end
theorem BU {a:aO} (ok:fJ a) (op: ¬DW a.ai) (fit:E6 a) {t:Int×Int} (ht:cS t) (h64:tH t) {n:Int} (n0:0<=n) (n1:n<=1000000) (nn: ∀e∈a.aj,Ev.num e≠n):mQ a t n=some (⟨⟨[],[],[]⟩,[],[]⟩,(0,0),18):=by
 have bd:=ok.bd;have hn: ¬ ∃w,w<a.aj.length/\(a.aj[w]!).2.2.1=n:=by
  rintro ⟨w,hw,e⟩;exact nn _ (bH hw) e
 unfold mQ;rw [nL a fit,if_pos ok,gQ h64,if_pos ht,SS _ _ (by omega),dec_f hn,JQ ok.so,if_neg op]
 simp only [aB,gt_iff_lt,dh,if_false,show ((0:Int) !=0)=false from rfl,cond_false,dec_f (show¬n<0 by omega),dec_f (show¬1000000<n by omega),show ((18:Int) !=0)=true from rfl,cond_true]
theorem AI {l:List Ev} {n i:Nat} {v:Ev}:(l.set i v).take n=(l.take n).set i v:=by
 apply List.ext_getElem?;intro j;rw [dj,dt,dt,dj,bz]
 by_cases h1:j<n
 · rw [if_pos h1]
   by_cases h2:i=j
   · subst h2
     by_cases h3:i<l.length
     · rw [if_pos rfl,if_pos h3,if_pos rfl,if_pos (by omega)]
     rw [if_pos rfl,if_neg h3,if_pos rfl,if_neg (by omega)]
   rw [if_neg h2,if_neg h2,if_pos h1]
 rw [if_neg h1]
 by_cases h2:i=j
 · rw [if_pos h2,if_neg (by omega)]
 rw [if_neg h2,if_neg h1]
theorem YP {n:Nat} {x:Ev}: ∀(i:Nat) (H:List Ev) (W:List Int),i<n->kH x i (H.take n) W=((kH x i H W).1,(kH x i H W).2.1.take n,(kH x i H W).2.2)
 |0,H,W,hi=>by rw [kH,kH]
 |i+1,H,W,hi=>by
  have e:(H.take n)[i / 2]! =H[i / 2]!:=kQ (by omega)
  rw [kH,kH,e]
  by_cases h:eB x H[i / 2]!
  · rw [if_pos h,if_pos h,<- AI]
    exact YP (i / 2) _ _ (by omega)
  rw [if_neg h,if_neg h]
termination_by i=>i
decreasing_by omega
theorem aFS {x:Ev}: ∀(i:Nat) (H:List Ev) (W:List Int),(kH x i H W).1<=i
 |0,H,W=>by rw [kH];exact bv _
 |i+1,H,W=>by
  rw [kH];split
  · exact eh (aFS (i / 2) _ _) (by omega)
  exact bv _
termination_by i=>i
decreasing_by omega
theorem PR {n:Nat} {H:List Ev} {i:Nat} (hk:2*i+1<n):iX n (H.take n) i=iX n H i:=by
 unfold iX
 by_cases h:2*i+2<n
 · rw [kQ h,kQ (show 2*i+1<n by omega)]
 rw [if_neg (fun k=>h k.1),if_neg (fun k=>h k.1)]
theorem YQ {n:Nat} {x:Ev} {i:Nat} {H:List Ev} {W:List Int} (h:2*i+1<n) (hl:eB H[iX n H i]! x):eG n x i H W=eG n x (iX n H i) (H.set i H[iX n H i]!) (W.set (H[iX n H i]!).n (i:Int)):=by
 rw [eG,dif_pos h,if_pos hl]
theorem DA {n:Nat} {x:Ev} {i:Nat} {H:List Ev} {W:List Int} (h: ¬(2*i+1<n/\eB H[iX n H i]! x)):eG n x i H W=(i,H,W):=by
 rw [eG];split
 · rename_i h1;rw [if_neg (fun k=>h ⟨h1,k⟩)]
 rfl
theorem PS {n : Nat} {x : Ev} : ∀ (d i : Nat) (H : List Ev) (W : List Int), n - i <= d -> eG n x i (H.take n) W = ((eG n x i H W).1, (eG n x i H W).2.1.take n, (eG n x i H W).2.2)
  | 0, i, H, W, hd => by
    rw [DA (fun h => by omega), DA (fun h => by omega)]
  | d + 1, i, H, W, hd => by
    have kc := rJ n H i
    by_cases h : 2 * i + 1 < n /\ eB H[iX n H i]! x
    · have e : (H.take n)[iX n (H.take n) i]! = H[iX n H i]! := by rw [PR h.1, kQ (by omega)]
      rw [YQ h.1 h.2, YQ (H := H.take n) h.1 (by rw [e]; exact h.2), e, PR h.1, <- AI]
      exact PS d _ _ _ (by omega)
    have h' : ¬ (2 * i + 1 < n /\ eB (H.take n)[iX n (H.take n) i]! x) := by
      rintro ⟨k1, k2⟩
      rw [PR k1, kQ (by omega)] at k2
      exact h ⟨k1, k2⟩
    rw [DA h, DA h']
theorem aCq {x:Ev}: ∀(i:Nat) (H:List Ev) (W:List Int),(kH x i H W).2.1.length=H.length/\(kH x i H W).2.2.length=W.length
 |0,H,W=>by rw [kH];exact ⟨rfl,rfl⟩
 |i+1,H,W=>by
  rw [kH];split
  · have:=aCq (x:=x) (i / 2) (H.set (i+1) H[i / 2]!) (W.set (H[i / 2]!).n ((i+1:Nat):Int))
    rwa [bo,bo] at this
  exact ⟨rfl,rfl⟩
termination_by i=>i
decreasing_by omega
theorem JV {n:Nat} {x:Ev} {i:Nat} {H:List Ev} {W:List Int} (hi:i<n):cU n x i (H.take n) W=((cU n x i H W).1.take n,(cU n x i H W).2):=by
 unfold cU;rw [YP i H W hi];dsimp only;rw [PS n _ _ _ (by omega)]
 dsimp only;rw [AI]
noncomputable def eZ (a:aO) (i:Nat):aO:=
 if i<a.aj.length-1 then ⟨gG a.ai (a.aj[i]!).2.2.2,(cU (a.aj.length-1) a.aj[a.aj.length-1]! i a.aj (a.am.set (Ev.n a.aj[i]!) (-1))).1.take (a.aj.length-1),(cU (a.aj.length-1) a.aj[a.aj.length-1]! i a.aj (a.am.set (Ev.n a.aj[i]!) (-1))).2⟩
 else ⟨gG a.ai (a.aj[i]!).2.2.2,a.aj.take (a.aj.length-1),a.am.set (Ev.n a.aj[i]!) (-1)⟩
section
variable {a : aO} (ok : fJ a) {i : Nat} (hi : i < a.aj.length)
include ok hi
theorem BV {w:Nat} (hw:w<a.aj.length) (hne:w≠i):Ev.n a.aj[w]!≠Ev.n a.aj[i]!:=by
 have h1:=(ok.back hw).1;have h2:=(ok.back hi).1;exact aWS h1 h2 fun h=>hne (ok.inj hw hi h)
theorem SU:oW (a.aj.length-1) a.aj (a.am.set (Ev.n a.aj[i]!) (-1)):=by
 have c:=ok.cells;refine ⟨by omega,c.hb,fun w hw=>?_⟩
 rw [bo];exact c.ev w (by omega)
theorem aFT (hlt:i<a.aj.length-1):IE (a.aj.length-1) a.aj[a.aj.length-1]! (fun e=> ∃w,w<a.aj.length-1/\w≠i/\a.aj[w]! =e) a.aj (a.am.set (Ev.n a.aj[i]!) (-1)) i:=by
 obtain ⟨b1,b2,b3,b4,b5⟩:=ok.back (show a.aj.length-1<a.aj.length by omega)
 refine ⟨hlt,by omega,fun w hw hwi=>?_,b1,by rw [bo,ok.wl];exact b2,fun e=>c7⟩
 obtain ⟨c1,c2,c3,c4,c5⟩:=ok.back (show w<a.aj.length by omega)
 refine ⟨c1,by rw [bo,ok.wl];exact c2,?_,fun h=>?_⟩
 · rw [aZ,if_neg (fun h=>BV ok hi (show w<a.aj.length by omega) hwi h.1)]
   exact c5
 have:=ok.inj (show w<a.aj.length by omega) (show a.aj.length-1<a.aj.length by omega) h
 omega
theorem aNw:IL (a.aj.length-1) a.aj i:=
 ⟨fun w hw=>(ok.ev w (by omega)).den,fun k k0 hk _ _=>ok.ord k k0 (by omega),fun i0 k k0 hk hp=>ok.grand i0 k0 (by omega) hp⟩
theorem MA (hlt:i<a.aj.length-1):
 GC (a.aj.length-1) a.aj[a.aj.length-1]! (fun e=> ∃w,w<a.aj.length-1/\w≠i/\a.aj[w]! =e) (fun k=>k≠Ev.n a.aj[a.aj.length-1]!/\ ∀w,w<a.aj.length-1->w≠i->Ev.n a.aj[w]!≠k) a.aj (a.am.set (Ev.n a.aj[i]!) (-1))
  (cU (a.aj.length-1) a.aj[a.aj.length-1]! i a.aj (a.am.set (Ev.n a.aj[i]!) (-1))).1 (cU (a.aj.length-1) a.aj[a.aj.length-1]! i a.aj (a.am.set (Ev.n a.aj[i]!) (-1))).2:=
 E4 (ok.ev (a.aj.length-1) (by omega)).den (aFT ok hi hlt) (aNw ok hi)
theorem SW:fK (gG a.ai (a.aj[i]!).2.2.2):=aFK ok.so (ok.handle hi).1
theorem E8 {j:Nat} (hj:j<a.ai.ac.length):(gG a.ai (a.aj[i]!).2.2.2).ae[j]! =if j=Ev.n a.aj[i]! then false else a.ai.ae[j]!:=by
 have _:=hi;show (a.ai.ae.set (Ev.n a.aj[i]!) false)[j]! =_;rw [aZ]
 have:=ok.so.ul
 by_cases e:j=Ev.n a.aj[i]!
 · rw [if_pos ⟨e,by omega⟩,if_pos e]
 rw [if_neg (fun k=>e k.1),if_neg e]
theorem LE:fJ (eZ a i):=by
 have hb:=ok.back hi;have hl:a.aj.length-1+(gG a.ai (a.aj[i]!).2.2.2).af.length=a.ai.ac.length:=by
  show a.aj.length-1+(a.ai.af++[_]).length=_;rw [cw]
  have:=ok.hl
  simp only [dv,dz];omega
 have un: ∀j,j<a.ai.ac.length->(gG a.ai (a.aj[i]!).2.2.2).ae[j]! =false->(a.am.set (Ev.n a.aj[i]!) (-1))[j]! = -1:=by
  intro j hj hu;rw [E8 ok hi hj] at hu;rw [aZ]
  by_cases e:j=Ev.n a.aj[i]!
  · rw [if_pos ⟨e.symm▸rfl,by rw [ok.wl];omega⟩]
  rw [if_neg e] at hu
  rw [if_neg (fun k=>e k.1)]
  exact ok.un j hj hu
 unfold eZ
 by_cases hlt:i<a.aj.length-1
 · rw [if_pos hlt]
   have st:=MA ok hi hlt;refine A0 (SW ok hi) st (by omega) (by rw [bo];exact ok.wl) hl (fun j hj hu=>?_) (fun j hj hu=>⟨⟨?_,fun w hw hwi=>?_⟩,un j hj hu⟩) ?_ ?_
   · change j<a.ai.ac.length at hj
     rw [E8 ok hi hj] at hu
     by_cases e:j=Ev.n a.aj[i]!
     · rw [if_pos e] at hu;cases hu
     rw [if_neg e] at hu
     obtain ⟨w,hw,e1,e2⟩:=ok.used_ev hj hu;refine ⟨a.aj[w]!,?_,e1,e2⟩
     by_cases hl':w=a.aj.length-1
     · left;rw [hl']
     refine .inr ⟨w,by omega,fun h=>e ?_,rfl⟩
     rw [<- h];show j=(Ev.ix a.aj[w]!).toNat;omega
   · change j<a.ai.ac.length at hj
     rw [E8 ok hi hj] at hu
     by_cases e:j=Ev.n a.aj[i]!
     · rw [e];exact (BV ok hi (by omega) (by omega)).symm
     rw [if_neg e] at hu
     exact (ok.no_ev hu (by omega)).symm
   · change j<a.ai.ac.length at hj
     rw [E8 ok hi hj] at hu
     by_cases e:j=Ev.n a.aj[i]!
     · rw [e];exact BV ok hi (by omega) hwi
     rw [if_neg e] at hu
     exact ok.no_ev hu (by omega)
   · rintro e (rfl|⟨w,hw,_,rfl⟩)
     · exact ok.ev _ (by omega)
     exact ok.ev w (by omega)
   rintro e f (rfl|⟨v,hv,hvi,rfl⟩) (rfl|⟨w,hw,hwi,rfl⟩) he
   · rfl
   · rw [ok.nums (by omega) (by omega) he]
   · rw [ok.nums (by omega) (by omega) he]
   rw [ok.nums (by omega) (by omega) he]
 rw [if_neg hlt]
 have hie:i=a.aj.length-1:=by omega
 refine aOq (SW ok hi) (fun e=> ∃w,w<a.aj.length-1/\a.aj[w]! =e) (by omega) (by rw [bo];exact ok.wl) hl (fun w hw=>?_) (fun e=>c7) (fun k k0 hk=>ok.ord k k0 (by omega)) (fun j hj hu=>?_) un ?_ ?_
 · obtain ⟨c1,c2,c3,c4,c5⟩:=ok.back (show w<a.aj.length by omega)
   refine ⟨c1,by rw [bo,ok.wl];exact c2,?_⟩
   rw [aZ,if_neg (fun h=>BV ok hi (show w<a.aj.length by omega) (by omega) h.1)]
   exact c5
 · change j<a.ai.ac.length at hj
   rw [E8 ok hi hj] at hu
   by_cases e:j=Ev.n a.aj[i]!
   · rw [if_pos e] at hu;cases hu
   rw [if_neg e] at hu
   obtain ⟨w,hw,e1,e2⟩:=ok.used_ev hj hu;refine ⟨a.aj[w]!,⟨w,?_,rfl⟩,e1,e2⟩
   have:w≠i:=fun h=>e (by rw [<- h];show j=(Ev.ix a.aj[w]!).toNat;omega)
   omega
 · rintro e ⟨w,hw,rfl⟩
   exact ok.ev w (by omega)
 rintro e f ⟨v,hv,rfl⟩ ⟨w,hw,rfl⟩ he
 rw [ok.nums (by omega) (by omega) he]
theorem PU (e:Ev):e∈(eZ a i).aj↔(e∈a.aj/\e≠a.aj[i]!):=by
 have other: ∀w,w<a.aj.length->(a.aj[w]!≠a.aj[i]!↔w≠i):=fun w hw=>⟨fun h k=>h (by rw [k]),fun h k=>h (ok.inj hw hi (by rw [k]))⟩
 unfold eZ
 by_cases hlt:i<a.aj.length-1
 · rw [if_pos hlt]
   have st:=MA ok hi hlt;show e∈(_:List Ev).take _↔_;rw [G5 (by rw [st.hl];omega)]
   refine (st.mem e).trans ?_;constructor
   · rintro (h|⟨w,hw,hwi,rfl⟩)
     · rw [h];exact ⟨bH (by omega),(other _ (by omega)).2 (by omega)⟩
     exact ⟨bH (by omega),(other _ (by omega)).2 hwi⟩
   rintro ⟨h,hne⟩
   obtain ⟨w,hw,rfl⟩:=aY.1 h
   by_cases c:w=a.aj.length-1
   · left;rw [c]
   exact .inr ⟨w,by omega,(other w hw).1 hne,rfl⟩
 rw [if_neg hlt]
 show e∈a.aj.take _↔_;rw [G5 (by omega)]
 constructor
 · rintro ⟨w,hw,rfl⟩
   exact ⟨bH (by omega),(other _ (by omega)).2 (by omega)⟩
 rintro ⟨h,hne⟩
 obtain ⟨w,hw,rfl⟩:=aY.1 h
 have:=(other w hw).1 hne
 exact ⟨w,by omega,rfl⟩
theorem LF:uQ a (i:Int)=some (eZ a i,a.aj[i]!,0):=by
 have bd:=ok.bd;obtain ⟨b1,b2,b3,b4,b5⟩:=ok.back hi;obtain ⟨c1,c2,c3,c4,c5⟩:=ok.back (show a.aj.length-1<a.aj.length by omega)
 unfold uQ;have e1:aA .i64 ((a.aj.length:Int) -1)=((a.aj.length-1:Nat):Int):=qF (by omega) (by omega)
 have g1:aN a.am (a.aj[i]!).2.2.2.1=some a.am[(a.aj[i]!).2.2.2.1.toNat]!:=eD b1 (by rw [ok.wl];exact b2)
 have ws:cL a.am (a.aj[i]!).2.2.2.1 (-1)=a.am.set (Ev.n a.aj[i]!) (-1):=rfl
 simp only [aD a.aj i hi,aB,U2 ok.so (ok.handle hi).1,show ((0:Int) !=0)=false from rfl,cond_false,aT (show a.aj.length<=1048576 by omega),aT (show a.am.length<=1048576 by omega),aF,e1,aD a.aj (a.aj.length-1) (by omega),mF a.aj (a.aj.length-1) (by omega),g1,ws,bu]
 unfold eZ
 by_cases hlt:i<a.aj.length-1
 · rw [aJ (by omega),if_pos hlt]
   have se:=aAQ (cap:=a.aj.length) (u:=(gG a.ai (a.aj[i]!).2.2.2).ac) (us:=(gG a.ai (a.aj[i]!).2.2.2).ae) (fr:=(gG a.ai (a.aj[i]!).2.2.2).af) (ok.ev (a.aj.length-1) (by omega)) (show 0<=Ev.ix a.aj[a.aj.length-1]! from c1) (SU ok hi) hlt (show Ev.ix a.aj[a.aj.length-1]!<_ by rw [bo,ok.wl];exact c2)
   rw [se];rfl
 rw [dec_f (by omega),if_neg hlt]
 rfl
theorem BW (fit:E6 a) {h:Int×Int} (hh:(a.aj[i]!).2.2.2=h):nP a h=some (eZ a i,a.aj[i]!,0):=by
 unfold nP;rw [YM ok fit hi hh];simp only [aB,show ((0:Int) !=0)=false from rfl,cond_false,LF ok hi]
theorem BX {h:Int×Int} (hh:(a.aj[i]!).2.2.2=h):lE a h=some (eZ a i):=by
 have bd:=ok.bd;subst hh;obtain ⟨b1,b2,b3,b4,b5⟩:=ok.back hi;obtain ⟨c1,c2,c3,c4,c5⟩:=ok.back (show a.aj.length-1<a.aj.length by omega)
 unfold lE;rw [vG ok];have e1:aA .i64 ((a.aj.length:Int) -1)=((a.aj.length-1:Nat):Int):=qF (by omega) (by omega)
 have g1:aN a.am (a.aj[i]!).2.2.2.1=some (i:Int):=by
  rw [eD (l:=a.am) b1 (by rw [ok.wl];exact b2)]
  exact congrArg some b5
 have gv:=PD ok.so (ok.handle hi).1;simp only [aB,g1,aF,e1,bu];unfold eZ
 by_cases hlt:i<a.aj.length-1
 · rw [cN (show (i:Int)≠((a.aj.length-1:Nat):Int) by omega),if_pos hlt]
   have hne:a.aj.length-1≠i:=by omega
   have nn:Ev.n a.aj[a.aj.length-1]!≠Ev.n a.aj[i]!:=BV ok hi (by omega) hne
   have sw:=JS (n:=a.aj.length) (x:=a.aj[i]!) (u:=a.ai.ac) (us:=a.ai.ae) (fr:=a.ai.af) (H:=a.aj) (W:=a.am) hi (show a.aj.length-1<a.aj.length by omega) hne rfl b1 (by rw [ok.wl];exact b2) c1 (by rw [ok.wl];exact c2)
   rw [set_same (l:=a.aj) rfl,set_same (l:=a.am) b5] at sw;have hs:(a.aj.set i a.aj[a.aj.length-1]!).set (a.aj.length-1) a.aj[i]! =(a.aj.set (a.aj.length-1) a.aj[i]!).set i a.aj[a.aj.length-1]!:=ec _ _ (by omega)
   have ws:cL ((a.am.set (Ev.n a.aj[a.aj.length-1]!) (i:Int)).set (Ev.n a.aj[i]!) ((a.aj.length-1:Nat):Int)) (a.aj[i]!).2.2.2.1 (-1)=(a.am.set (Ev.n a.aj[i]!) (-1)).set (Ev.n a.aj[a.aj.length-1]!) (i:Int):=by
    show ((a.am.set (Ev.n a.aj[a.aj.length-1]!) (i:Int)).set (Ev.n a.aj[i]!) ((a.aj.length-1:Nat):Int)).set (Ev.n a.aj[i]!) (-1)=_;rw [List.set_set,ec _ _ nn]
   have g2:aN ((a.am.set (Ev.n a.aj[a.aj.length-1]!) (i:Int)).set (Ev.n a.aj[i]!) ((a.aj.length-1:Nat):Int)) (a.aj[i]!).2.2.2.1=some _:=eD b1 (by rw [bo,bo,ok.wl];exact b2)
   have cells:oW (a.aj.length-1) (a.aj.set (a.aj.length-1) a.aj[i]!) (a.am.set (Ev.n a.aj[i]!) (-1)):=by
    refine ⟨by rw [bo];omega,by rw [bo];omega,fun w hw=>?_⟩
    rw [aZ,if_neg (by omega)]
    exact (SU ok hi).ev w hw
   have x1:Ev.ix a.aj[a.aj.length-1]!<(a.am.set (Ev.n a.aj[i]!) (-1)).length:=by rw [bo,ok.wl];exact c2
   have hx:=ok.ev (a.aj.length-1) (by omega)
   have gv':rH (bC.mk a.ai.ac a.ai.ae a.ai.af) (a.aj[i]!).2.2.2=some (gG a.ai (a.aj[i]!).2.2.2):=gv;have tk:(a.aj.set (a.aj.length-1) a.aj[i]!).take (a.aj.length-1)=a.aj.take (a.aj.length-1):=by rw [AI];exact cz (by rw [bz];omega)
   have U:oU ((gG a.ai (a.aj[i]!).2.2.2).ac,(gG a.ai (a.aj[i]!).2.2.2).ae,(gG a.ai (a.aj[i]!).2.2.2).af,a.aj.length-1,((a.aj.set (a.aj.length-1) a.aj[i]!).set i a.aj[a.aj.length-1]!).length,(i:Int),(a.aj.set (a.aj.length-1) a.aj[i]!).set i a.aj[a.aj.length-1]!,(a.am.set (Ev.n a.aj[i]!) (-1)).set (Ev.n a.aj[a.aj.length-1]!) (i:Int))=
    some (((kH a.aj[a.aj.length-1]! i (a.aj.set (a.aj.length-1) a.aj[i]!) (a.am.set (Ev.n a.aj[i]!) (-1))).1:Int),(kH a.aj[a.aj.length-1]! i (a.aj.set (a.aj.length-1) a.aj[i]!) (a.am.set (Ev.n a.aj[i]!) (-1))).2.1.set (kH a.aj[a.aj.length-1]! i (a.aj.set (a.aj.length-1) a.aj[i]!) (a.am.set (Ev.n a.aj[i]!) (-1))).1 a.aj[a.aj.length-1]!,(kH a.aj[a.aj.length-1]! i (a.aj.set (a.aj.length-1) a.aj[i]!) (a.am.set (Ev.n a.aj[i]!) (-1))).2.2.set (Ev.n a.aj[a.aj.length-1]!) ((kH a.aj[a.aj.length-1]! i (a.aj.set (a.aj.length-1) a.aj[i]!) (a.am.set (Ev.n a.aj[i]!) (-1))).1:Int)):=by
    unfold oU
    exact aFM (n:=a.aj.length-1) (c0:=((gG a.ai (a.aj[i]!).2.2.2).ac,(gG a.ai (a.aj[i]!).2.2.2).ae,(gG a.ai (a.aj[i]!).2.2.2).af,a.aj.length-1,((a.aj.set (a.aj.length-1) a.aj[i]!).set i a.aj[a.aj.length-1]!).length,(i:Int),(a.aj.set (a.aj.length-1) a.aj[i]!).set i a.aj[a.aj.length-1]!,(a.am.set (Ev.n a.aj[i]!) (-1)).set (Ev.n a.aj[a.aj.length-1]!) (i:Int))) hx c1 i _ _ cells hlt x1 bo bo
   have ul:=aFS (x:=a.aj[a.aj.length-1]!) i (a.aj.set (a.aj.length-1) a.aj[i]!) (a.am.set (Ev.n a.aj[i]!) (-1));have un:=aCq (x:=a.aj[a.aj.length-1]!) i (a.aj.set (a.aj.length-1) a.aj[i]!) (a.am.set (Ev.n a.aj[i]!) (-1));have uc:=fun w hw=>E5 (x:=a.aj[a.aj.length-1]!) cells hlt (i:=i) rfl w hw
   have cells1:oW (a.aj.length-1) (kH a.aj[a.aj.length-1]! i (a.aj.set (a.aj.length-1) a.aj[i]!) (a.am.set (Ev.n a.aj[i]!) (-1))).2.1 (kH a.aj[a.aj.length-1]! i (a.aj.set (a.aj.length-1) a.aj[i]!) (a.am.set (Ev.n a.aj[i]!) (-1))).2.2:=by
    refine ⟨by rw [un.1,bo];omega,by rw [un.1,bo];omega,fun w hw=>?_⟩
    rw [un.2];exact uc w hw
   have D:mC ((gG a.ai (a.aj[i]!).2.2.2).ac,(gG a.ai (a.aj[i]!).2.2.2).ae,(gG a.ai (a.aj[i]!).2.2.2).af,a.aj.length-1,((a.aj.set (a.aj.length-1) a.aj[i]!).set i a.aj[a.aj.length-1]!).length,((kH a.aj[a.aj.length-1]! i (a.aj.set (a.aj.length-1) a.aj[i]!) (a.am.set (Ev.n a.aj[i]!) (-1))).1:Int),(kH a.aj[a.aj.length-1]! i (a.aj.set (a.aj.length-1) a.aj[i]!) (a.am.set (Ev.n a.aj[i]!) (-1))).2.1.set (kH a.aj[a.aj.length-1]! i (a.aj.set (a.aj.length-1) a.aj[i]!) (a.am.set (Ev.n a.aj[i]!) (-1))).1 a.aj[a.aj.length-1]!,(kH a.aj[a.aj.length-1]! i (a.aj.set (a.aj.length-1) a.aj[i]!) (a.am.set (Ev.n a.aj[i]!) (-1))).2.2.set (Ev.n a.aj[a.aj.length-1]!) ((kH a.aj[a.aj.length-1]! i (a.aj.set (a.aj.length-1) a.aj[i]!) (a.am.set (Ev.n a.aj[i]!) (-1))).1:Int))=
    some (cU (a.aj.length-1) a.aj[a.aj.length-1]! i (a.aj.set (a.aj.length-1) a.aj[i]!) (a.am.set (Ev.n a.aj[i]!) (-1))):=by
    unfold mC
    exact YH (n:=a.aj.length-1) (c0:=((gG a.ai (a.aj[i]!).2.2.2).ac,(gG a.ai (a.aj[i]!).2.2.2).ae,(gG a.ai (a.aj[i]!).2.2.2).af,a.aj.length-1,((a.aj.set (a.aj.length-1) a.aj[i]!).set i a.aj[a.aj.length-1]!).length,((kH a.aj[a.aj.length-1]! i (a.aj.set (a.aj.length-1) a.aj[i]!) (a.am.set (Ev.n a.aj[i]!) (-1))).1:Int),(kH a.aj[a.aj.length-1]! i (a.aj.set (a.aj.length-1) a.aj[i]!) (a.am.set (Ev.n a.aj[i]!) (-1))).2.1.set (kH a.aj[a.aj.length-1]! i (a.aj.set (a.aj.length-1) a.aj[i]!) (a.am.set (Ev.n a.aj[i]!) (-1))).1 a.aj[a.aj.length-1]!,(kH a.aj[a.aj.length-1]! i (a.aj.set (a.aj.length-1) a.aj[i]!) (a.am.set (Ev.n a.aj[i]!) (-1))).2.2.set (Ev.n a.aj[a.aj.length-1]!) ((kH a.aj[a.aj.length-1]! i (a.aj.set (a.aj.length-1) a.aj[i]!) (a.am.set (Ev.n a.aj[i]!) (-1))).1:Int))) hx c1 a.aj.length (kH a.aj[a.aj.length-1]! i (a.aj.set (a.aj.length-1) a.aj[i]!) (a.am.set (Ev.n a.aj[i]!) (-1))).1 (kH a.aj[a.aj.length-1]! i (a.aj.set (a.aj.length-1) a.aj[i]!) (a.am.set (Ev.n a.aj[i]!) (-1))).2.1 (kH a.aj[a.aj.length-1]! i (a.aj.set (a.aj.length-1) a.aj[i]!) (a.am.set (Ev.n a.aj[i]!) (-1))).2.2 (by omega) cells1 (by omega) (by rw [un.2];exact x1) bo bo
   have st:=JV (n:=(a.aj.length-1)) (x:=a.aj[a.aj.length-1]!) (i:=i) (H:=(a.aj.set (a.aj.length-1) a.aj[i]!)) (W:=(a.am.set (Ev.n a.aj[i]!) (-1))) hlt;have st2:=JV (n:=(a.aj.length-1)) (x:=a.aj[a.aj.length-1]!) (i:=i) (H:=a.aj) (W:=(a.am.set (Ev.n a.aj[i]!) (-1))) hlt;rw [tk,st2] at st;injection st with st1 st3
   simp only [cond_true,sw,aB,mF _ (a.aj.length-1) (show a.aj.length-1<=((a.aj.set (a.aj.length-1) a.aj[i]!).set i a.aj[a.aj.length-1]!).length by rw [bo,bo];omega),g2,gv',ws,hs,U,D,<- st1,<- st3]
 rw [bF (show (i:Int)=((a.aj.length-1:Nat):Int) by omega),if_neg hlt]
 have ws:cL a.am (a.aj[i]!).2.2.2.1 (-1)=a.am.set (Ev.n a.aj[i]!) (-1):=rfl;simp only [cond_false,mF a.aj (a.aj.length-1) (by omega),aB,gv,ws]
end
abbrev wU:=Int×Int×Int
theorem fJ.fit {a:aO} (ok:fJ a):E6 a:=by
 have bd:=ok.bd
 have:=ok.so.fl
 have:=ok.so.n2
 exact ⟨by omega,by omega,by omega,fun w hw=>(ok.ev w hw).2.1⟩
theorem vH (l:List wU) (id:Int) (hl:l.length<=1000000) (hs: ∀i j,i<j->j<l.length->(l[i]!).1<(l[j]!).1):
 (∀k,k<l.length->(l[k]!).1=id->aR l id ()=some ((k:Int),true))/\
 ((∀k,k<l.length->(l[k]!).1≠id)-> ∃m,m<=l.length/\(∀i,i<m->(l[i]!).1<id)/\(∀i,m<=i->i<l.length->id<(l[i]!).1)/\aR l id ()=some ((m:Int),false)):=by
 obtain ⟨m,m1,m2,m3⟩:=YF (fun i=>(l[i]!).1) id l.length hs
 have run:aR l id ()=aH aS (l,id,(l.length:Int),(m:Int),(m:Int)):=by
  unfold aR;refine K9 (body:=aS) (fun lo hi=>(l,id,(l.length:Int),(lo:Int),(hi:Int))) l.length m (fun i=>(l[i]!).1<id) (fun lo hi h1 h2=>?_) m2 (fun i h1 h2 h3=>by have:=m3 i h1 h2;omega) l.length 0 l.length (by omega) (by omega) m1 (bv _)
  have e1:decide ((lo:Int)<(hi:Int))=true:=aJ (by omega)
  have hh:=aNq (a:=lo) (b:=hi) (by omega) (by omega)
  unfold aS vY;simp only [e1,cond_true,hh,aD l ((lo+hi) / 2) (by omega),mE,aB,aU (show (lo+hi) / 2<1000000000 by omega)]
  constructor
  · intro h
    have:decide (lK (l[(lo+hi) / 2]!).1 id<0)=true:=by
     rcases gR (l[(lo+hi) / 2]!).1 id with ⟨a,e⟩|⟨a,e⟩|⟨a,e⟩<;>rw [e]<;>first|rfl|omega
    rw [this];rfl
  intro h
  have:decide (lK (l[(lo+hi) / 2]!).1 id<0)=false:=by
   rcases gR (l[(lo+hi) / 2]!).1 id with ⟨a,e⟩|⟨a,e⟩|⟨a,e⟩<;>rw [e]<;>first|rfl|omega
  rw [this];rfl
 have fin:aH aS (l,id,(l.length:Int),(m:Int),(m:Int))=if m<l.length/\(l[m]!).1=id then some ((m:Int),true) else some ((m:Int),false):=by
  have e1:decide ((m:Int)<(m:Int))=false:=dec_f (by omega)
  by_cases hm:m<l.length
  · have e2:decide ((m:Int)<(l.length:Int))=true:=aJ (by omega)
    have body:aS (l,id,(l.length:Int),(m:Int),(m:Int))=some (.done ((m:Int),lK (l[m]!).1 id==0)):=by
     unfold aS vY;simp only [e1,e2,cond_true,cond_false,aD l m hm,mE,aB]
    rw [aL body];rcases gR (l[m]!).1 id with ⟨a,e⟩|⟨a,e⟩|⟨a,e⟩
    · rw [e,if_neg (fun h=>by omega)];rfl
    · rw [e,if_pos ⟨hm,a⟩];rfl
    rw [e,if_neg (fun h=>by omega)];rfl
  have e2:decide ((m:Int)<(l.length:Int))=false:=dec_f (by omega)
  have body:aS (l,id,(l.length:Int),(m:Int),(m:Int))=some (.done ((m:Int),false)):=by
   unfold aS;simp only [e1,e2,cond_false]
  rw [aL body,if_neg (fun h=>hm h.1)]
 rw [run,fin];constructor
 · intro k hk he
   have hkm:k=m:=by
    rcases cy k m with h|h|h
    · have:=m2 k h;omega
    · exact h
    have h1:=m3 m (bv _) (by omega)
    have h2:=hs m k h hk;omega
   subst hkm;rw [if_pos ⟨hk,he⟩]
 intro h
 refine ⟨m,m1,m2,fun i h1 h2=>?_,?_⟩
 · have:=m3 i h1 h2
   have:=h i h2
   omega
 rw [if_neg (fun k=>h m k.1 k.2)]
theorem aUe:dM=aR:=rfl
theorem aFU:dH=aR:=rfl
theorem JW:dJ=aR:=rfl
theorem yW {α:Type} (l:List α) (k:Nat):l.eraseIdx k=l.take k++l.drop (k+1):=List.eraseIdx_eq_take_drop_succ l k
theorem MB (l:List wU) (k:Nat) (hk:k<l.length): ∃L:List wU,eN ((k:Int),((k+1:Nat):Int),l)=some (l.length-1,l.length,L)/\L.take (l.length-1)=l.eraseIdx k:=by
 unfold eN;have e1:decide ((0:Int)<=(k:Int))=true:=aJ (by omega)
 have e2:decide ((k:Int)<=((k+1:Nat):Int))=true:=aJ (by omega)
 have e3:decide (((k+1:Nat):Int)<=(l.length:Int))=true:=aJ (by omega)
 have e4:decide ((l.length:Int)<=(l.length:Int))=true:=aJ (by omega)
 have e5:((k:Int)==((k+1:Nat):Int))=false:=eO (by omega)
 have e6:decide ((0:Int)<=((k+1:Nat):Int))=true:=aJ (by omega)
 have e7:decide ((k:Int)<=(l.length:Int))=true:=aJ (by omega)
 have dr:(l.drop (k+1)).take (l.length- (k+1))=l.drop (k+1):=ce (by rw [c6];exact bv _)
 have dl:(l.drop (k+1)).length=l.length- (k+1):=c6;simp only [aF,e1,e2,e3,e4,e5,e6,e7,eg,cond_true,cond_false,mF l k (by omega),aB,bu,Nat.zero_add,dr,dl,ck,Bool.and_true]
 by_cases h:k+1=l.length
 · have em:(l.drop (k+1)).isEmpty=true:=by rw [dw,cu];omega
   have n1:ei (l.length-k) 0=false:=by
    cases hb:ei (l.length-k) 0 with
    |false=>rfl
    |true=>have:=dd hb;omega
   have n2:Nat.ble (k+(l.length-k)) l.length=true:=cp (by omega)
   have ll:(jQ l k (d7 (l.length-k) ((0:Int),(0:Int),(0:Int)))).length=l.length:=by
    unfold jQ;simp;omega
   simp only [em,cond_true,n1,cond_false,n2,ll,beq_self_eq_true];refine ⟨_,by rw [show k=l.length-1 by omega],?_⟩
   rw [yW,show l.length-1=k by omega]
   unfold jQ;rw [cm,cf (by rw [bz];omega),d8,ej]
   rw [c9 (by omega),d5]
 have em:(l.drop (k+1)).isEmpty=false:=by
  cases hb:(l.drop (k+1)).isEmpty with
  |false=>rfl
  |true=>rw [dw,cu] at hb;omega
 have n1:Nat.ble (k+(l.length- (k+1))) l.length=true:=cp (by omega)
 have n2:decide ((0:Int)<=((k+(l.length- (k+1)):Nat):Int))=true:=aJ (by omega)
 have n3:decide (((k+(l.length- (k+1)):Nat):Int)<=(l.length:Int))=true:=aJ (by omega)
 have n4:ei (l.length- (k+(l.length- (k+1)))) 0=false:=by
  cases hb:ei (l.length- (k+(l.length- (k+1)))) 0 with
  |false=>rfl
  |true=>have:=dd hb;omega
 have l1:(jQ l k (l.drop (k+1))).length=l.length:=by
  unfold jQ;simp;omega
 have n5:Nat.ble (k+(l.length- (k+1))+(l.length- (k+(l.length- (k+1))))) l.length=true:=cp (by omega)
 have l2:(jQ (jQ l k (l.drop (k+1))) (k+(l.length- (k+1))) (d7 (l.length- (k+(l.length- (k+1)))) ((0:Int),(0:Int),(0:Int)))).length=l.length:=by
  unfold jQ;simp;omega
 simp only [em,cond_false,n1,cond_true,n2,n3,eg,n4,l1,n5,l2,beq_self_eq_true];refine ⟨_,by rw [show k+(l.length- (k+1))=l.length-1 by omega],?_⟩
 rw [yW]
 have:k+(l.length- (k+1))=l.length-1:=by omega
 unfold jQ;rw [cm,cf (by simp;omega),d8,ej,cm]
 rw [show (l.take k++(l.drop (k+1)++l.drop (k+(l.drop (k+1)).length)))=(l.take k++l.drop (k+1))++l.drop (k+(l.drop (k+1)).length) by rw [cm]]
 rw [cf (by simp;omega),ce (by simp;omega)]
theorem aAS:mZ=eN:=rfl
theorem PW {α:Type} [Inhabited α] {l:List α} {k i:Nat}:(l.eraseIdx k)[i]! =if i<k then l[i]! else l[i+1]!:=by
 rw [yW]
 by_cases hk:k<l.length
 · by_cases h:i<k
   · rw [if_pos h,eJ (by rw [bz];omega),kQ h]
   rw [if_neg h,fQ (by rw [bz];omega),nU,bz]
   congr 1;omega
 have e1:l.take k=l:=ce (by omega)
 have e2:l.drop (k+1)=[]:=c9 (by omega)
 rw [e1,e2,d5];split
 · rfl
 rw [getElem!_neg l i (by omega),getElem!_neg l (i+1) (by omega)]
def gB (x:Int×Int):Prop:=0<=x.1/\x.1<=65535/\0<=x.2/\x.2<=65535/\x.1≠x.2
theorem G6 (x:Int×Int):yF x=some (decide (gB x)):=by
 obtain ⟨a,b⟩:=x;unfold yF;dsimp only
 by_cases h1:0<=a
 · by_cases h3:0<=b
   · have e1:decide (0<=if b<a then b else a)=true:=aJ (by split<;>omega)
     rw [e1]
     by_cases h2:a<=65535
     · by_cases h4:b<=65535
       · have e2:decide ((if b>a then b else a)<=65535)=true:=aJ (by split<;>omega)
         rw [e2]
         by_cases h5:a=b
         · rw [bF h5,dec_f (p:=gB (a,b)) (fun h=>h.2.2.2.2 h5)];rfl
         rw [cN h5,aJ (p:=gB (a,b)) ⟨h1,h2,h3,h4,h5⟩];rfl
       have e2:decide ((if b>a then b else a)<=65535)=false:=dec_f (by split<;>omega)
       rw [e2,dec_f (p:=gB (a,b)) (fun h=>h4 h.2.2.2.1)];rfl
     have e2:decide ((if b>a then b else a)<=65535)=false:=dec_f (by split<;>omega)
     rw [e2,dec_f (p:=gB (a,b)) (fun h=>h2 h.2.1)];rfl
   have e1:decide (0<=if b<a then b else a)=false:=dec_f (by split<;>omega)
   rw [e1,dec_f (p:=gB (a,b)) (fun h=>h3 h.2.2.1)];rfl
 have e1:decide (0<=if b<a then b else a)=false:=dec_f (by split<;>omega)
 rw [e1,dec_f (p:=gB (a,b)) (fun h=>h1 h.1)];rfl
theorem G7 (x:Int×Int):yM x=some (decide (gB x)):=by
 obtain ⟨a,b⟩:=x;unfold yM;dsimp only
 by_cases h1:0<=a
 · by_cases h2:a<=65535
   · by_cases h3:0<=b
     · by_cases h4:b<=65535
       · by_cases h5:a=b
         · rw [bF h5,aJ h1,aJ h2,aJ h3,aJ h4,dec_f (p:=gB (a,b)) (fun h=>h.2.2.2.2 h5)];rfl
         rw [cN h5,aJ h1,aJ h2,aJ h3,aJ h4,aJ (p:=gB (a,b)) ⟨h1,h2,h3,h4,h5⟩];rfl
       rw [aJ h1,aJ h2,aJ h3,dec_f h4,dec_f (p:=gB (a,b)) (fun h=>h4 h.2.2.2.1)];rfl
     rw [aJ h1,aJ h2,dec_f h3,dec_f (p:=gB (a,b)) (fun h=>h3 h.2.2.1)];rfl
   rw [aJ h1,dec_f h2,dec_f (p:=gB (a,b)) (fun h=>h2 h.2.1)];rfl
 rw [dec_f h1,dec_f (p:=gB (a,b)) (fun h=>h1 h.1)];rfl
structure fL (c:bO):Prop where
 len:c.ar.length<=200
 n0:0<=c.aq
 n1:c.aq<=1000000
 cv: ∀i,i<c.ar.length->gB (c.ar[i]!).2
 nr: ∀i,i<c.ar.length->0<=(c.ar[i]!).1/\(c.ar[i]!).1<c.aq
 up: ∀i j,i<j->j<c.ar.length->(c.ar[i]!).1<(c.ar[j]!).1
 nd: ∀i j,i<j->j<c.ar.length->(c.ar[i]!).2≠(c.ar[j]!).2
def E9 (l:List wU) (i:Nat):Int:=if i=0 then -1 else (l[i-1]!).1
def aAT (c:bO) (i:Nat):Prop:=gB (c.ar[i]!).2/\(∀j,j<i->(c.ar[j]!).2≠(c.ar[i]!).2)/\E9 c.ar i<(c.ar[i]!).1/\(c.ar[i]!).1<c.aq
theorem fL.iff {c:bO} (h1:c.ar.length<=200) (h2:0<=c.aq) (h3:c.aq<=1000000):fL c↔ ∀i,i<c.ar.length->aAT c i:=by
 constructor
 · intro ok i hi
   refine ⟨ok.cv i hi,fun j hj=>ok.nd j i hj hi,?_,(ok.nr i hi).2⟩
   unfold E9;split
   · have:=(ok.nr i hi).1;omega
   exact ok.up (i-1) i (by omega) hi
 intro h
 have low: ∀i,i<c.ar.length->0<=(c.ar[i]!).1:=by
  intro i
  induction i with
  |zero=>
   intro hi
   have:=(h 0 hi).2.2.1
   unfold E9 at this;rw [if_pos rfl] at this;omega
  |succ i ih=>
   intro hi;have h1:=(h (i+1) hi).2.2.1;unfold E9 at h1;rw [if_neg (by omega),show i+1-1=i by omega] at h1
   have:=ih (by omega)
   omega
 have up: ∀i j,i<j->j<c.ar.length->(c.ar[i]!).1<(c.ar[j]!).1:=by
  intro i j
  induction j with
  |zero=>intro h;omega
  |succ j ih=>
   intro hij hj;have h1:=(h (j+1) hj).2.2.1;unfold E9 at h1;rw [if_neg (by omega),show j+1-1=j by omega] at h1
   by_cases e:i=j
   · subst e;exact h1
   have:=ih (by omega) (by omega)
   omega
 exact ⟨h1,h2,h3,fun i hi=>(h i hi).1,fun i hi=>⟨low i hi,(h i hi).2.2.2⟩,up,fun i j hij hj=>(h j hj).2.1 i hij⟩
theorem PX (l:List wU) (k:Nat) (a b:Int):rZ [a,b] ((l.take k).map fun x=>[x.2.1,x.2.2])=true:=by
 unfold rZ;rw [List.all_eq_true];intro x hx;obtain ⟨y,hy,rfl⟩:=cj.1 hx;rfl
theorem PY (l:List wU) (k:Nat) (x:Int×Int):ML ((l.take k).map fun y=>[y.2.1,y.2.2]) [x.1,x.2]=decide (∃j,j<k/\j<l.length/\(l[j]!).2=x):=by
 unfold ML;rw [db,List.any_eq_true,decide_eq_true_iff];constructor
 · rintro ⟨y,hy,he⟩
   obtain ⟨z,hz,rfl⟩:=cj.1 hy;obtain ⟨j,h1,h2,rfl⟩:=cD.1 hz
   have:[x.1,x.2]=[(l[j]!).2.1,(l[j]!).2.2]:=by simpa using he
   injection this with e1 e2;injection e2 with e2 _;exact ⟨j,h1,h2,ci e1.symm e2.symm⟩
 rintro ⟨j,h1,h2,h3⟩
 refine ⟨[(l[j]!).2.1,(l[j]!).2.2],cj.2 ⟨l[j]!,cD.2 ⟨j,h1,h2,rfl⟩,rfl⟩,?_⟩;rw [h3];simp
theorem A2 (c:bO):tP c=some (if fL c then 0 else 8):=by
 unfold tP;simp only [aF]
 by_cases h1:200<c.ar.length
 · rw [aJ (show (200:Int)<(c.ar.length:Int) by omega),if_neg (fun h=>by have:=h.len;omega)];rfl
 rw [dec_f (show¬(200:Int)<(c.ar.length:Int) by omega)]
 by_cases h2:c.aq<0
 · rw [aJ h2,if_neg (fun h=>by have:=h.n0;omega)];rfl
 rw [dec_f h2]
 by_cases h3:1000000<c.aq
 · rw [aJ h3,if_neg (fun h=>by have:=h.n1;omega)];rfl
 rw [dec_f h3];simp only [cond_false];have key:=dO (body:=uL) (fun i=>(E9 c.ar i,c.ar,(c.ar.length:Int),(i:Int),c.aq,c.ar,(c.ar.take i).map fun x=>[x.2.1,x.2.2])) c.ar.length (fun i=> ¬aAT c i) (r:=8) (e:=0) (fun i hi=>by
  have e1:decide ((i:Int)<(c.ar.length:Int))=true:=aJ (by omega)
  have has:WG ((c.ar.take i).map fun x=>[x.2.1,x.2.2]) [(c.ar[i]!).2.1,(c.ar[i]!).2.2]=some (decide (∃j,j<i/\j<c.ar.length/\(c.ar[j]!).2=(c.ar[i]!).2)):=by
   unfold WG;rw [PX,PY];rfl
  have nx:(c.ar.take (i+1)).map (fun x=>[x.2.1,x.2.2])=((c.ar.take i).map fun x=>[x.2.1,x.2.2])++[[(c.ar[i]!).2.1,(c.ar[i]!).2.2]]:=by
   rw [fR hi,List.map_append];rfl
  have ln:E9 c.ar (i+1)=(c.ar[i]!).1:=by unfold E9;rw [if_neg (by omega),show i+1-1=i by omega]
  unfold uL;simp only [e1,cond_true,aD c.ar i hi,aB,G6,has,nx,ln,aU (show i<1000000000 by omega)]
  unfold aAT
  by_cases b1:gB (c.ar[i]!).2
  case neg=>
   rw [dec_f b1];exact ⟨fun _=>rfl,fun h=>absurd (bn.1 h).1 b1⟩
  rw [aJ b1]
  by_cases b2: ∃j,j<i/\j<c.ar.length/\(c.ar[j]!).2=(c.ar[i]!).2
  · rw [aJ b2]
    refine ⟨fun _=>rfl,fun h=>?_⟩
    obtain ⟨j,j1,j2,j3⟩:=b2;exact absurd j3 ((bn.1 h).2.1 j j1)
  rw [dec_f b2];have b2': ∀j,j<i->(c.ar[j]!).2≠(c.ar[i]!).2:=fun j hj he=>b2 ⟨j,hj,by omega,he⟩
  by_cases b3:(c.ar[i]!).1<=E9 c.ar i
  · rw [aJ b3]
    exact ⟨fun _=>rfl,fun h=>absurd (bn.1 h).2.2.1 (by omega)⟩
  rw [dec_f b3]
  by_cases b4:c.aq<=(c.ar[i]!).1
  · rw [aJ b4]
    exact ⟨fun _=>rfl,fun h=>absurd (bn.1 h).2.2.2 (by omega)⟩
  rw [dec_f b4];have ins:WH ((c.ar.take i).map fun x=>[x.2.1,x.2.2]) [(c.ar[i]!).2.1,(c.ar[i]!).2.2]=some (((c.ar.take i).map fun x=>[x.2.1,x.2.2])++[[(c.ar[i]!).2.1,(c.ar[i]!).2.2]]):=by
   unfold WH Z2;rw [PX,PY,dec_f b2];rfl
  rw [ins];exact ⟨fun h=>absurd ⟨b1,b2',by omega,by omega⟩ h,fun _=>rfl⟩) (by
  unfold uL
  have:decide ((c.ar.length:Int)<(c.ar.length:Int))=false:=dec_f (by omega)
  simp only [this,cond_false])
 have h0:E9 c.ar 0= -1:=rfl;rw [h0] at key
 by_cases ok:fL c
 · rw [if_pos ok]
   exact key.2 fun i hi=>bn.2 ((fL.iff (by omega) (by omega) (by omega)).1 ok i hi)
 rw [if_neg ok]
 rw [fL.iff (by omega) (by omega) (by omega)] at ok
 obtain ⟨i,h⟩:=bw.1 ok;obtain ⟨hi,hx⟩:=cd.1 h;exact key.1 ⟨i,hi,hx⟩
theorem YR (c:bO) (i:Nat) (hi:i<c.ar.length) (hl:c.ar.length<=200):
 ((∃j,j<i/\(c.ar[j]!).2=(c.ar[i]!).2)->aH gO ((i:Int),0,c.aq,c.ar,c.ar[i]!)=some (.done 8))/\
 ((∀j,j<i-> ¬(c.ar[j]!).2=(c.ar[i]!).2)->aH gO ((i:Int),0,c.aq,c.ar,c.ar[i]!)=some (.next (((i+1:Nat):Int),c.aq,c.ar))):=by
 refine dO (body:=gO) (fun j=>((i:Int),(j:Int),c.aq,c.ar,c.ar[i]!)) i (fun j=>(c.ar[j]!).2=(c.ar[i]!).2) (r:= .done 8) (e:= .next (((i+1:Nat):Int),c.aq,c.ar)) (fun j hj=>?_) ?_
 · have e1:decide ((j:Int)<(i:Int))=true:=aJ (by omega)
   unfold gO;simp only [e1,cond_true,aD c.ar j (by omega),aB,aU (show j<1000000000 by omega)]
   generalize c.ar[j]! =x;generalize c.ar[i]! =y;constructor
   · intro h;rw [eY (congrArg d9 h),eY (congrArg eb h)];rfl
   intro h
   by_cases h1:x.2.1=y.2.1
   · rw [eY h1,eO (fun h2=>h (ci h1 h2))];rfl
   rw [eO h1];rfl
 unfold gO
 have:decide ((i:Int)<(i:Int))=false:=dec_f (by omega)
 simp only [this,cond_false,aU (show i<1000000000 by omega)]
theorem FA (c:bO):wC c=some (if fL c then 0 else 8):=by
 unfold wC;simp only [aF]
 by_cases h1:200<c.ar.length
 · rw [aJ (show (200:Int)<(c.ar.length:Int) by omega),if_neg (fun h=>by have:=h.len;omega)];rfl
 rw [dec_f (show¬(200:Int)<(c.ar.length:Int) by omega)]
 by_cases h2:c.aq<0
 · rw [aJ h2,if_neg (fun h=>by have:=h.n0;omega)];rfl
 rw [dec_f h2]
 by_cases h3:1000000<c.aq
 · rw [aJ h3,if_neg (fun h=>by have:=h.n1;omega)];rfl
 rw [dec_f h3];simp only [cond_false];have key:=dO (body:=sI) (fun i=>((i:Int),c.aq,c.ar)) c.ar.length (fun i=> ¬(gB (c.ar[i]!).2/\0<=(c.ar[i]!).1/\(c.ar[i]!).1<c.aq/\(0<i->(c.ar[i-1]!).1<(c.ar[i]!).1)/\ ∀j,j<i-> ¬(c.ar[j]!).2=(c.ar[i]!).2)) (r:=8) (e:=0) (fun i hi=>by
  have e1:decide ((i:Int)<(c.ar.length:Int))=true:=aJ (by omega)
  have l1:=YR c i hi (by omega)
  unfold sI;simp only [aF,e1,cond_true,aD c.ar i hi,aB,G7]
  by_cases b1:gB (c.ar[i]!).2
  case neg=>
   rw [dec_f b1];exact ⟨fun _=>rfl,fun h=>absurd (bn.1 h).1 b1⟩
  rw [aJ b1]
  by_cases b2:(c.ar[i]!).1<0
  · rw [aJ b2]
    exact ⟨fun _=>rfl,fun h=>absurd (bn.1 h).2.1 (by omega)⟩
  rw [dec_f b2]
  by_cases b3:c.aq<=(c.ar[i]!).1
  · rw [aJ b3]
    exact ⟨fun _=>rfl,fun h=>absurd (bn.1 h).2.2.1 (by omega)⟩
  rw [dec_f b3];simp only [bq,cond_false];have go:(0<i->(c.ar[i-1]!).1<(c.ar[i]!).1)->(¬(gB (c.ar[i]!).2/\0<=(c.ar[i]!).1/\(c.ar[i]!).1<c.aq/\(0<i->(c.ar[i-1]!).1<(c.ar[i]!).1)/\ ∀j,j<i-> ¬(c.ar[j]!).2=(c.ar[i]!).2)->aH gO ((i:Int),0,c.aq,c.ar,c.ar[i]!)=some (.done 8))/\
   (¬¬(gB (c.ar[i]!).2/\0<=(c.ar[i]!).1/\(c.ar[i]!).1<c.aq/\(0<i->(c.ar[i-1]!).1<(c.ar[i]!).1)/\ ∀j,j<i-> ¬(c.ar[j]!).2=(c.ar[i]!).2)->aH gO ((i:Int),0,c.aq,c.ar,c.ar[i]!)=some (.next (((i+1:Nat):Int),c.aq,c.ar))):=by
   intro hp;constructor
   · intro h
     refine l1.1 (Classical.byContradiction fun hx=>h ⟨b1,by omega,by omega,hp,fun j hj he=>hx ⟨j,hj,he⟩⟩)
   intro h
   exact l1.2 (bn.1 h).2.2.2.2
  by_cases b4:0<i
  · have f1:decide ((0:Int)<(i:Int))=true:=aJ (by omega)
    simp only [f1,cond_true,qF (show i<1000000000 by omega) b4,aD c.ar (i-1) (by omega),aB]
    by_cases b5:(c.ar[i]!).1<=(c.ar[i-1]!).1
    · rw [aJ b5]
      exact ⟨fun _=>rfl,fun h=>absurd ((bn.1 h).2.2.2.1 b4) (by omega)⟩
    rw [dec_f b5]
    exact go fun _=>by omega
  · have f1:decide ((0:Int)<(i:Int))=false:=dec_f (by omega)
    rw [f1];exact go fun h=>absurd h b4) (by
  unfold sI
  have:decide ((c.ar.length:Int)<(c.ar.length:Int))=false:=dec_f (by omega)
  simp only [aF,this,cond_false])
 have same:fL c↔ ∀i,i<c.ar.length->(gB (c.ar[i]!).2/\0<=(c.ar[i]!).1/\(c.ar[i]!).1<c.aq/\(0<i->(c.ar[i-1]!).1<(c.ar[i]!).1)/\ ∀j,j<i-> ¬(c.ar[j]!).2=(c.ar[i]!).2):=by
  constructor
  · intro ok i hi
    exact ⟨ok.cv i hi,(ok.nr i hi).1,(ok.nr i hi).2,fun h=>ok.up (i-1) i (by omega) hi,fun j hj=>ok.nd j i hj hi⟩
  intro h
  rw [fL.iff (by omega) (by omega) (by omega)]
  intro i hi;obtain ⟨a1,a2,a3,a4,a5⟩:=h i hi;refine ⟨a1,a5,?_,a3⟩;unfold E9;split
  · omega
  exact a4 (by omega)
 by_cases ok:fL c
 · rw [if_pos ok]
   exact key.2 fun i hi=>bn.2 (same.1 ok i hi)
 rw [if_neg ok]
 rw [same] at ok;obtain ⟨i,h⟩:=bw.1 ok;obtain ⟨hi,hx⟩:=cd.1 h;exact key.1 ⟨i,hi,hx⟩
def A3 (l:List wU) (x:Int×Int):Prop:= ∃i,i<l.length/\(l[i]!).2=x
theorem YS (l:List wU) (x:Int×Int) (hl:l.length<=1000000):cR l x=some (decide (A3 l x)):=by
 unfold cR gF;have key:=lA (body:=dU) (fun i=>(l,x.1,x.2,(l.length:Int),(i:Int))) l.length (fun i=>(l[i]!).2=x) (fun i=>(i:Int)) (e:= -1) (fun i hi=>by
  have e1:decide ((i:Int)<(l.length:Int))=true:=aJ (by omega)
  unfold dU HW;simp only [e1,cond_true,aD l i hi,aB,aU (show i<1000000000 by omega)]
  generalize l[i]! =y;constructor
  · intro h;rw [eY (congrArg d9 h),eY (congrArg eb h)];rfl
  · intro h
    by_cases h1:y.2.1=x.1
    · rw [eY h1,eO (fun h2=>h (ci h1 h2))];rfl
    rw [eO h1];rfl) (by
  unfold dU
  have:decide ((l.length:Int)<(l.length:Int))=false:=dec_f (by omega)
  simp only [this,cond_false])
 rw [aF]
 by_cases hx:A3 l x
 · obtain ⟨k,h1,h2,h3⟩:=G1 hx
   have:=key.1 k h1 h2 h3
   rw [show ((0:Nat):Int)=0 from rfl] at this;rw [this,aJ hx];simp only [aB,aJ (show (0:Int)<=(k:Int) by omega)]
 have:=key.2 fun i hi he=>hx ⟨i,hi,he⟩
 rw [show ((0:Nat):Int)=0 from rfl] at this;rw [this,dec_f hx];rfl
theorem LG:eL=cR:=rfl
theorem DB (c:bO) (x:Int×Int) (hl:c.ar.length<=1000000):xR c x=some (decide (A3 c.ar x)):=by
 unfold xR;have key:=dO (body:=xM) (fun i=>((i:Int),c.aq,c.ar,x)) c.ar.length (fun i=>(c.ar[i]!).2=x) (r:=true) (e:=false) (fun i hi=>by
  have e1:decide ((i:Int)<(c.ar.length:Int))=true:=aJ (by omega)
  unfold xM;simp only [aF,e1,cond_true,aD c.ar i hi,aB,aU (show i<1000000000 by omega)]
  generalize c.ar[i]! =y;constructor
  · intro h;rw [eY (congrArg d9 h),eY (congrArg eb h)];rfl
  · intro h
    by_cases h1:y.2.1=x.1
    · rw [eY h1,eO (fun h2=>h (ci h1 h2))];rfl
    rw [eO h1];rfl) (by
  unfold xM
  have:decide ((c.ar.length:Int)<(c.ar.length:Int))=false:=dec_f (by omega)
  simp only [aF,this,cond_false])
 by_cases hx:A3 c.ar x
 · rw [aJ hx];exact key.1 hx
 rw [dec_f hx];exact key.2 fun i hi he=>hx ⟨i,hi,he⟩
def sY (c:bO) (x:Int×Int):bO:=⟨c.aq+1,c.ar++[(c.aq,x)]⟩
def JX (c:bO):Prop:=c.ar.length=200\/c.aq=1000000
theorem YT {c:bO} (ok:fL c) {x:Int×Int} (hx:gB x):JM c x=some (if A3 c.ar x then (⟨0,[]⟩,0,14) else if JX c then (⟨0,[]⟩,0,18) else (sY c x,c.aq,0)):=by
 have:=ok.len;have:=ok.n0;have:=ok.n1
 unfold JM;rw [A2,if_pos ok,G6,aJ hx,YS _ _ (by omega)]
 simp only [aB,show ((0:Int) !=0)=false from rfl,cond_false,bq,aF]
 by_cases h1:A3 c.ar x
 · rw [aJ h1,if_pos h1];rfl
 rw [dec_f h1,if_neg h1];unfold JX
 by_cases h2:c.ar.length=200
 · rw [eY (show (c.ar.length:Int)=200 by omega),if_pos (.inl h2)];rfl
 rw [eO (show¬(c.ar.length:Int)=200 by omega)]
 by_cases h3:c.aq=1000000
 · rw [eY h3,if_pos (.inr h3)];rfl
 rw [eO h3,if_neg (by omega)]
 have e:aA .i64 (c.aq+1)=c.aq+1:=by rw [wi];omega
 simp only [cond_false,aT (show c.ar.length<=1048576 by omega),aB,cI (show c.ar.length+[(c.aq,x)].length<=1048576 by simp;omega),e]
 rfl
theorem U9 {c:bO} (ok:fL c) {x:Int×Int} (hx:gB x):F6 c x=some (if A3 c.ar x then (⟨0,[]⟩,0,14) else if JX c then (⟨0,[]⟩,0,18) else (sY c x,c.aq,0)):=by
 have:=ok.len;have:=ok.n0;have:=ok.n1
 unfold F6 qO;rw [FA,if_pos ok,G7,aJ hx,DB _ _ (by omega)]
 simp only [aB,show ((0:Int) !=0)=false from rfl,cond_false,bq,aF]
 by_cases h1:A3 c.ar x
 · rw [aJ h1,if_pos h1];rfl
 rw [dec_f h1,if_neg h1];unfold JX
 by_cases h2:c.ar.length=200
 · rw [eY (show (c.ar.length:Int)=200 by omega),if_pos (.inl h2)];rfl
 rw [eO (show¬(c.ar.length:Int)=200 by omega)]
 by_cases h3:c.aq=1000000
 · rw [eY h3,if_pos (.inr h3)];rfl
 rw [eO h3,if_neg (by omega)]
 have e:aA .i64 (c.aq+1)=c.aq+1:=by rw [wi];omega
 simp only [cond_false,aT (show c.ar.length<=1048576 by omega),aB,cI (show c.ar.length+[(c.aq,x)].length<=1048576 by simp;omega),e]
 rfl
theorem yX {c:bO} {x:Int×Int} {i:Nat}:(sY c x).ar[i]! =if i<c.ar.length then c.ar[i]! else if i=c.ar.length then (c.aq,x) else default:=by
 show (c.ar++[(c.aq,x)])[i]! =_
 by_cases h:i<c.ar.length
 · rw [if_pos h,eJ h]
 rw [if_neg h,fQ (by omega)]
 by_cases e:i=c.ar.length
 · rw [if_pos e,e,c8];rfl
 rw [if_neg e,getElem!_neg _ _ (by simp;omega)]
theorem GF {c:bO} {x:Int×Int}:(sY c x).ar.length=c.ar.length+1:=by
 show (c.ar++[(c.aq,x)]).length=_;simp
theorem aAU {c:bO} (ok:fL c) {x:Int×Int} (hx:gB x) (hn: ¬A3 c.ar x) (hf: ¬JX c):fL (sY c x):=by
 have h1:=ok.len;have h2:=ok.n0;have h3:=ok.n1;unfold JX at hf;refine ⟨by rw [GF];omega,by show 0<=c.aq+1;omega,by show c.aq+1<=1000000;omega,?_,?_,?_,?_⟩
 · intro i hi
   rw [GF] at hi;rw [yX]
   by_cases h:i<c.ar.length
   · rw [if_pos h];exact ok.cv i h
   rw [if_neg h,if_pos (by omega)];exact hx
 · intro i hi
   rw [GF] at hi;rw [yX];show 0<=_/\_<c.aq+1
   by_cases h:i<c.ar.length
   · rw [if_pos h];have:=ok.nr i h;omega
   rw [if_neg h,if_pos (by omega)];dsimp only;omega
 · intro i j hij hj
   rw [GF] at hj;rw [yX,yX,if_pos (by omega)]
   by_cases h:j<c.ar.length
   · rw [if_pos h];exact ok.up i j hij h
   rw [if_neg h,if_pos (by omega)]
   exact (ok.nr i (by omega)).2
 intro i j hij hj
 rw [GF] at hj;rw [yX,yX,if_pos (by omega)]
 by_cases h:j<c.ar.length
 · rw [if_pos h];exact ok.nd i j hij h
 rw [if_neg h,if_pos (by omega)]
 exact fun he=>hn ⟨i,by omega,he⟩
def qH (c:bO) (k:Nat):bO:=⟨c.aq,c.ar.eraseIdx k⟩
theorem aCr {α:Type} {l:List α} {k:Nat} (hk:k<l.length):(l.eraseIdx k).length=l.length-1:=by
 rw [List.length_eraseIdx,if_pos hk]
theorem PZ {c:bO} (ok:fL c) {k:Nat} (hk:k<c.ar.length):fL (qH c k):=by
 have h1:=ok.len;have len:(qH c k).ar.length=c.ar.length-1:=aCr hk;have cell: ∀i,∃j,i<=j/\j<=i+1/\(i<c.ar.length-1->j<c.ar.length)/\(qH c k).ar[i]! =c.ar[j]!/\(i<k->j=i)/\(k<=i->j=i+1):=by
  intro i
  by_cases h:i<k
  · exact ⟨i,by omega,by omega,by omega,by show (c.ar.eraseIdx k)[i]! =_;rw [PW,if_pos h],fun _=>rfl,by omega⟩
  exact ⟨i+1,by omega,by omega,by omega,by show (c.ar.eraseIdx k)[i]! =_;rw [PW,if_neg h],by omega,fun _=>rfl⟩
 refine ⟨by omega,ok.n0,ok.n1,?_,?_,?_,?_⟩
 · intro i hi
   obtain ⟨j,j1,j2,j3,j4,j5,j6⟩:=cell i;rw [j4];exact ok.cv j (j3 (by omega))
 · intro i hi
   obtain ⟨j,j1,j2,j3,j4,j5,j6⟩:=cell i;rw [j4];exact ok.nr j (j3 (by omega))
 · intro i i' hij hi
   obtain ⟨j,j1,j2,j3,j4,j5,j6⟩:=cell i;obtain ⟨m,m1,m2,m3,m4,m5,m6⟩:=cell i';rw [j4,m4];exact ok.up j m (by omega) (m3 (by omega))
 intro i i' hij hi
 obtain ⟨j,j1,j2,j3,j4,j5,j6⟩:=cell i;obtain ⟨m,m1,m2,m3,m4,m5,m6⟩:=cell i';rw [j4,m4];exact ok.nd j m (by omega) (m3 (by omega))
theorem P0 {c:bO} (ok:fL c) {k:Nat} (hk:k<c.ar.length) {n:Int} (hn:(c.ar[k]!).1=n):zV c n=some (qH c k,(c.ar[k]!).2,0):=by
 have h1:=ok.len;unfold zV K5;obtain ⟨L,d1,d2⟩:=MB c.ar k hk;rw [A2,if_pos ok,(vH c.ar n (by omega) ok.up).1 k hk hn]
 simp only [aB,show ((0:Int) !=0)=false from rfl,cond_false,bq,aT (show c.ar.length<=1048576 by omega),aU (show k<1000000000 by omega),d1,aD c.ar k hk,d2]
 rfl
theorem VA {l:List wU} {k:Nat} (hk:k<l.length) (hs: ∀i j,i<j->j<l.length->(l[i]!).1<(l[j]!).1) {n:Int} (hn:(l[k]!).1=n):l.filter (fun x=>x.1 !=n)=l.eraseIdx k:=by
 rw [yW];have e:l.filter (fun x=>x.1 !=n)=(l.take k++l[k]!::l.drop (k+1)).filter (fun x=>x.1 !=n):=congrArg _ (YA hk)
 rw [e,dm,List.filter_cons_of_neg (by rw [hn];simp)]
 congr 1
 · rw [df]
   intro x hx;obtain ⟨i,h1,h2,rfl⟩:=cD.1 hx
   have:=hs i k h1 hk
   exact cN (by omega)
 rw [df]
 intro x hx;obtain ⟨i,h1,rfl⟩:=aY.1 hx;rw [c6] at h1;rw [nU]
 have:=hs k (k+1+i) (by omega) (by omega)
 exact cN (by omega)
theorem LH {c:bO} (ok:fL c) {k:Nat} (hk:k<c.ar.length) {n:Int} (hn:(c.ar[k]!).1=n):uZ c n=some (qH c k):=by
 have h1:=ok.len;unfold uZ;have key:=cA (body:=mB) (fun i=>(n,(i:Int),c.aq,c.ar,0,c.aq,(c.ar.take i).filter (fun x=>x.1 !=n))) c.ar.length (fun i hi=>by
  have e1:decide ((i:Int)<(c.ar.length:Int))=true:=aJ (by omega)
  have nx:(c.ar.take (i+1)).filter (fun x=>x.1 !=n)=(c.ar.take i).filter (fun x=>x.1 !=n)++(if (c.ar[i]!).1 !=n then [c.ar[i]!] else []):=by
   rw [fR hi,dm,List.filter_cons,List.filter_nil]
  have fl:((c.ar.take i).filter (fun x=>x.1 !=n)).length<=200:=eh (List.length_filter_le _ _) (by rw [bz];omega)
  unfold mB;simp only [aF,e1,cond_true,aD c.ar i hi,aB,aU (show i<1000000000 by omega),nx]
  by_cases h:(c.ar[i]!).1=n
  · rw [bF h];simp
  rw [cN h]
  simp only [cond_true,if_true,cI (show ((c.ar.take i).filter (fun x=>x.1 !=n)).length+[c.ar[i]!].length<=1048576 by simp only [dv,dz];omega),aB])
 have fin:mB (n,(c.ar.length:Int),c.aq,c.ar,0,c.aq,(c.ar.take c.ar.length).filter (fun x=>x.1 !=n))=some (.done (qH c k)):=by
  unfold mB
  have:decide ((c.ar.length:Int)<(c.ar.length:Int))=false:=dec_f (by omega)
  simp only [aF,this,cond_false,List.take_length];rw [VA hk ok.up hn];rfl
 refine Eq.trans ?_ (aL fin);exact key
def kI (l:List Pt) (id:Int):Prop:= ∃k,k<l.length/\(l[k]!).1=id
noncomputable def iU (l:List Pt) (id:Int):Pt:=if h:kI l id then l[h.choose]! else (-1,0,0)
theorem JY {l:List Pt} (hs:iI l) {k:Nat} (hk:k<l.length) {id:Int} (h:(l[k]!).1=id):iU l id=l[k]!:=by
 have hp:kI l id:=⟨k,hk,h⟩;unfold iU;rw [dif_pos hp]
 have:=hp.choose_spec
 rw [IC hs this.1 hk (by rw [this.2,h])]
theorem fT {l:List Pt} (ok:bS l) {id:Int} (h:kI l id):gV (iU l id)/\(iU l id).1=id:=by
 obtain ⟨k,hk,he⟩:=h;rw [JY ok.2.2 hk he];exact ⟨ok.2.1 _ (bH hk),he⟩
theorem LJ {l:List Pt} {id:Int} (h: ¬kI l id):iU l id=(-1,0,0):=by unfold iU;rw [dif_neg h]
theorem oX {l:List Pt} (ok:bS l) (id:Int):kX ⟨l⟩ id=some (iU l id):=by
 have h1:=ok.1;have bs:=vH l id (by omega) (fun i j=>gU ok.2.2)
 unfold kX;dsimp only;rw [aFU]
 by_cases h:kI l id
 · obtain ⟨k,hk,he⟩:=h
   rw [bs.1 k hk he];simp only [aB,bq,cond_false,aD l k hk,JY ok.2.2 hk he]
 obtain ⟨m,m1,m2,m3,e⟩:=bs.2 (fun k hk he=>h ⟨k,hk,he⟩)
 rw [e,LJ h];rfl
theorem DC {l:List Pt} (ok:bS l) {id:Int} (h:kI l id): ∃k,k<l.length/\gP ⟨l⟩ id=some (k:Int)/\l[k]! =iU l id:=by
 have h1:=ok.1;obtain ⟨k,hk,he⟩:=h;exact ⟨k,hk,LA ok.2.2 (by omega) hk he,(JY ok.2.2 hk he).symm⟩
theorem LK {l:List Pt} (ok:bS l) {id:Int} (h: ¬kI l id):gP ⟨l⟩ id=some (-1):=by
 have h1:=ok.1;exact aNv (by omega) fun k hk he=>h ⟨k,hk,he⟩
def lG (l:List Pt) (x:Int×Int):Prop:=kI l x.1/\kI l x.2
noncomputable def bL (l:List Pt) (x t:Int×Int):(Int×Int)×Bool:=G4 (iU l x.2) (iU l x.1) t
theorem A4 {l:List Pt} (ok:bS l) {x t:Int×Int} (hx:gB x) (ht:cS t) (h64:tH t):
 tT ⟨l⟩ x t=some (if lG l x then ((bL l x t).1,(bL l x t).2,0) else ((0,0),false,8)):=by
 unfold tT;rw [oX ok,oX ok];simp only [aB,MO h64];have bad: ¬gV (-1,0,0):=by unfold gV;dsimp only;omega
 by_cases h1:kI l x.1
 · by_cases h2:kI l x.2
   · obtain ⟨p1,p2⟩:=fT ok h1
     obtain ⟨q1,q2⟩:=fT ok h2;rw [if_pos ⟨q1,p1,ht,by rw [p2,q2];exact fun h=>hx.2.2.2.2 h.symm⟩,if_pos ⟨h1,h2⟩]
     rfl
   rw [LJ h2,if_neg (fun h=>bad h.1),if_neg (fun h=>bad h.1),if_neg (fun h=>h2 h.2)]
 rw [LJ h1,if_neg (fun h=>bad h.2.1),if_neg (fun h=>bad h.2.1),if_neg (fun h=>h1 h.1)]
theorem A5 {l:List Pt} (ok:bS l) {x t:Int×Int} (h64:tH t) (hb:lG l x):tY ⟨l⟩ x t=some (bL l x t):=by
 obtain ⟨h1,h2⟩:=hb;obtain ⟨j,j1,j2,j3⟩:=DC ok h1;obtain ⟨k,k1,k2,k3⟩:=DC ok h2;unfold tY;simp only [j2,k2,aB,aD l j j1,aD l k k1,j3,k3,aAK (fT ok h2).1 (fT ok h1).1 h64];rfl
theorem aFV (c:bO) {l:List Pt} (ok:bS l) (hl:c.ar.length<=200):zW c ⟨l⟩=some (decide (∀i,i<c.ar.length->lG l (c.ar[i]!).2)):=by
 unfold zW;have key:=dO (body:=sJ) (fun i=>((i:Int),c.aq,c.ar,l)) c.ar.length (fun i=> ¬lG l (c.ar[i]!).2) (r:=false) (e:=true) (fun i hi=>by
  have e1:decide ((i:Int)<(c.ar.length:Int))=true:=aJ (by omega)
  unfold sJ lG;simp only [aF,e1,cond_true,aD c.ar i hi,aB,aU (show i<1000000000 by omega)]
  by_cases h1:kI l (c.ar[i]!).2.1
  · obtain ⟨k,k1,k2,_⟩:=DC ok h1
    rw [k2];simp only [aB,dec_f (show¬(k:Int)<0 by omega),cond_false]
    by_cases h2:kI l (c.ar[i]!).2.2
    · obtain ⟨j,j1,j2,_⟩:=DC ok h2
      rw [j2];simp only [aB,dec_f (show¬(j:Int)<0 by omega),cond_false]
      exact ⟨fun h=>absurd ⟨h1,h2⟩ h,fun _=>trivial⟩
    rw [LK ok h2]
    exact ⟨fun _=>rfl,fun h=>absurd (bn.1 h).2 h2⟩
  · rw [LK ok h1]
    exact ⟨fun _=>rfl,fun h=>absurd (bn.1 h).1 h1⟩) (by
  unfold sJ
  have:decide ((c.ar.length:Int)<(c.ar.length:Int))=false:=dec_f (by omega)
  simp only [aF,this,cond_false])
 by_cases hx: ∀i,i<c.ar.length->lG l (c.ar[i]!).2
 · rw [aJ hx];exact key.2 fun i hi=>bn.2 (hx i hi)
 rw [dec_f hx]
 obtain ⟨i,h⟩:=bw.1 hx;obtain ⟨hi,hx⟩:=cd.1 h;exact key.1 ⟨i,hi,hx⟩
def aW (l:List Pt) (t:Int×Int) (H:List Ev):List wU->List wU->Prop
 | [],ds=>ds=[]
 |x::cs,ds=>((bL l x.2 t).2=true-> ∃d ds',ds=d::ds'/\d.1=x.1/\((bL l x.2 t).1.1,(bL l x.2 t).1.2,x.1,d.2)∈H/\aW l t H cs ds')/\((bL l x.2 t).2=false->aW l t H cs ds)
structure bG (c:aQ):Prop where
 nowv:cS c.au
 now64:tH c.au
 fld:bS c.ax.aa
 crt:fL c.ay
 agd:fJ c.az
 w200:c.az.am.length=200
 hd:c.az.aj.length=c.ba.length
 known: ∀i,i<c.ay.ar.length->lG c.ax.aa (c.ay.ar[i]!).2
 fol:aW c.ax.aa c.au c.az.aj c.ay.ar c.ba
structure wI (c:aQ):Prop where
 now64:tH c.au
 ag:E6 c.az
 du:c.ba.length<=1000000
theorem aOr {a:aO} (ok:fJ a) (w2:a.am.length=200) (t:Int×Int) (n:Int) (h:Int×Int):
 (0<=h.1/\h.1<200/\0<=a.am[h.1.toNat]!/\a.aj[(a.am[h.1.toNat]!).toNat]! =(t.1,t.2,n,h))↔((t.1,t.2,n,h):Ev)∈a.aj:=by
 have wl:=ok.wl;have hu:=ok.so.ul;constructor
 · rintro ⟨h1,h2,h3,h4⟩
   cases hb:a.ai.ae[h.1.toNat]! with
   |false=>
    have:=ok.un h.1.toNat (by omega) hb
    omega
   |true=>
    have:=ok.fwd h.1.toNat (by omega) hb
    rw [<- h4];exact bH (by omega)
 intro hm
 obtain ⟨w,hw,he⟩:=aY.1 hm;obtain ⟨b1,b2,b3,b4,b5⟩:=ok.back hw;have e:Ev.ix a.aj[w]! =h.1:=by rw [he]
 have e2:Ev.n a.aj[w]! =h.1.toNat:=by rw [he]
 rw [e] at b1 b2;rw [e2] at b5;refine ⟨b1,by omega,by omega,?_⟩
 rw [b5,bu,he]
theorem aFW {a:aO} (ok:fJ a) {i:Nat} (hi:i<a.ai.ac.length) (h:0<=a.am[i]!):a.am[i]!<a.aj.length:=by
 cases hb:a.ai.ae[i]! with
 |false=>have:=ok.un i hi hb;omega
 |true=>exact (ok.fwd i hi hb).2.1
theorem xU {α:Type} [Inhabited α] {l:List α} {i:Nat} (h:i<l.length):l.drop i=l[i]!::l.drop (i+1):=by
 rw [getElem!_pos l i h];exact List.drop_eq_getElem_cons h
theorem YU {c:aQ} (nowv:cS c.au) (now64:tH c.au) (fld:bS c.ax.aa) (crt:fL c.ay) (agd:fJ c.az) (w2:c.az.am.length=200):
 ∀(d i:Nat) (ds:List wU),c.ay.ar.length-i<=d->i<=c.ay.ar.length->ds.length<=1000000->
  aH dB (ds,c.ay.ar,(c.ay.ar.length:Int),(i:Int),c.au.1,c.au.2,c.ax.aa,c.ay.aq,c.ay.ar,c.az.ai.ac,c.az.ai.ae,c.az.ai.af,c.az.aj,c.az.am,c.ba)=
   some (.done (if (∀j,i<=j->j<c.ay.ar.length->lG c.ax.aa (c.ay.ar[j]!).2)/\aW c.ax.aa c.au c.az.aj (c.ay.ar.drop i) ds then 0 else 8)):=by
 have hl:=crt.len;have wl:=agd.wl;have fin: ∀(ds:List wU),aH dB (ds,c.ay.ar,(c.ay.ar.length:Int),(c.ay.ar.length:Int),c.au.1,c.au.2,c.ax.aa,c.ay.aq,c.ay.ar,c.az.ai.ac,c.az.ai.ae,c.az.ai.af,c.az.aj,c.az.am,c.ba)=some (.done (if ds=[] then 0 else 8)):=by
  intro ds;refine aL ?_;unfold dB;have e1:decide ((c.ay.ar.length:Int)<(c.ay.ar.length:Int))=false:=dec_f (by omega)
  simp only [aF,e1,cond_false];cases ds with
  |nil=>rw [dec_f (by simp),if_pos rfl];rfl
  |cons d ds=>rw [aJ (by simp),if_neg (by simp)];rfl
 intro d
 induction d with
 |zero=>
  intro i ds hd hi hds
  have:i=c.ay.ar.length:=by omega
  subst this;rw [fin ds,cq]
  have:((∀j,c.ay.ar.length<=j->j<c.ay.ar.length->lG c.ax.aa (c.ay.ar[j]!).2)/\aW c.ax.aa c.au c.az.aj [] ds)↔ds=[]:=⟨fun h=>h.2,fun h=>⟨fun j h1 h2=>by omega,h⟩⟩
  by_cases h:ds=[]
  · rw [if_pos h,if_pos (this.2 h)]
  rw [if_neg h,if_neg (fun k=>h (this.1 k))]
 |succ d ih=>
  intro i ds hd hi hds
  by_cases he:i=c.ay.ar.length
  · subst he
    rw [fin ds,cq]
    have:((∀j,c.ay.ar.length<=j->j<c.ay.ar.length->lG c.ax.aa (c.ay.ar[j]!).2)/\aW c.ax.aa c.au c.az.aj [] ds)↔ds=[]:=⟨fun h=>h.2,fun h=>⟨fun j h1 h2=>by omega,h⟩⟩
    by_cases h:ds=[]
    · rw [if_pos h,if_pos (this.2 h)]
    rw [if_neg h,if_neg (fun k=>h (this.1 k))]
  have hi':i<c.ay.ar.length:=by omega
  have e1:decide ((i:Int)<(c.ay.ar.length:Int))=true:=aJ (by omega)
  have hw:=A4 fld (x:=(c.ay.ar[i]!).2) (t:=(c.au.1,c.au.2)) (crt.cv i hi') nowv now64;have dr:=xU hi';have all:(∀j,i<=j->j<c.ay.ar.length->lG c.ax.aa (c.ay.ar[j]!).2)↔(lG c.ax.aa (c.ay.ar[i]!).2/\ ∀j,i+1<=j->j<c.ay.ar.length->lG c.ax.aa (c.ay.ar[j]!).2):=by
   constructor
   · intro h;exact ⟨h i (bv _) hi',fun j h1 h2=>h j (by omega) h2⟩
   rintro ⟨h1,h2⟩ j h3 h4
   by_cases e:j=i
   · rw [e];exact h1
   exact h2 j (by omega) h4
  have sc:=aU (show i<1000000000 by omega)
  by_cases hb:lG c.ax.aa (c.ay.ar[i]!).2
  case neg=>
   rw [if_neg (fun h=>hb (all.1 h.1).1)]
   refine aL ?_;unfold dB;simp only [e1,cond_true,aD c.ay.ar i hi',aB,hw,if_neg hb];rfl
  rw [if_pos hb] at hw
  by_cases is:(bL c.ax.aa (c.ay.ar[i]!).2 c.au).2=true
  case neg=>
   have is':(bL c.ax.aa (c.ay.ar[i]!).2 c.au).2=false:=by simpa using is
   rw [aX (y:=(ds,c.ay.ar,(c.ay.ar.length:Int),((i+1:Nat):Int),c.au.1,c.au.2,c.ax.aa,c.ay.aq,c.ay.ar,c.az.ai.ac,c.az.ai.ae,c.az.ai.af,c.az.aj,c.az.am,c.ba)) (by
    unfold dB;simp only [e1,cond_true,aD c.ay.ar i hi',aB,hw,sc,is',show ((0:Int) !=0)=false from rfl,cond_false,ck]),ih (i+1) ds (by omega) (by omega) hds]
   have same:((∀j,i<=j->j<c.ay.ar.length->lG c.ax.aa (c.ay.ar[j]!).2)/\aW c.ax.aa c.au c.az.aj (c.ay.ar.drop i) ds)↔((∀j,i+1<=j->j<c.ay.ar.length->lG c.ax.aa (c.ay.ar[j]!).2)/\aW c.ax.aa c.au c.az.aj (c.ay.ar.drop (i+1)) ds):=by
    rw [dr,all];constructor
    · rintro ⟨⟨_,h1⟩,h2⟩;exact ⟨h1,h2.2 is'⟩
    rintro ⟨h1,h2⟩;exact ⟨⟨hb,h1⟩,fun h=>absurd h is,fun _=>h2⟩
   simp only [same]
  have stop:(¬((∀j,i<=j->j<c.ay.ar.length->lG c.ax.aa (c.ay.ar[j]!).2)/\aW c.ax.aa c.au c.az.aj (c.ay.ar.drop i) ds))->dB (ds,c.ay.ar,(c.ay.ar.length:Int),(i:Int),c.au.1,c.au.2,c.ax.aa,c.ay.aq,c.ay.ar,c.az.ai.ac,c.az.ai.ae,c.az.ai.af,c.az.aj,c.az.am,c.ba)=some (.done (.done 8))->aH dB (ds,c.ay.ar,(c.ay.ar.length:Int),(i:Int),c.au.1,c.au.2,c.ax.aa,c.ay.aq,c.ay.ar,c.az.ai.ac,c.az.ai.ae,c.az.ai.af,c.az.aj,c.az.am,c.ba)=
   some (.done (if (∀j,i<=j->j<c.ay.ar.length->lG c.ax.aa (c.ay.ar[j]!).2)/\aW c.ax.aa c.au c.az.aj (c.ay.ar.drop i) ds then 0 else 8)):=by
   intro h1 h2;rw [if_neg h1];exact aL h2
  cases ds with
  |nil=>
   refine stop (fun h=>?_) ?_
   · rw [dr] at h
     obtain ⟨d,ds',h1,_⟩:=h.2.1 is;cases h1
   unfold dB
   simp only [e1,cond_true,aD c.ay.ar i hi',aB,hw,is,show ((0:Int) !=0)=false from rfl,cond_false,bq];rfl
  |cons d0 ds=>
   have l0:((((d0::ds).length:Nat):Int)==0)=false:=eO (by simp;omega)
   have g0:aN (d0::ds) 0=some d0:=rfl
   have fol: ∀P:Prop,(P↔d0.1=(c.ay.ar[i]!).1/\(((bL c.ax.aa (c.ay.ar[i]!).2 c.au).1.1,(bL c.ax.aa (c.ay.ar[i]!).2 c.au).1.2,(c.ay.ar[i]!).1,d0.2):Ev)∈c.az.aj)-> ¬P-> ¬((∀j,i<=j->j<c.ay.ar.length->lG c.ax.aa (c.ay.ar[j]!).2)/\aW c.ax.aa c.au c.az.aj (c.ay.ar.drop i) (d0::ds)):=by
    intro P hP hn h;rw [dr] at h;obtain ⟨d,ds',h1,h2,h3,_⟩:=h.2.1 is;injection h1 with h1 _;subst h1;exact hn (hP.2 ⟨h2,h3⟩)
   by_cases b1:d0.1=(c.ay.ar[i]!).1
   case neg=>
    refine stop (fol (d0.1=(c.ay.ar[i]!).1/\_) c7 (fun h=>b1 h.1)) ?_
    unfold dB;simp only [aF,e1,cond_true,aD c.ay.ar i hi',aB,hw,is,show ((0:Int) !=0)=false from rfl,cond_false,bq,l0,g0,cN b1]
   have ea:=aOr agd w2 (bL c.ax.aa (c.ay.ar[i]!).2 c.au).1 (c.ay.ar[i]!).1 d0.2
   by_cases b2:d0.2.1<0
   · refine stop (fol (d0.1=(c.ay.ar[i]!).1/\_) c7 (fun h=>by have:=(ea.2 h.2).1;omega)) ?_
     unfold dB;simp only [aF,e1,cond_true,aD c.ay.ar i hi',aB,hw,is,show ((0:Int) !=0)=false from rfl,cond_false,bq,l0,g0,bF b1,aJ b2]
   by_cases b3:200<=d0.2.1
   · refine stop (fol (d0.1=(c.ay.ar[i]!).1/\_) c7 (fun h=>by have:=(ea.2 h.2).2.1;omega)) ?_
     unfold dB;simp only [aF,e1,cond_true,aD c.ay.ar i hi',aB,hw,is,show ((0:Int) !=0)=false from rfl,cond_false,bq,l0,g0,bF b1,dec_f b2,aJ b3]
   have gw:=eD (l:=c.az.am) (i:=d0.2.1) (by omega) (by omega)
   by_cases b4:c.az.am[d0.2.1.toNat]!<0
   · refine stop (fol (d0.1=(c.ay.ar[i]!).1/\_) c7 (fun h=>by have:=(ea.2 h.2).2.2.1;omega)) ?_
     unfold dB;simp only [aF,e1,cond_true,aD c.ay.ar i hi',aB,hw,is,show ((0:Int) !=0)=false from rfl,cond_false,bq,l0,g0,bF b1,dec_f b2,dec_f b3,gw,aJ b4]
   have gh:=eD (l:=c.az.aj) (i:=c.az.am[d0.2.1.toNat]!) (by omega) (aFW agd (by omega) (by omega))
   have sl:jH (d0::ds) 1 ((((d0::ds).length:Nat):Int))=some ds:=by
    unfold jH;rw [if_pos ⟨by omega,by simp;omega,by omega⟩]
    simp
   have evq: ∀(e:Ev) (p:Int×Int) (n:Int) (h:Int×Int),((e.1==p.1)&&((e.2.1==p.2)&&((e.2.2.1==n)&&((e.2.2.2.1==h.1)&&(e.2.2.2.2==h.2)))))=decide (e=(p.1,p.2,n,h)):=by
    intro e p n h;rw [db,decide_eq_true_iff];simp only [dy,beq_iff_eq];constructor
    · rintro ⟨h1,h2,h3,h4,h5⟩
      exact ci h1 (ci h2 (ci h3 (ci h4 h5)))
    intro h;rw [h];exact ⟨rfl,rfl,rfl,rfl,rfl⟩
   have evq':=evq c.az.aj[(c.az.am[d0.2.1.toNat]!).toNat]! (bL c.ax.aa (c.ay.ar[i]!).2 c.au).1 (c.ay.ar[i]!).1 d0.2
   by_cases b5:c.az.aj[(c.az.am[d0.2.1.toNat]!).toNat]! =((bL c.ax.aa (c.ay.ar[i]!).2 c.au).1.1,(bL c.ax.aa (c.ay.ar[i]!).2 c.au).1.2,(c.ay.ar[i]!).1,d0.2)
   case neg=>
    refine stop (fol (d0.1=(c.ay.ar[i]!).1/\_) c7 (fun h=>b5 (ea.2 h.2).2.2.2)) ?_
    unfold dB;simp only [aF,e1,cond_true,aD c.ay.ar i hi',aB,hw,is,show ((0:Int) !=0)=false from rfl,cond_false,bq,l0,g0,bF b1,dec_f b2,dec_f b3,gw,dec_f b4,gh];rw [evq',dec_f b5];rfl
   have hmem:=ea.1 ⟨by omega,by omega,by omega,b5⟩
   rw [aX (y:=(ds,c.ay.ar,(c.ay.ar.length:Int),((i+1:Nat):Int),c.au.1,c.au.2,c.ax.aa,c.ay.aq,c.ay.ar,c.az.ai.ac,c.az.ai.ae,c.az.ai.af,c.az.aj,c.az.am,c.ba)) (by
    unfold dB;simp only [aF,e1,cond_true,aD c.ay.ar i hi',aB,hw,is,show ((0:Int) !=0)=false from rfl,cond_false,bq,l0,g0,bF b1,dec_f b2,dec_f b3,gw,dec_f b4,gh,sl,sc];rw [evq',aJ b5]
    rfl),ih (i+1) ds (by omega) (by omega) (by simp at hds;omega)]
   have same:((∀j,i<=j->j<c.ay.ar.length->lG c.ax.aa (c.ay.ar[j]!).2)/\aW c.ax.aa c.au c.az.aj (c.ay.ar.drop i) (d0::ds))↔((∀j,i+1<=j->j<c.ay.ar.length->lG c.ax.aa (c.ay.ar[j]!).2)/\aW c.ax.aa c.au c.az.aj (c.ay.ar.drop (i+1)) ds):=by
    rw [dr,all];constructor
    · rintro ⟨⟨_,h1⟩,h2⟩
      obtain ⟨d,ds',k1,k2,k3,k4⟩:=h2.1 is;injection k1 with k1 k5;subst k5;exact ⟨h1,k4⟩
    rintro ⟨h1,h2⟩
    exact ⟨⟨hb,h1⟩,fun _=>⟨d0,ds,rfl,b1,hmem,h2⟩,fun h=>by rw [is] at h;cases h⟩
   simp only [same]
theorem bG.iff {c:aQ} (fit:wI c):bG c↔cS c.au/\bS c.ax.aa/\fL c.ay/\fJ c.az/\c.az.am.length=200/\c.az.aj.length=c.ba.length/\(∀i,i<c.ay.ar.length->lG c.ax.aa (c.ay.ar[i]!).2)/\aW c.ax.aa c.au c.az.aj c.ay.ar c.ba:=
 ⟨fun h=>⟨h.nowv,h.fld,h.crt,h.agd,h.w200,h.hd,h.known,h.fol⟩,fun ⟨h1,h2,h3,h4,h5,h6,h7,h8⟩=>⟨h1,fit.now64,h2,h3,h4,h5,h6,h7,h8⟩⟩
theorem bG.fit {c:aQ} (ok:bG c):wI c:=⟨ok.now64,ok.agd.fit,by have:=ok.hd;have:=ok.agd.bd;omega⟩
theorem YV {c:aQ} {n0 n1 n2 n3:Int}:
 aH fN (4,0,c.au.1,c.au.2,c.ax.aa,c.ay.aq,c.ay.ar,c.az.ai.ac,c.az.ai.ae,c.az.ai.af,c.az.aj,c.az.am,c.ba,[n0,n1,n2,n3])=
  if n0=0/\n1=0/\n2=0/\n3=0 then aH fN (4,4,c.au.1,c.au.2,c.ax.aa,c.ay.aq,c.ay.ar,c.az.ai.ac,c.az.ai.ae,c.az.ai.af,c.az.aj,c.az.am,c.ba,[n0,n1,n2,n3]) else some 8:=by
 have st: ∀(i:Nat) (n:Int),i<4->aN [n0,n1,n2,n3] (i:Int)=some n->aH fN (4,(i:Int),c.au.1,c.au.2,c.ax.aa,c.ay.aq,c.ay.ar,c.az.ai.ac,c.az.ai.ae,c.az.ai.af,c.az.aj,c.az.am,c.ba,[n0,n1,n2,n3])=
  if n=0 then aH fN (4,((i+1:Nat):Int),c.au.1,c.au.2,c.ax.aa,c.ay.aq,c.ay.ar,c.az.ai.ac,c.az.ai.ae,c.az.ai.af,c.az.aj,c.az.am,c.ba,[n0,n1,n2,n3]) else some 8:=by
  intro i n hi hg;have e1:decide ((i:Int)<4)=true:=aJ (by omega)
  by_cases h:n=0
  · rw [if_pos h]
    refine aX ?_;unfold fN;simp only [e1,cond_true,hg,aB,bF h,cond_false,aU (show i<1000000000 by omega)]
  rw [if_neg h]
  refine aL ?_;unfold fN;simp only [e1,cond_true,hg,aB,cN h]
 have s0:=st 0 n0 (by omega) rfl
 have s1:=st 1 n1 (by omega) rfl
 have s2:=st 2 n2 (by omega) rfl
 have s3:=st 3 n3 (by omega) rfl
 have c0:((0:Nat):Int)=0:=rfl;have c4:((3+1:Nat):Int)=4:=rfl;rw [c0] at s0;rw [c4] at s3;rw [s0]
 by_cases h0:n0=0
 · rw [if_pos h0,show ((0+1:Nat):Int)=((1:Nat):Int) from rfl,s1]
   by_cases h1:n1=0
   · rw [if_pos h1,show ((1+1:Nat):Int)=((2:Nat):Int) from rfl,s2]
     by_cases h2:n2=0
     · rw [if_pos h2,show ((2+1:Nat):Int)=((3:Nat):Int) from rfl,s3]
       by_cases h3:n3=0
       · rw [if_pos h3,if_pos ⟨h0,h1,h2,h3⟩]
       rw [if_neg h3,if_neg (fun h=>h3 h.2.2.2)]
     rw [if_neg h2,if_neg (fun h=>h2 h.2.2.1)]
   rw [if_neg h1,if_neg (fun h=>h1 h.2.1)]
 rw [if_neg h0,if_neg (fun h=>h0 h.1)]
theorem oY {c:aQ} (fit:wI c):iG c=some (if bG c then 0 else 8):=by
 unfold iG;rw [gQ fit.now64,gS,A2,nL _ fit.ag];simp only [aB];have h4:Int.ofNat [if cS c.au then (0:Int) else 8,yU c.ax.aa,if fL c.ay then (0:Int) else 8,if fJ c.az then (0:Int) else 8].length=4:=rfl
 rw [h4,YV];have z: ∀(p:Prop) [Decidable p],(if p then (0:Int) else 8)=0↔p:=fun p _=>by by_cases h:p<;>simp [h]
 simp only [z,fZ];have f1:=bG.iff fit
 by_cases ok:cS c.au/\bS c.ax.aa/\fL c.ay/\fJ c.az
 case neg=>rw [if_neg ok,if_neg (c:=bG c) (fun h=>ok ⟨h.nowv,h.fld,h.crt,h.agd⟩)]
 obtain ⟨nowv,fld,crt,agd⟩:=ok;rw [if_pos ⟨nowv,fld,crt,agd⟩]
 by_cases w2:c.az.am.length=200
 case neg=>
  rw [if_neg (c:=bG c) (fun h=>w2 h.w200)]
  refine aL ?_;unfold fN;simp only [aF,dec_f (show¬(4:Int)<4 by omega),cond_false,cN (show¬(c.az.am.length:Int)=200 by omega),cond_true]
 by_cases hd:c.az.aj.length=c.ba.length
 case neg=>
  rw [if_neg (c:=bG c) (fun h=>hd h.hd)]
  refine aL ?_;unfold fN;simp only [aF,dec_f (show¬(4:Int)<4 by omega),cond_false,bF (show (c.az.am.length:Int)=200 by omega),cN (show¬(c.az.aj.length:Int)=(c.ba.length:Int) by omega),cond_true]
 have run:=YU nowv fit.now64 fld crt agd w2 c.ay.ar.length 0 c.ba (by omega) (by omega) fit.du
 rw [de] at run;have same:((∀j,0<=j->j<c.ay.ar.length->lG c.ax.aa (c.ay.ar[j]!).2)/\aW c.ax.aa c.au c.az.aj c.ay.ar c.ba)↔bG c:=by
  rw [f1];constructor
  · rintro ⟨h1,h2⟩;exact ⟨nowv,fld,crt,agd,w2,hd,fun i hi=>h1 i (by omega) hi,h2⟩
  rintro ⟨_,_,_,_,_,_,h1,h2⟩;exact ⟨fun j _ hj=>h1 j hj,h2⟩
 simp only [same] at run;refine aL ?_;unfold fN;simp only [aF,dec_f (show¬(4:Int)<4 by omega),cond_false,bF (show (c.az.am.length:Int)=200 by omega),bF (show (c.az.aj.length:Int)=(c.ba.length:Int) by omega)]
 exact run
theorem aNx {a:aO} (ok:fJ a) (h:Int×Int):yO a h=some (if AH a.ai h then (a.aj[(a.am[h.1.toNat]!).toNat]!,0) else ((0,0,0,0,0),6)):=by
 unfold yO;rw [E7 a ok.fit,if_pos ok,aCo ok.so];simp only [aB,show ((0:Int) !=0)=false from rfl,cond_false]
 by_cases lv:AH a.ai h
 · obtain ⟨i,hi,hw,hh⟩:=ok.live lv
   have:=lv.1;have:=lv.2.1;have:=ok.wl
   rw [aJ lv,if_pos lv,eD (l:=a.am) lv.1 (by omega),hw]
   simp only [bq,cond_false,aB,aD a.aj i hi,bu]
 rw [dec_f lv,if_neg lv];rfl
theorem YW {c:aQ} (now64:tH c.au) (fld:bS c.ax.aa) (crt:fL c.ay) (agd:fJ c.az) (w2:c.az.am.length=200) (hdu:c.ba.length<=1000000)
 (kn: ∀i,i<c.ay.ar.length->lG c.ax.aa (c.ay.ar[i]!).2):
 ∀(d i k:Nat),c.ay.ar.length-i<=d->i<=c.ay.ar.length->k<=c.ba.length->
  aH dX ((k:Int),(i:Int),c.au.1,c.au.2,c.ax.aa,c.ay.aq,c.ay.ar,c.az.ai.ac,c.az.ai.ae,c.az.ai.af,c.az.aj,c.az.am,c.ba)=
   some (if aW c.ax.aa c.au c.az.aj (c.ay.ar.drop i) (c.ba.drop k) then 0 else 8):=by
 have hl:=crt.len;have wl:=agd.wl
 have fin: ∀k:Nat,k<=c.ba.length->aH dX ((k:Int),(c.ay.ar.length:Int),c.au.1,c.au.2,c.ax.aa,c.ay.aq,c.ay.ar,c.az.ai.ac,c.az.ai.ae,c.az.ai.af,c.az.aj,c.az.am,c.ba)=some (if aW c.ax.aa c.au c.az.aj (c.ay.ar.drop c.ay.ar.length) (c.ba.drop k) then 0 else 8):=by
  intro k hk;rw [cq];refine aL ?_;unfold dX;have e1:decide ((c.ay.ar.length:Int)<(c.ay.ar.length:Int))=false:=dec_f (by omega)
  simp only [aF,e1,cond_false]
  have:aW c.ax.aa c.au c.az.aj [] (c.ba.drop k)↔k=c.ba.length:=by
   show c.ba.drop k=[]↔_;rw [cu];omega
  by_cases h:k=c.ba.length
  · rw [if_pos (this.2 h),bF (by omega)];rfl
  rw [if_neg (fun x=>h (this.1 x)),cN (by omega)];rfl
 intro d
 induction d with
 |zero=>
  intro i k hd hi hk
  have:i=c.ay.ar.length:=by omega
  subst this;exact fin k hk
 |succ d ih=>
  intro i k hd hi hk
  by_cases he:i=c.ay.ar.length
  · subst he;exact fin k hk
  have hi':i<c.ay.ar.length:=by omega
  have e1:decide ((i:Int)<(c.ay.ar.length:Int))=true:=aJ (by omega)
  have hw:=A5 fld (x:=(c.ay.ar[i]!).2) (t:=(c.au.1,c.au.2)) now64 (kn i hi');have dr:=xU hi';have sc:=aU (show i<1000000000 by omega)
  have sk:=aU (show k<1000000000 by omega)
  by_cases is:(bL c.ax.aa (c.ay.ar[i]!).2 c.au).2=true
  case neg=>
   have is':(bL c.ax.aa (c.ay.ar[i]!).2 c.au).2=false:=by simpa using is
   rw [aX (y:=((k:Int),((i+1:Nat):Int),c.au.1,c.au.2,c.ax.aa,c.ay.aq,c.ay.ar,c.az.ai.ac,c.az.ai.ae,c.az.ai.af,c.az.aj,c.az.am,c.ba)) (by
    unfold dX;simp only [aF,e1,cond_true,aD c.ay.ar i hi',aB,hw,sc,is',ck]),ih (i+1) k (by omega) (by omega) hk]
   have same:aW c.ax.aa c.au c.az.aj (c.ay.ar.drop i) (c.ba.drop k)↔aW c.ax.aa c.au c.az.aj (c.ay.ar.drop (i+1)) (c.ba.drop k):=by
    rw [dr];exact ⟨fun h=>h.2 is',fun h=>⟨fun h'=>absurd h' is,fun _=>h⟩⟩
   simp only [same]
  have stop:(¬aW c.ax.aa c.au c.az.aj (c.ay.ar.drop i) (c.ba.drop k))->dX ((k:Int),(i:Int),c.au.1,c.au.2,c.ax.aa,c.ay.aq,c.ay.ar,c.az.ai.ac,c.az.ai.ae,c.az.ai.af,c.az.aj,c.az.am,c.ba)=some (.done 8)->
   aH dX ((k:Int),(i:Int),c.au.1,c.au.2,c.ax.aa,c.ay.aq,c.ay.ar,c.az.ai.ac,c.az.ai.ae,c.az.ai.af,c.az.aj,c.az.am,c.ba)=some (if aW c.ax.aa c.au c.az.aj (c.ay.ar.drop i) (c.ba.drop k) then 0 else 8):=by
   intro h1 h2;rw [if_neg h1];exact aL h2
  by_cases hkl:k=c.ba.length
  · refine stop (fun h=>?_) ?_
    · rw [dr] at h
      obtain ⟨d,ds',h1,_⟩:=h.1 is;rw [hkl,cq] at h1;cases h1
    unfold dX
    simp only [aF,e1,cond_true,aD c.ay.ar i hi',aB,hw,is,bq,cond_false,aJ (show (c.ba.length:Int)<=(k:Int) by omega)]
  have hk':k<c.ba.length:=by omega
  have dk:=xU hk';have e2:decide ((c.ba.length:Int)<=(k:Int))=false:=dec_f (by omega)
  have fol: ¬((c.ba[k]!).1=(c.ay.ar[i]!).1/\(((bL c.ax.aa (c.ay.ar[i]!).2 c.au).1.1,(bL c.ax.aa (c.ay.ar[i]!).2 c.au).1.2,(c.ay.ar[i]!).1,(c.ba[k]!).2):Ev)∈c.az.aj)-> ¬aW c.ax.aa c.au c.az.aj (c.ay.ar.drop i) (c.ba.drop k):=by
   intro hn h;rw [dr,dk] at h;obtain ⟨d,ds',h1,h2,h3,_⟩:=h.1 is;injection h1 with h1 _;subst h1;exact hn ⟨h2,h3⟩
  by_cases b1:(c.ba[k]!).1=(c.ay.ar[i]!).1
  case neg=>
   refine stop (fol (fun h=>b1 h.1)) ?_
   unfold dX;simp only [aF,e1,cond_true,aD c.ay.ar i hi',aB,hw,is,bq,cond_false,e2,aD c.ba k hk',cN b1]
  have fi:=aNx agd (c.ba[k]!).2;have ea:=aOr agd w2 (bL c.ax.aa (c.ay.ar[i]!).2 c.au).1 (c.ay.ar[i]!).1 (c.ba[k]!).2;have fi':yO (aO.mk (bC.mk c.az.ai.ac c.az.ai.ae c.az.ai.af) c.az.aj c.az.am) (c.ba[k]!).2=_:=fi
  by_cases lv:AH c.az.ai (c.ba[k]!).2
  case neg=>
   rw [if_neg lv] at fi';refine stop (fol (fun h=>lv ?_)) ?_
   · obtain ⟨w,hw',hev⟩:=aY.1 h.2
     have:=(agd.handle hw').1
     rwa [hev] at this
   unfold dX
   simp only [aF,e1,cond_true,aD c.ay.ar i hi',aB,hw,is,bq,cond_false,e2,aD c.ba k hk',bF b1,fi',show ((6:Int) !=0)=true from rfl]
  rw [if_pos lv] at fi';obtain ⟨w,hw1,hw2,hw3⟩:=agd.live lv;rw [hw2,bu] at fi';have q1:(0<=(c.ba[k]!).2.1/\(c.ba[k]!).2.1<200/\0<=c.az.am[(c.ba[k]!).2.1.toNat]!):=⟨lv.1,by have:=lv.2.1;omega,by rw [hw2];omega⟩
  by_cases b2:(c.az.aj[w]!).2.2.1=(c.ay.ar[i]!).1
  case neg=>
   refine stop (fol (fun h=>b2 ?_)) ?_
   · have:=(ea.2 h.2).2.2.2
     rw [hw2,bu] at this;rw [this]
   unfold dX
   simp only [aF,e1,cond_true,aD c.ay.ar i hi',aB,hw,is,bq,cond_false,e2,aD c.ba k hk',bF b1,fi',show ((0:Int) !=0)=false from rfl,cN b2]
  have teq:((c.az.aj[w]!).1==(bL c.ax.aa (c.ay.ar[i]!).2 c.au).1.1&&(c.az.aj[w]!).2.1==(bL c.ax.aa (c.ay.ar[i]!).2 c.au).1.2)=decide (((c.az.aj[w]!).1,(c.az.aj[w]!).2.1)=(bL c.ax.aa (c.ay.ar[i]!).2 c.au).1):=by
   rw [db,decide_eq_true_iff];simp only [dy,beq_iff_eq];constructor
   · rintro ⟨h1,h2⟩;exact ci h1 h2
   intro h;rw [<- h];exact ⟨rfl,rfl⟩
  by_cases b3:((c.az.aj[w]!).1,(c.az.aj[w]!).2.1)=(bL c.ax.aa (c.ay.ar[i]!).2 c.au).1
  case neg=>
   refine stop (fol (fun h=>b3 ?_)) ?_
   · have:=(ea.2 h.2).2.2.2
     rw [hw2,bu] at this;rw [this]
   unfold dX
   simp only [aF,e1,cond_true,aD c.ay.ar i hi',aB,hw,is,bq,cond_false,e2,aD c.ba k hk',bF b1,fi',show ((0:Int) !=0)=false from rfl,bF b2];rw [teq,dec_f b3];rfl
  have hmem:=ea.1 ⟨q1.1,q1.2.1,q1.2.2,by
   rw [hw2,bu];have t1:=congrArg d9 b3;have t2:=congrArg eb b3;exact ci t1 (ci t2 (ci b2 hw3))⟩
  rw [aX (y:=(((k+1:Nat):Int),((i+1:Nat):Int),c.au.1,c.au.2,c.ax.aa,c.ay.aq,c.ay.ar,c.az.ai.ac,c.az.ai.ae,c.az.ai.af,c.az.aj,c.az.am,c.ba)) (by
   unfold dX;simp only [aF,e1,cond_true,aD c.ay.ar i hi',aB,hw,is,bq,cond_false,e2,aD c.ba k hk',bF b1,fi',show ((0:Int) !=0)=false from rfl,bF b2,sc,sk];rw [teq,aJ b3]
   rfl),ih (i+1) (k+1) (by omega) (by omega) (by omega)]
  have same:aW c.ax.aa c.au c.az.aj (c.ay.ar.drop i) (c.ba.drop k)↔aW c.ax.aa c.au c.az.aj (c.ay.ar.drop (i+1)) (c.ba.drop (k+1)):=by
   rw [dr,dk];constructor
   · intro h2
     obtain ⟨d,ds',k1,k2,k3,k4⟩:=h2.1 is;injection k1 with k1 k5;subst k5;exact k4
   intro h2
   exact ⟨fun _=>⟨_,_,rfl,b1,hmem,h2⟩,fun h=>by rw [is] at h;cases h⟩
  simp only [same]
theorem P1 {c:aQ} (fit:wI c):zY c=some (if bG c then 0 else 8):=by
 unfold zY;rw [E3 fit.now64,yV,FA,E7 _ fit.ag];simp only [aB]
 by_cases nowv:cS c.au
 case neg=>rw [if_neg nowv,if_neg (c:=bG c) (fun h=>nowv h.nowv)];rfl
 rw [if_pos nowv]
 by_cases fld:bS c.ax.aa
 case neg=>rw [cN (fun h=>fld (fZ.1 h)),if_neg (c:=bG c) (fun h=>fld h.fld)];rfl
 rw [bF (fZ.2 fld)]
 by_cases crt:fL c.ay
 case neg=>rw [if_neg crt,if_neg (c:=bG c) (fun h=>crt h.crt)];rfl
 rw [if_pos crt];have kn:=aFV c.ay fld crt.len;simp only [show ((0:Int) !=0)=false from rfl,cond_false,kn,aB]
 by_cases known: ∀i,i<c.ay.ar.length->lG c.ax.aa (c.ay.ar[i]!).2
 case neg=>rw [dec_f known,if_neg (c:=bG c) (fun h=>known h.known)];rfl
 rw [aJ known]
 by_cases agd:fJ c.az
 case neg=>rw [if_neg agd,if_neg (c:=bG c) (fun h=>agd h.agd)];rfl
 rw [if_pos agd];simp only [aF,show ((0:Int) !=0)=false from rfl,cond_false,bq]
 by_cases w2:c.az.am.length=200
 case neg=>rw [cN (by omega),if_neg (c:=bG c) (fun h=>w2 h.w200)];rfl
 rw [bF (by omega)]
 by_cases hd:c.az.aj.length=c.ba.length
 case neg=>rw [cN (by omega),if_neg (c:=bG c) (fun h=>hd h.hd)];rfl
 rw [bF (by omega)]
 have run:=YW fit.now64 fld crt agd w2 fit.du known c.ay.ar.length 0 0 (by omega) (by omega) (by omega)
 rw [de,de] at run;have same:aW c.ax.aa c.au c.az.aj c.ay.ar c.ba↔bG c:=by
  rw [bG.iff fit];exact ⟨fun h=>⟨nowv,fld,crt,agd,w2,hd,known,h⟩,fun h=>h.2.2.2.2.2.2.2⟩
 simp only [same] at run;simp only [cond_false];exact run
section
variable {l : List Pt} {t : Int × Int}
theorem aW.cons_true {H:List Ev} {x:wU} {cs ds:List wU} (h:(bL l x.2 t).2=true):aW l t H (x::cs) ds↔ ∃d ds',ds=d::ds'/\d.1=x.1/\(((bL l x.2 t).1.1,(bL l x.2 t).1.2,x.1,d.2):Ev)∈H/\aW l t H cs ds':=
 ⟨fun k=>k.1 h,fun k=>⟨fun _=>k,fun k'=>(by rw [h] at k';cases k')⟩⟩
theorem aW.cons_false {H:List Ev} {x:wU} {cs ds:List wU} (h:(bL l x.2 t).2=false):aW l t H (x::cs) ds↔aW l t H cs ds:=
 ⟨fun k=>k.2 h,fun k=>⟨fun k'=>(by rw [h] at k';cases k'),fun _=>k⟩⟩
theorem aW.mono {H H':List Ev}: ∀{cs ds:List wU},(∀x∈cs,∀e:Ev,e.num=x.1->e∈H->e∈H')->aW l t H cs ds->aW l t H' cs ds
 | [],_,_,h=>h
 |x::cs,ds,hm,h=>by
  have hm': ∀y∈cs,∀e:Ev,e.num=y.1->e∈H->e∈H':=fun y hy=>hm y (by simp [hy])
  cases hx:(bL l x.2 t).2 with
  |true=>
   rw [aW.cons_true hx] at h ⊢;obtain ⟨d,ds',h1,h2,h3,h4⟩:=h;exact ⟨d,ds',h1,h2,hm x (by simp) _ rfl h3,aW.mono hm' h4⟩
  |false=>
   rw [aW.cons_false hx] at h ⊢;exact aW.mono hm' h
theorem aW.ba {H:List Ev}: ∀{cs ds:List wU},aW l t H cs ds-> ∀d∈ds,∃x∈cs,d.1=x.1/\(bL l x.2 t).2=true/\(((bL l x.2 t).1.1,(bL l x.2 t).1.2,x.1,d.2):Ev)∈H
 | [],ds,h,d,hd=>by
  have:ds=[]:=h
  subst this;cases hd
 |x::cs,ds,h,d,hd=>by
  cases hx:(bL l x.2 t).2 with
  |true=>
   rw [aW.cons_true hx] at h;obtain ⟨e,ds',h1,h2,h3,h4⟩:=h;subst h1;rcases di.1 hd with rfl|hd
   · exact ⟨x,by simp,h2,hx,h3⟩
   obtain ⟨y,hy,k⟩:=aW.ba h4 d hd
   exact ⟨y,by simp [hy],k⟩
  |false=>
   rw [aW.cons_false hx] at h;obtain ⟨y,hy,k⟩:=aW.ba h d hd;exact ⟨y,by simp [hy],k⟩
theorem aW.has {H:List Ev}: ∀{cs ds:List wU},aW l t H cs ds-> ∀x∈cs,(bL l x.2 t).2=true-> ∃d∈ds,d.1=x.1/\(((bL l x.2 t).1.1,(bL l x.2 t).1.2,x.1,d.2):Ev)∈H
 | [],_,_,x,hx,_=>by cases hx
 |y::cs,ds,h,x,hx,hf=>by
  cases hy:(bL l y.2 t).2 with
  |true=>
   rw [aW.cons_true hy] at h;obtain ⟨e,ds',h1,h2,h3,h4⟩:=h;subst h1;rcases di.1 hx with rfl|hx
   · exact ⟨e,by simp,h2,h3⟩
   obtain ⟨d,hd,k⟩:=aW.has h4 x hx hf
   exact ⟨d,by simp [hd],k⟩
  |false=>
   rw [aW.cons_false hy] at h;rcases di.1 hx with rfl|hx
   · rw [hf] at hy;cases hy
   exact aW.has h x hx hf
def Up (cs:List wU):Prop:=cs.Pairwise fun x y=>x.1<y.1
theorem xN {cs:List wU}:Up cs↔ ∀i j,i<j->j<cs.length->(cs[i]!).1<(cs[j]!).1:=by
 unfold Up;rw [List.pairwise_iff_getElem];constructor
 · intro h i j hij hj
   rw [getElem!_pos cs i (by omega),getElem!_pos cs j hj]
   exact h i j (by omega) hj hij
 intro h i j hi hj hij
 have:=h i j hij hj
 rwa [getElem!_pos cs i hi,getElem!_pos cs j hj] at this
theorem aW.up {H:List Ev}: ∀{cs ds:List wU},aW l t H cs ds->Up cs->Up ds
 | [],ds,h,_=>by
  have:ds=[]:=h
  subst this;exact List.Pairwise.nil
 |x::cs,ds,h,hu=>by
  have hu':=dp.1 hu;cases hx:(bL l x.2 t).2 with
  |true=>
   rw [aW.cons_true hx] at h;obtain ⟨e,ds',h1,h2,h3,h4⟩:=h;subst h1;refine dp.2 ⟨fun d hd=>?_,aW.up h4 hu'.2⟩
   obtain ⟨y,hy,k,_⟩:=aW.ba h4 d hd
   have:=hu'.1 y hy
   omega
  |false=>
   rw [aW.cons_false hx] at h;exact aW.up h hu'.2
theorem aW.snoc {H:List Ev}: ∀{cs ds:List wU} {x:wU},aW l t H cs ds->((bL l x.2 t).2=false->aW l t H (cs++[x]) ds)/\
 (∀d:wU,(bL l x.2 t).2=true->d.1=x.1->(((bL l x.2 t).1.1,(bL l x.2 t).1.2,x.1,d.2):Ev)∈H->aW l t H (cs++[x]) (ds++[d]))
 | [],ds,x,h=>by
  have:ds=[]:=h
  subst this;refine ⟨fun hx=>(aW.cons_false hx).2 rfl,fun d hx h1 h2=>(aW.cons_true hx).2 ⟨d,[],rfl,h1,h2,rfl⟩⟩
 |y::cs,ds,x,h=>by
  cases hy:(bL l y.2 t).2 with
  |true=>
   rw [aW.cons_true hy] at h;obtain ⟨e,ds',h1,h2,h3,h4⟩:=h;subst h1;have ih:=aW.snoc (x:=x) h4;refine ⟨fun hx=>(aW.cons_true hy).2 ⟨e,ds',rfl,h2,h3,ih.1 hx⟩,fun d hx k1 k2=>(aW.cons_true hy).2 ⟨e,ds'++[d],rfl,h2,h3,ih.2 d hx k1 k2⟩⟩
  |false=>
   rw [aW.cons_false hy] at h;have ih:=aW.snoc (x:=x) h;exact ⟨fun hx=>(aW.cons_false hy).2 (ih.1 hx),fun d hx k1 k2=>(aW.cons_false hy).2 (ih.2 d hx k1 k2)⟩
theorem aW.erase {H:List Ev}: ∀{cs ds:List wU} {i:Nat},aW l t H cs ds->i<cs.length->((bL l (cs[i]!).2 t).2=false->aW l t H (cs.eraseIdx i) ds)/\
 ((bL l (cs[i]!).2 t).2=true-> ∃k,k<ds.length/\(ds[k]!).1=(cs[i]!).1/\(((bL l (cs[i]!).2 t).1.1,(bL l (cs[i]!).2 t).1.2,(cs[i]!).1,(ds[k]!).2):Ev)∈H/\aW l t H (cs.eraseIdx i) (ds.eraseIdx k))
 | [],_,i,_,hi=>by cases hi
 |y::cs,ds,0,h,_=>by
  show ((bL l y.2 t).2=false->aW l t H cs ds)/\((bL l y.2 t).2=true-> ∃k,k<ds.length/\(ds[k]!).1=y.1/\(((bL l y.2 t).1.1,(bL l y.2 t).1.2,y.1,(ds[k]!).2):Ev)∈H/\aW l t H cs (ds.eraseIdx k));refine ⟨fun hy=>(aW.cons_false hy).1 h,fun hy=>?_⟩
  obtain ⟨e,ds',h1,h2,h3,h4⟩:=(aW.cons_true hy).1 h;subst h1;exact ⟨0,by simp,h2,h3,h4⟩
 |y::cs,ds,i+1,h,hi=>by
  have hi':i<cs.length:=by simpa using hi
  show ((bL l (cs[i]!).2 t).2=false->aW l t H (y::cs.eraseIdx i) ds)/\((bL l (cs[i]!).2 t).2=true-> ∃k,k<ds.length/\(ds[k]!).1=(cs[i]!).1/\(((bL l (cs[i]!).2 t).1.1,(bL l (cs[i]!).2 t).1.2,(cs[i]!).1,(ds[k]!).2):Ev)∈H/\aW l t H (y::cs.eraseIdx i) (ds.eraseIdx k));cases hy:(bL l y.2 t).2 with
  |true=>
   obtain ⟨e,ds',h1,h2,h3,h4⟩:=(aW.cons_true hy).1 h;subst h1;have ih:=aW.erase (i:=i) h4 hi';refine ⟨fun hx=>(aW.cons_true hy).2 ⟨e,ds',rfl,h2,h3,ih.1 hx⟩,fun hx=>?_⟩
   obtain ⟨k,k1,k2,k3,k4⟩:=ih.2 hx;exact ⟨k+1,by simp;omega,k2,k3,(aW.cons_true hy).2 ⟨e,ds'.eraseIdx k,rfl,h2,h3,k4⟩⟩
  |false=>
   have h:=(aW.cons_false hy).1 h;have ih:=aW.erase (i:=i) h hi';refine ⟨fun hx=>(aW.cons_false hy).2 (ih.1 hx),fun hx=>?_⟩
   obtain ⟨k,k1,k2,k3,k4⟩:=ih.2 hx;exact ⟨k,k1,k2,k3,(aW.cons_false hy).2 k4⟩
end
theorem MC {H:List Ev} {ns:List Int} (hd:ns.Nodup) (hl:H.length<=ns.length) (he: ∀n∈ns,∃e∈H,Ev.num e=n): ∀e∈H,Ev.num e∈ns:=by
 have pos: ∀n,n∈ns-> ∃w,w<H.length/\Ev.num H[w]! =n:=fun n hn=>by
  obtain ⟨e,he,h2⟩:=he n hn;obtain ⟨w,hw,rfl⟩:=aY.1 he;exact ⟨w,hw,h2⟩
 let f:Int->Nat:=fun n=>if h: ∃w,w<H.length/\Ev.num H[w]! =n then h.choose else 0
 have hf: ∀n∈ns,f n<H.length/\Ev.num H[f n]! =n:=fun n hn=>by
  have h:=pos n hn;show (if h: ∃w,w<H.length/\Ev.num H[w]! =n then h.choose else 0)<_/\Ev.num H[(if h: ∃w,w<H.length/\Ev.num H[w]! =n then h.choose else 0)]! =n
  rw [dif_pos h];exact h.choose_spec
 have full:=L7 (n:=H.length) (l:=ns.map f) (GE hd fun x hx y hy h=>by
  have h1:=(hf x hx).2;have h2:=(hf y hy).2;rw [h] at h1
  omega) (fun x hx=>by
  obtain ⟨n,hn,rfl⟩:=cj.1 hx;exact (hf n hn).1) (by rw [d6];exact hl)
 intro e hm;obtain ⟨w,hw,rfl⟩:=aY.1 hm;obtain ⟨n,hn,h⟩:=cj.1 (full w hw);rw [<- h,(hf n hn).2];exact hn
theorem YX {cs:List wU} (h:Up cs):(cs.map fun x=>x.1).Nodup:=by
 refine GE ?_ ?_
 · unfold Up at h
   exact h.imp fun hab he=>by rw [he] at hab;omega
 intro x hx y hy he
 obtain ⟨i,hi,rfl⟩:=aY.1 hx;obtain ⟨j,hj,rfl⟩:=aY.1 hy;rcases cy i j with h1|h1|h1
 · have:=xN.1 h i j h1 hj;omega
 · rw [h1]
 have:=xN.1 h j i h1 hi;omega
theorem bG.crt_up {c:aQ} (ok:bG c):Up c.ay.ar:=xN.2 ok.crt.up
theorem bG.due_up {c:aQ} (ok:bG c):Up c.ba:=ok.fol.up ok.crt_up
theorem bG.nums {c:aQ} (ok:bG c): ∀e∈c.az.aj,∃d∈c.ba,d.1=Ev.num e:=by
 have:=MC (H:=c.az.aj) (YX ok.due_up) (by rw [d6,ok.hd];exact bv _) (fun n hn=>by
  obtain ⟨d,hd,rfl⟩:=cj.1 hn;obtain ⟨x,hx,h1,h2,h3⟩:=ok.fol.ba d hd;exact ⟨_,h3,h1.symm⟩)
 intro e he;obtain ⟨d,hd,h⟩:=cj.1 (this e he);exact ⟨d,hd,h⟩
end Go.Proofs.YtogihpogmfjoiaaGreat
