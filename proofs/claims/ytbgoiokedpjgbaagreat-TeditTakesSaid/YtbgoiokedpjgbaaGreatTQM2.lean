/- Plain laws (2). -/
import Derived.Test.YtbgoiokedpjgbaaGreatTQM1
open Classical renaming not_not->bm,not_forall->bv,not_imp->bz
open List renaming length_set->bn,length_take->bw,take_of_length_le->cb,take_append_of_le_length->cd,mem_map->cf,append_assoc->cj,drop_length->cm,drop_eq_nil_iff->cp,length_append->cq,set_eq_of_length_le->cw,length_drop->cy,drop_eq_nil_of_le->c7,drop_zero->dd,filter_eq_self->de,mem_cons->dh,getElem?_take->di,filter_append->dj,pairwise_cons->dm,getElem?_set->dp,length_cons->dt,isEmpty_iff->dv,length_nil->dy,append_nil->dz,length_map->d5,replicate->d6,take_take->d7,set_comm->eb
open Bool renaming not_true->bo,not_false->ci,eq_iff_iff->db,and_eq_true->dw,and_self->ec
open Int renaming toNat_natCast->bq,lt_irrefl->df
open Nat renaming le_refl->bu,ble_eq_true_of_le->ck,lt_trichotomy->cu,sub_self->c6,eq_of_beq_eq_true->dc,le_trans->ed,beq->ef,min_self->eg
open Prod renaming ext->ce,fst->d8,snd->d9
open Iff renaming rfl->cz
namespace Go.Proofs.YtbgoiokedpjgbaaGreat
open Go.Vm Classical
theorem UY (a:aP) (fit:E6 a) (so:fJ a.ai) (wl:a.am.length=a.ai.ac.length):
 aG nG (a.am,(a.am.length:Int),0,a.ai.ac,a.ai.ae,a.ai.af,a.aj,a.am)=some (if (∀i,i<a.ai.ac.length->PL a i)/\(∀k,k<a.aj.length->Q0 a.aj k) then 0 else 8):=by
 have hu:=so.ul;have hn:=so.n2;have hh:=fit.hp;have inner:=UX a.aj a.ai.ac a.ai.af a.am a.ai.ae fit.hp fit.at64
 have key:=dM (body:=nG) (fun i=>(a.am,(a.am.length:Int),(i:Int),a.ai.ac,a.ai.ae,a.ai.af,a.aj,a.am)) a.am.length (fun i=> ¬PL a i) (r:=8) (e:=if (∀k,k<a.aj.length->Q0 a.aj k) then 0 else 8) (fun i hi=>by
  have e1:decide ((i:Int)<(a.am.length:Int))=true:=aJ (by omega)
  unfold nG;simp only [aF,e1,cond_true,aE a.am i hi,aE a.ai.ae i (by omega),aE a.ai.ac i (by omega),aB,aU (show i<1000000000 by omega)]
  unfold PL;generalize a.am[i]! =w at*;cases hb:a.ai.ae[i]! with
  |false=>
   simp only [ci,cond_true]
   by_cases hw:w= -1
   · rw [bT hw]
     exact ⟨fun h=>absurd ⟨fun h=>(by cases h),fun _=>hw⟩ h,fun _=>rfl⟩
   rw [cP hw]
   exact ⟨fun _=>rfl,fun h=>absurd ((bm.1 h).2 trivial) hw⟩
  |true=>
   simp only [bo,cond_false]
   by_cases b1:w<0
   · rw [aJ b1]
     exact ⟨fun _=>rfl,fun h=>absurd ((bm.1 h).1 trivial).1 (by omega)⟩
   by_cases b2:(a.aj.length:Int)<=w
   · rw [dec_f b1,aJ b2]
     exact ⟨fun _=>rfl,fun h=>absurd ((bm.1 h).1 trivial).2.1 (by omega)⟩
   rw [dec_f b1,dec_f b2];simp only [cond_false,eA (l:=a.aj) (i:=w) (by omega) (by omega),aB]
   by_cases b3:(a.aj[w.toNat]!).2.2.2.1=i
   · by_cases b4:(a.aj[w.toNat]!).2.2.2.2=a.ai.ac[i]!
     · rw [eI b3,eI b4]
       exact ⟨fun h=>absurd ⟨fun _=>⟨by omega,by omega,b3,b4⟩,fun h=>(by cases h)⟩ h,fun _=>rfl⟩
     rw [eI b3,eB b4]
     exact ⟨fun _=>rfl,fun h=>absurd ((bm.1 h).1 trivial).2.2.2 b4⟩
   rw [eB b3]
   exact ⟨fun _=>rfl,fun h=>absurd ((bm.1 h).1 trivial).2.2.1 b3⟩) (by
  unfold nG
  have:decide ((a.am.length:Int)<(a.am.length:Int))=false:=dec_f (by omega)
  simp only [aF,this,cond_false]
  by_cases hx: ∀k,k<a.aj.length->Q0 a.aj k
  · rw [if_pos hx];exact inner.1 hx
  rw [if_neg hx];exact inner.2 hx)
 by_cases hw: ∀i,i<a.ai.ac.length->PL a i
 · refine (key.2 fun i hi=>bm.2 (hw i (by omega))).trans ?_
   by_cases hx: ∀k,k<a.aj.length->Q0 a.aj k
   · rw [if_pos hx,if_pos ⟨hw,hx⟩]
   rw [if_neg hx,if_neg (fun h=>hx h.2)]
 rw [if_neg (fun h=>hw h.1)]
 obtain ⟨i,h⟩:=bv.1 hw;obtain ⟨hi,hx⟩:=bz.1 h;exact key.1 ⟨i,by omega,hx⟩
theorem nH (a:aP) (fit:E6 a):mV a=some (if fH a then 0 else 8):=by
 have hh:=fit.hp;unfold mV;rw [AW _ fit.fr];simp only [aF]
 by_cases so:fJ a.ai
 case neg=>rw [if_neg so,if_neg (fun h=>so h.so)];rfl
 have hu:=so.ul;have hn:=so.n2;have hf:=so.fl;rw [if_pos so];simp only [aB,show ((0:Int) !=0)=false from rfl,cond_false]
 by_cases wl:a.am.length=a.ai.ac.length
 case neg=>
  rw [cP (by omega),if_neg (fun h=>wl h.wl)];rfl
 rw [bT (by omega)]
 have e:aA .i64 ((a.ai.ae.length:Int) - (a.ai.af.length:Int))=((a.ai.ac.length-a.ai.af.length:Nat):Int):=by rw [wi];omega
 rw [e]
 by_cases hl:a.aj.length+a.ai.af.length=a.ai.ac.length
 case neg=>
  rw [cP (by omega),if_neg (fun h=>hl h.hl)];rfl
 rw [bT (by omega)]
 simp only [cond_false];rw [UY a fit so wl]
 by_cases ok:fH a
 · rw [if_pos ok,if_pos ok.to]
 rw [if_neg ok,if_neg]
 intro h;exact ok (fH.of fit so wl hl h.1 h.2)
theorem aFN {x y:Ev} (hx:tB (x.1,x.2.1)) (hy:tB (y.1,y.2.1)):eU x y=some (decide (dY x y)):=by
 unfold eU dY;rw [O5 hx hy];simp only [aB];generalize IB (x.1,x.2.1) (y.1,y.2.1)=c
 by_cases h1:c<0
 · simp [h1]
 by_cases h2:c=0
 · subst h2;simp
 simp only [h1,eB h2,h2,decide_false,cond_false,false_or,false_and]
theorem aCj {s:bD} (ok:fJ s) (h:Int×Int):yI s h=some (decide (AD s h)):=by
 have hu:=ok.ul;unfold yI AD;simp only [aF]
 by_cases a1:0<=h.1
 · by_cases a2:h.1<s.ac.length
   · simp only [a1,a2,decide_true,cond_true,eA (l:=s.ae) a1 (by omega),eA (l:=s.ac) a1 a2,aB,true_and]
     generalize s.ac[h.1.toNat]! =u;cases s.ae[h.1.toNat]!<;>simp [aCg]
   simp [a1,a2]
 simp [a1]
theorem aDo (a:aP) (so:fJ a.ai):xC a=some (decide (a.am.length=a.ai.ac.length/\a.aj.length+a.ai.af.length=a.ai.ac.length/\ ∀i,i<a.ai.ac.length->PL a i)):=by
 have hu:=so.ul;have hn:=so.n2;have hf:=so.fl;unfold xC;simp only [aF]
 by_cases wl:a.am.length=a.ai.ac.length
 case neg=>
  rw [cP (by omega),dec_f (fun h=>wl h.1)];rfl
 rw [bT (by omega)]
 have e:aA .i64 ((a.ai.ac.length:Int) - (a.ai.af.length:Int))=((a.ai.ac.length-a.ai.af.length:Nat):Int):=by rw [wi];omega
 rw [e]
 by_cases hl:a.aj.length+a.ai.af.length=a.ai.ac.length
 case neg=>
  rw [cP (by omega),dec_f (fun h=>hl h.2.1)];rfl
 rw [bT (by omega)]
 simp only [cond_false];have key:=dM (body:=pZ) (fun i=>((a.ai.ac.length:Int),(i:Int),a.ai.ac,a.ai.ae,a.ai.af,a.aj,a.am)) a.ai.ac.length (fun i=> ¬PL a i) (r:=false) (e:=true) (fun i hi=>by
  have e1:decide ((i:Int)<(a.ai.ac.length:Int))=true:=aJ (by omega)
  unfold pZ;simp only [aF,e1,cond_true,aE a.am i (by omega),aE a.ai.ae i (by omega),aB,aU (show i<1000000000 by omega)]
  unfold PL;generalize a.am[i]! =w at*;cases hb:a.ai.ae[i]! with
  |false=>
   simp only [ci,cond_true]
   by_cases hw:w= -1
   · rw [bT hw]
     exact ⟨fun h=>absurd ⟨fun h=>(by cases h),fun _=>hw⟩ h,fun _=>rfl⟩
   rw [cP hw]
   exact ⟨fun _=>rfl,fun h=>absurd ((bm.1 h).2 trivial) hw⟩
  |true=>
   simp only [bo,cond_false]
   by_cases b1:w<0
   · rw [aJ b1]
     exact ⟨fun _=>rfl,fun h=>absurd ((bm.1 h).1 trivial).1 (by omega)⟩
   by_cases b2:(a.aj.length:Int)<=w
   · rw [dec_f b1,aJ b2]
     exact ⟨fun _=>rfl,fun h=>absurd ((bm.1 h).1 trivial).2.1 (by omega)⟩
   rw [dec_f b1,dec_f b2];simp only [cond_false,eA (l:=a.aj) (i:=w) (by omega) (by omega),aB]
   by_cases b3:(a.aj[w.toNat]!).2.2.2.1=i
   · rw [bT b3]
     simp only [cond_false];rw [aCj (s:=⟨a.ai.ac,a.ai.ae,a.ai.af⟩) so];have lv:AD ⟨a.ai.ac,a.ai.ae,a.ai.af⟩ (a.aj[w.toNat]!).2.2.2↔(a.aj[w.toNat]!).2.2.2.2=a.ai.ac[i]!:=by
      unfold AD;dsimp only;rw [b3];constructor
      · intro h;exact h.2.2.2.symm
      intro h;exact ⟨by omega,by omega,by rw [bq];exact hb,by rw [bq];exact h.symm⟩
     simp only [aB,lv]
     by_cases b4:(a.aj[w.toNat]!).2.2.2.2=a.ai.ac[i]!
     · rw [aJ b4]
       exact ⟨fun h=>absurd ⟨fun _=>⟨by omega,by omega,b3,b4⟩,fun h=>(by cases h)⟩ h,fun _=>rfl⟩
     rw [dec_f b4]
     exact ⟨fun _=>rfl,fun h=>absurd ((bm.1 h).1 trivial).2.2.2 b4⟩
   rw [cP b3]
   exact ⟨fun _=>rfl,fun h=>absurd ((bm.1 h).1 trivial).2.2.1 b3⟩) (by
  unfold pZ
  have:decide ((a.ai.ac.length:Int)<(a.ai.ac.length:Int))=false:=dec_f (by omega)
  simp only [this,cond_false])
 by_cases hw: ∀i,i<a.ai.ac.length->PL a i
 · rw [aJ ⟨wl,hl,hw⟩]
   exact key.2 fun i hi=>bm.2 (hw i hi)
 rw [dec_f (fun h=>hw h.2.2)]
 obtain ⟨i,h⟩:=bv.1 hw;obtain ⟨hi,hx⟩:=bz.1 h;exact key.1 ⟨i,hi,hx⟩
theorem YD (H:List Ev) (u fr W:List Int) (us:List Bool) (k:Nat) (hk:k<H.length) (hl:H.length<=1000000) (x:Ev):
 ((∃j,j<k/\(H[j]!).2.2.1=x.2.2.1)->aG lY ((k:Int),0,u,us,fr,H,W,x)=some (.done 8))/\
 ((∀j,j<k-> ¬(H[j]!).2.2.1=x.2.2.1)->aG lY ((k:Int),0,u,us,fr,H,W,x)=some (.next (((k+1:Nat):Int),u,us,fr,H,W))):=by
 refine dM (body:=lY) (fun j=>((k:Int),(j:Int),u,us,fr,H,W,x)) k (fun j=>(H[j]!).2.2.1=x.2.2.1) (r:= .done 8) (e:= .next (((k+1:Nat):Int),u,us,fr,H,W)) (fun j hj=>?_) ?_
 · have e1:decide ((j:Int)<(k:Int))=true:=aJ (by omega)
   unfold lY;simp only [e1,cond_true,aE H j (by omega),aB,aU (show j<1000000000 by omega)]
   constructor
   · intro h;rw [eI h];rfl
   intro h;rw [eB h];rfl
 unfold lY
 have:decide ((k:Int)<(k:Int))=false:=dec_f (by omega)
 simp only [this,cond_false,aU (show k<1000000000 by omega)]
theorem YE (H:List Ev) (u fr W:List Int) (us:List Bool) (hl:H.length<=1000000) (r64: ∀w,w<H.length->tB ((H[w]!).1,(H[w]!).2.1)):
 aG lZ (1,u,us,fr,H,W)=some (.done (if∀k,0<k->k<H.length-> ¬dY H[k]! H[(k-1) / 2]! then 0 else 8)):=by
 by_cases h0:H.length=0
 · rw [if_pos (fun k _ hk=>by omega)]
   refine aL ?_;unfold lZ
   have:decide ((1:Int)<(H.length:Int))=false:=dec_f (by omega)
   simp only [aF,this,cond_false]
 have key:=dM (body:=lZ) (fun i=>(((i+1:Nat):Int),u,us,fr,H,W)) (H.length-1) (fun i=>dY H[i+1]! H[i / 2]!) (r:= .done 8) (e:= .done 0) (fun i hi=>by
  have e1:decide (((i+1:Nat):Int)<(H.length:Int))=true:=aJ (by omega)
  unfold lZ;simp only [aF,e1,cond_true,wM (show i<1000000000 by omega),aE H (i+1) (by omega),aE H (i / 2) (by omega),aB,aFN (r64 (i+1) (by omega)) (r64 (i / 2) (by omega)),aU (show i+1<1000000000 by omega)]
  constructor
  · intro h;rw [aJ h];rfl
  · intro h;rw [dec_f h];rfl) (by
  unfold lZ
  have:decide (((H.length-1+1:Nat):Int)<(H.length:Int))=false:=dec_f (by omega)
  simp only [aF,this,cond_false])
 by_cases ho: ∀k,0<k->k<H.length-> ¬dY H[k]! H[(k-1) / 2]!
 · rw [if_pos ho]
   refine key.2 fun i hi hc=>ho (i+1) (by omega) (by omega) ?_
   rwa [show (i+1-1) / 2=i / 2 by omega]
 rw [if_neg ho]
 obtain ⟨k,h⟩:=bv.1 ho;obtain ⟨k0,h⟩:=bz.1 h;obtain ⟨hk,hx⟩:=bz.1 h;refine key.1 ⟨k-1,by omega,?_⟩
 rw [show k-1+1=k by omega]
 exact bm.1 hx
def UZ (H:List Ev) (k:Nat):Prop:=cQ ((H[k]!).1,(H[k]!).2.1)/\0<=(H[k]!).2.2.1/\(H[k]!).2.2.1<=1000000/\(∀j,j<k-> ¬(H[j]!).2.2.1=(H[k]!).2.2.1)
theorem E7 (a:aP) (fit:E6 a):vV a=some (if fH a then 0 else 8):=by
 have hh:=fit.hp;unfold vV;rw [PK _ fit.fr]
 by_cases so:fJ a.ai
 case neg=>rw [if_neg so,if_neg (fun h=>so h.so)];rfl
 rw [if_pos so];simp only [aB,show ((0:Int) !=0)=false from rfl,cond_false,aDo a so]
 by_cases pl:a.am.length=a.ai.ac.length/\a.aj.length+a.ai.af.length=a.ai.ac.length/\ ∀i,i<a.ai.ac.length->PL a i
 case neg=>
  rw [dec_f pl,if_neg (fun h=>pl ⟨h.wl,h.hl,h.to.1⟩)];rfl
 rw [aJ pl];obtain ⟨wl,hl,hw⟩:=pl;simp only [bo,cond_false];have key:=dM (body:=sH) (fun k=>((k:Int),a.ai.ac,a.ai.ae,a.ai.af,a.aj,a.am)) a.aj.length (fun k=> ¬UZ a.aj k) (r:=8) (e:=if∀k,0<k->k<a.aj.length-> ¬dY a.aj[k]! a.aj[(k-1) / 2]! then 0 else 8) (fun k hk=>by
  have e1:decide ((k:Int)<(a.aj.length:Int))=true:=aJ (by omega)
  have l1:=YD a.aj a.ai.ac a.ai.af a.am a.ai.ae k hk hh a.aj[k]!;unfold sH;simp only [aF,e1,cond_true,aE a.aj k hk,aB,E3 (fit.at64 k hk)];unfold UZ
  by_cases b1:cQ ((a.aj[k]!).1,(a.aj[k]!).2.1)
  case neg=>
   rw [if_neg b1];exact ⟨fun _=>rfl,fun h=>absurd (bm.1 h).1 b1⟩
  rw [if_pos b1]
  by_cases b2:(a.aj[k]!).2.2.1<0
  · rw [aJ b2]
    exact ⟨fun _=>rfl,fun h=>absurd (bm.1 h).2.1 (by omega)⟩
  by_cases b3:1000000<(a.aj[k]!).2.2.1
  · rw [dec_f b2,aJ b3]
    exact ⟨fun _=>rfl,fun h=>absurd (bm.1 h).2.2.1 (by omega)⟩
  rw [dec_f b2,dec_f b3];simp only [show ((0:Int) !=0)=false from rfl,cond_false]
  by_cases b4: ∃j,j<k/\(a.aj[j]!).2.2.1=(a.aj[k]!).2.2.1
  · refine ⟨fun _=>l1.1 b4,fun h=>?_⟩
    obtain ⟨j,j1,j2⟩:=b4;exact absurd j2 ((bm.1 h).2.2.2 j j1)
  · have b4': ∀j,j<k-> ¬(a.aj[j]!).2.2.1=(a.aj[k]!).2.2.1:=fun j h1 h2=>b4 ⟨j,h1,h2⟩
    exact ⟨fun h=>absurd ⟨b1,by omega,by omega,b4'⟩ h,fun _=>l1.2 b4'⟩) (by
  unfold sH
  have:decide ((a.aj.length:Int)<(a.aj.length:Int))=false:=dec_f (by omega)
  simp only [aF,this,cond_false];exact YE a.aj _ _ _ _ hh fit.at64)
 have same:fH a↔(∀k,k<a.aj.length->UZ a.aj k)/\ ∀k,0<k->k<a.aj.length-> ¬dY a.aj[k]! a.aj[(k-1) / 2]!:=by
  constructor
  · intro ok
    refine ⟨fun k hk=>?_,ok.ord⟩
    have:=ok.to.2 k hk
    exact ⟨this.1,this.2.1,this.2.2.1,this.2.2.2.1⟩
  rintro ⟨h1,h2⟩
  refine fH.of fit so wl hl hw fun k hk=>?_
  obtain ⟨c1,c2,c3,c4⟩:=h1 k hk;refine ⟨c1,c2,c3,c4,fun k0=>?_⟩
  unfold aAQ;rw [if_pos ⟨c1,(h1 ((k-1) / 2) (by omega)).1⟩,JP]
  exact h2 k k0 hk
 by_cases he: ∀k,k<a.aj.length->UZ a.aj k
 · refine (key.2 fun i hi=>bm.2 (he i hi)).trans ?_
   by_cases ho: ∀k,0<k->k<a.aj.length-> ¬dY a.aj[k]! a.aj[(k-1) / 2]!
   · rw [if_pos ho,if_pos (same.2 ⟨he,ho⟩)]
   rw [if_neg ho,if_neg (fun h=>ho (same.1 h).2)]
 rw [if_neg (fun h=>he (same.1 h).1)]
 obtain ⟨i,h⟩:=bv.1 he;obtain ⟨hi,hx⟩:=bz.1 h;exact key.1 ⟨i,hi,hx⟩
theorem G5 {l:List Ev} {n:Nat} {e:Ev} (hn:n<=l.length):e∈l.take n↔ ∃w,w<n/\l[w]! =e:=by
 rw [cH];constructor
 · rintro ⟨i,h1,_,h3⟩;exact ⟨i,h1,h3⟩
 rintro ⟨i,h1,h3⟩;exact ⟨i,h1,by omega,h3⟩
theorem aNV {s:bD} (so:fJ s) {n:Nat} {H:List Ev} {W:List Int} (E:Ev->Prop) (hn:n<=H.length) (wl:W.length=s.ac.length) (hl:n+s.af.length=s.ac.length)
 (ix: ∀w,w<n->0<=(H[w]!).ix/\(H[w]!).ix<W.length/\W[(H[w]!).n]! =(w:Int)) (mem: ∀e,(∃w,w<n/\H[w]! =e)↔E e) (ord: ∀k,0<k->k<n-> ¬dY H[k]! H[(k-1) / 2]!)
 (ue: ∀i,i<s.ac.length->s.ae[i]! =true-> ∃e:Ev,E e/\e.ix=i/\e.2.2.2.2=s.ac[i]!) (un: ∀i,i<s.ac.length->s.ae[i]! =false->W[i]! = -1)
 (ev: ∀e,E e->tX e) (nums: ∀e f:Ev,E e->E f->e.num=f.num->e.ix=f.ix):fH ⟨s,H.take n,W⟩:=by
 have len:(H.take n).length=n:=by rw [bw];omega
 have cell: ∀w,w<n->(H.take n)[w]! =H[w]!:=fun w hw=>kN hw
 refine ⟨so,wl,by show (H.take n).length+_=_;rw [len];exact hl,?_,un,?_,?_,?_⟩
 · intro i hi hu
   dsimp only at hi hu ⊢;rw [len];obtain ⟨e,he,e1,e2⟩:=ue i hi hu;obtain ⟨w,hw,rfl⟩:=(mem e).2 he;obtain ⟨a1,a2,a3⟩:=ix w hw;have hn':(H[w]!).n=i:=by show ((H[w]!).ix).toNat=i;omega
   rw [hn'] at a3;rw [a3,bq,cell w hw];exact ⟨by omega,by omega,e1,e2⟩
 · intro w hw
   dsimp only at hw ⊢;rw [len] at hw;rw [cell w hw];exact ev _ ((mem _).1 ⟨w,hw,rfl⟩)
 · intro v w hv hw
   dsimp only at hw ⊢;rw [len] at hw;rw [cell v (by omega),cell w hw]
   intro hc
   have:=nums _ _ ((mem _).1 ⟨v,by omega,rfl⟩) ((mem _).1 ⟨w,hw,rfl⟩) hc
   obtain ⟨a1,a2,a3⟩:=ix v (by omega)
   obtain ⟨b1,b2,b3⟩:=ix w hw;have hn':(H[v]!).n=(H[w]!).n:=by show ((H[v]!).ix).toNat=((H[w]!).ix).toNat;rw [this]
   rw [hn'] at a3;omega
 intro k k0 hk
 dsimp only at hk ⊢;rw [len] at hk;rw [cell k hk,cell _ (by omega)]
 exact ord k k0 hk
theorem AZ {s:bD} (so:fJ s) {n:Nat} {x:Ev} {M:Ev->Prop} {K:Nat->Prop} {H H1:List Ev} {W W1:List Int} (st:GD n x M K H W H1 W1) (hn:n<=H.length) (wl:W.length=s.ac.length) (hl:n+s.af.length=s.ac.length)
 (ue: ∀i,i<s.ac.length->s.ae[i]! =true-> ∃e:Ev,(e=x\/M e)/\e.ix=i/\e.2.2.2.2=s.ac[i]!) (un: ∀i,i<s.ac.length->s.ae[i]! =false->K i/\W[i]! = -1)
 (ev: ∀e,(e=x\/M e)->tX e) (nums: ∀e f:Ev,(e=x\/M e)->(f=x\/M f)->e.num=f.num->e.ix=f.ix):fH ⟨s,H1.take n,W1⟩:=by
 refine aNV so (fun e=>e=x\/M e) (by rw [st.hl];exact hn) (by rw [st.wl];exact wl) hl (by rw [st.wl];exact st.ix) st.mem st.ord ue ?_ ev nums
 intro i hi hu;rw [st.out i (un i hi hu).1];exact (un i hi hu).2
theorem fH.bd {a:aP} (ok:fH a):a.aj.length<=200/\a.am.length<=200:=by
 have:=ok.hl;have:=ok.wl;have:=ok.so.n2
 omega
theorem fH.cells {a:aP} (ok:fH a):oP a.aj.length a.aj a.am:=by
 have:=ok.bd
 refine ⟨bu _,by omega,fun w hw=>?_⟩
 obtain ⟨b1,b2,b3,b4,b5⟩:=ok.back hw;exact ⟨ok.ev w hw,b1,by rw [ok.wl];exact b2⟩
theorem fH.inj {a:aP} (ok:fH a) {v w:Nat} (hv:v<a.aj.length) (hw:w<a.aj.length) (h:Ev.ix a.aj[v]! =Ev.ix a.aj[w]!):v=w:=by
 have h1:=(ok.back hv).2.2.2.2;have h2:=(ok.back hw).2.2.2.2
 have:Ev.n a.aj[v]! =Ev.n a.aj[w]!:=by show (Ev.ix a.aj[v]!).toNat=(Ev.ix a.aj[w]!).toNat;rw [h]
 rw [this] at h1;omega
theorem fH.grand {a:aP} (ok:fH a) {i k:Nat} (i0:0<i) (k0:0<k) (hk:k<a.aj.length) (hp:(k-1) / 2=i): ¬dY a.aj[k]! a.aj[(i-1) / 2]!:=by
 have h1:=ok.ord k k0 hk;rw [hp] at h1;exact GC (ok.ev _ (by omega)).den (ok.ev _ (by omega)).den (ok.ev _ hk).den (ok.ord i i0 (by omega)) h1
theorem fH.live {a:aP} (ok:fH a) {h:Int×Int} (lv:AD a.ai h): ∃i,i<a.aj.length/\a.am[h.1.toNat]! =(i:Int)/\(a.aj[i]!).2.2.2=h:=by
 obtain ⟨l1,l2,l3,l4⟩:=lv;obtain ⟨f1,f2,f3,f4⟩:=ok.fwd h.1.toNat (by omega) l3
 refine ⟨(a.am[h.1.toNat]!).toNat,by omega,by omega,?_⟩
 have e1:(a.aj[(a.am[h.1.toNat]!).toNat]!).2.2.2.1=h.1:=by
  have:Ev.ix a.aj[(a.am[h.1.toNat]!).toNat]! =(h.1.toNat:Int):=f3
  have h2:Ev.ix a.aj[(a.am[h.1.toNat]!).toNat]! =(a.aj[(a.am[h.1.toNat]!).toNat]!).2.2.2.1:=rfl;omega
 exact ce e1 (by rw [f4,l4])
theorem fH.handle {a:aP} (ok:fH a) {i:Nat} (hi:i<a.aj.length):AD a.ai (a.aj[i]!).2.2.2/\a.am[((a.aj[i]!).2.2.2.1).toNat]! =(i:Int):=by
 obtain ⟨b1,b2,b3,b4,b5⟩:=ok.back hi;exact ⟨⟨b1,b2,b3,b4⟩,b5⟩
theorem fH.used_ev {a:aP} (ok:fH a) {i:Nat} (hi:i<a.ai.ac.length) (hu:a.ai.ae[i]! =true): ∃w,w<a.aj.length/\Ev.ix a.aj[w]! =i/\(a.aj[w]!).2.2.2.2=a.ai.ac[i]!:=by
 obtain ⟨f1,f2,f3,f4⟩:=ok.fwd i hi hu;exact ⟨(a.am[i]!).toNat,by omega,f3,f4⟩
theorem fH.no_ev {a:aP} (ok:fH a) {i:Nat} (hu:a.ai.ae[i]! =false) {w:Nat} (hw:w<a.aj.length):Ev.n a.aj[w]!≠i:=by
 intro h
 have:=(ok.back hw).2.2.1
 rw [h,hu] at this;cases this
theorem fH.nums {a:aP} (ok:fH a) {v w:Nat} (hv:v<a.aj.length) (hw:w<a.aj.length) (h:Ev.num a.aj[v]! =Ev.num a.aj[w]!):v=w:=by
 rcases cu v w with h1|h1|h1
 · exact absurd h (ok.nd v w h1 hw)
 · exact h1
 exact absurd h.symm (ok.nd w v h1 hv)
theorem set_same {α:Type} [Inhabited α] {l:List α} {k:Nat} {v:α} (h:l[k]! =v):l.set k v=l:=by
 by_cases hk:k<l.length
 · apply wB (by rw [bn])
   intro i hi;rw [aZ];split
   · rename_i e;rw [e.1];exact h.symm
   rfl
 exact cw (by omega)
def tY (x:Ev) (t:Int×Int):Ev:=(t.1,t.2,x.2.2)
noncomputable def lO (a:aP) (i:Nat) (t:Int×Int):aP:=⟨a.ai,(cS a.aj.length (tY a.aj[i]! t) i a.aj a.am).1,(cS a.aj.length (tY a.aj[i]! t) i a.aj a.am).2⟩
theorem PM {a:aP} (ok:fH a) {i:Nat} (hi:i<a.aj.length) {t:Int×Int} (ht:cQ t) (h64:tB t):tX (tY a.aj[i]! t):=by
 have:=ok.ev i hi
 exact ⟨ht,h64,this.2.2.1,this.2.2.2⟩
theorem PN {a:aP} (ok:fH a) {i:Nat} (hi:i<a.aj.length) (t:Int×Int):IE a.aj.length (tY a.aj[i]! t) (fun e=> ∃w,w<a.aj.length/\w≠i/\a.aj[w]! =e) a.aj a.am i:=by
 obtain ⟨b1,b2,b3,b4,b5⟩:=ok.back hi;refine ⟨hi,bu _,fun w hw hwi=>?_,b1,by rw [ok.wl];exact b2,fun e=>cz⟩
 obtain ⟨c1,c2,c3,c4,c5⟩:=ok.back hw;exact ⟨c1,by rw [ok.wl];exact c2,c5,fun h=>hwi (ok.inj hw hi h)⟩
theorem SK {a:aP} (ok:fH a) (i:Nat):IK a.aj.length a.aj i:=
 ⟨fun w hw=>(ok.ev w hw).den,fun k k0 hk _ _=>ok.ord k k0 hk,fun i0 _k k0 hk hp=>ok.grand i0 k0 hk hp⟩
theorem pS {a:aP} (ok:fH a) {i:Nat} (hi:i<a.aj.length) {t:Int×Int} (ht:cQ t):
 GD a.aj.length (tY a.aj[i]! t) (fun e=> ∃w,w<a.aj.length/\w≠i/\a.aj[w]! =e) (fun k=>k≠Ev.n (tY a.aj[i]! t)/\ ∀w,w<a.aj.length->w≠i->Ev.n a.aj[w]!≠k) a.aj a.am (lO a i t).aj (lO a i t).am:=
 E4 (x:=tY a.aj[i]! t) ht.1 (PN ok hi t) (SK ok i)
theorem K8 {a:aP} (ok:fH a) {i:Nat} (hi:i<a.aj.length) {t:Int×Int} (ht:cQ t):(lO a i t).aj.length=a.aj.length/\(lO a i t).am.length=a.am.length:=
 ⟨(pS ok hi ht).hl,(pS ok hi ht).wl⟩
theorem aDp {a:aP} (ok:fH a) {i:Nat} (hi:i<a.aj.length) {t:Int×Int} (ht:cQ t) (e:Ev):e∈(lO a i t).aj↔(e=tY a.aj[i]! t\/(e∈a.aj/\e≠a.aj[i]!)):=by
 have st:=pS ok hi ht;have h1:e∈(lO a i t).aj↔ ∃w,w<a.aj.length/\((lO a i t).aj)[w]! =e:=by
  rw [aY,(K8 ok hi ht).1]
 rw [h1];refine (st.mem e).trans ?_;constructor
 · rintro (h|⟨w,hw,hwi,rfl⟩)
   · exact .inl h
   exact .inr ⟨bI hw,fun h=>hwi (ok.inj hw hi (by rw [h]))⟩
 rintro (h|⟨h,hne⟩)
 · exact .inl h
 obtain ⟨w,hw,rfl⟩:=aY.1 h
 exact .inr ⟨w,hw,fun h=>hne (by rw [h]),rfl⟩
theorem aFO {a:aP} (ok:fH a) {i:Nat} (hi:i<a.aj.length) {t:Int×Int} (ht:cQ t) (h64:tB t):fH (lO a i t):=by
 have st:=pS ok hi ht;have len:=(K8 ok hi ht).1;have hx:Ev.ix (tY a.aj[i]! t)=Ev.ix a.aj[i]!:=rfl;have key:=AZ ok.so st (bu _) ok.wl ok.hl (fun j hj hu=>by
  obtain ⟨w,hw,e1,e2⟩:=ok.used_ev hj hu
  by_cases e:w=i
  · subst e;exact ⟨tY a.aj[w]! t,.inl rfl,e1,e2⟩
  · exact ⟨a.aj[w]!,.inr ⟨w,hw,e,rfl⟩,e1,e2⟩) (fun j hj hu=>⟨⟨(ok.no_ev hu hi).symm,fun w hw _=>ok.no_ev hu hw⟩,ok.un j hj hu⟩) (by
  rintro e (rfl|⟨w,hw,_,rfl⟩)
  · exact PM ok hi ht h64
  · exact ok.ev w hw) (by
  rintro e f (rfl|⟨v,hv,hvi,rfl⟩) (rfl|⟨w,hw,hwi,rfl⟩) he
  · rfl
  · exact absurd (ok.nums hi hw he).symm hwi
  · exact absurd (ok.nums hv hi he) hvi
  rw [ok.nums hv hw he])
 have:(lO a i t).aj.take a.aj.length=(lO a i t).aj:=cb (by rw [len];exact bu _)
 show fH ⟨a.ai,(lO a i t).aj,(lO a i t).am⟩;rw [<- this];exact key
theorem YF {a:aP} (ok:fH a) (fit:E6 a) {h:Int×Int} {i:Nat} (hi:i<a.aj.length) (hh:(a.aj[i]!).2.2.2=h):sC a h=some ((i:Int),0):=by
 obtain ⟨lv,wv⟩:=ok.handle hi;rw [hh] at lv;unfold sC;rw [nH a fit,if_pos ok];simp only [aB,show ((0:Int) !=0)=false from rfl,cond_false,L5 ok.so,aJ lv,bo]
 have:=lv.2.1;have:=lv.1;have:=ok.wl
 have e:(a.aj[i]!).2.2.2.1=h.1:=by rw [hh]
 rw [eA (l:=a.am) lv.1 (by omega),<- e,wv]
 rfl
theorem ML {a:aP} (ok:fH a) (fit:E6 a) {h t:Int×Int} {i:Nat} (hi:i<a.aj.length) (hh:(a.aj[i]!).2.2.2=h) (ht:cQ t) (h64:tB t):xB a h t=some (lO a i t,0):=by
 have bd:=ok.bd;obtain ⟨b1,b2,b3,b4,b5⟩:=ok.back hi;unfold xB;rw [nH a fit,if_pos ok,gO h64,if_pos ht];have pl:=YF ok fit hi hh;have se:=PG (u:=a.ai.ac) (us:=a.ai.ae) (fr:=a.ai.af) (PM ok hi ht h64) (show 0<=Ev.ix (tY a.aj[i]! t) from b1) ok.cells rfl hi (show Ev.ix (tY a.aj[i]! t)<a.am.length by rw [ok.wl];exact b2)
 have se':fG (a.ai.ac,a.ai.ae,a.ai.af,(i:Int),t.1,t.2,(a.aj[i]!).2.2.1,(a.aj[i]!).2.2.2.1,(a.aj[i]!).2.2.2.2,a.aj,a.am)=some (cS a.aj.length (tY a.aj[i]! t) i a.aj a.am):=se
 simp only [aB,gt_iff_lt,df,if_false,show ((0:Int) !=0)=false from rfl,cond_false,pl,aV (show a.aj.length<=1048576 by omega),aV (show a.am.length<=1048576 by omega),aE a.aj i hi,se']
 rfl
theorem uZ {a:aP} (ok:fH a):mU a=some a:=by
 have bd:=ok.bd;unfold mU;simp only [AX ok.so,aB,aV (show a.aj.length<=1048576 by omega),aV (show a.am.length<=1048576 by omega)]
theorem K9 {a:aP} (ok:fH a) {h t:Int×Int} {i:Nat} (hi:i<a.aj.length) (hh:(a.aj[i]!).2.2.2=h) (ht:cQ t) (h64:tB t):uT a h t=some (lO a i t):=by
 have bd:=ok.bd;obtain ⟨b1,b2,b3,b4,b5⟩:=ok.back hi;obtain ⟨lv,wv⟩:=ok.handle hi;have hx:=PM ok hi ht h64;have x1:Ev.ix (tY a.aj[i]! t)<a.am.length:=by rw [ok.wl];exact b2
 have st:=pS ok hi ht;obtain ⟨j,H1,W1,e1,e3,e4,e5,e6,e7,e8,e9,e10⟩:=M2 (x:=tY a.aj[i]! t) ht.1 i a.aj a.am (PN ok hi t) (SK ok i);have w1:a.am.set (Ev.n (tY a.aj[i]! t)) (i:Int)=a.am:=set_same b5;unfold uT;rw [uZ ok];have g1:aN a.am h.1=some (i:Int):=by
  have e:(a.aj[i]!).2.2.2.1=h.1:=by rw [hh]
  rw [eA (l:=a.am) (i:=h.1) (by rw [<- e];exact b1) (by rw [<- e,ok.wl];exact b2),<- e,wv]
 have u1:sO ((i:Int),a.ai.ac,a.ai.ae,a.ai.af,a.aj.set i (tY a.aj[i]! t),a.am)=some ((j:Int),a.ai.ac,a.ai.ae,a.ai.af,H1.set j (tY a.aj[i]! t),W1.set (Ev.n (tY a.aj[i]! t)) (j:Int)):=by
  unfold sO
  have:=aFK (c0:=((i:Int),a.ai.ac,a.ai.ae,a.ai.af,a.aj.set i (tY a.aj[i]! t),a.am)) (u:=a.ai.ac) (us:=a.ai.ae) (fr:=a.ai.af) hx b1 rfl rfl rfl i a.aj a.am ok.cells hi rfl x1 bn rfl
  rw [w1,e1] at this;exact this
 have cells1:oP a.aj.length H1 W1:=by
  refine ⟨by rw [e5];exact bu _,by omega,fun w hw=>?_⟩
  exact ⟨(E5 ok.cells hi e1 w hw).1,(E5 ok.cells hi e1 w hw).2.1,by rw [e6];exact (E5 ok.cells hi e1 w hw).2.2⟩
 have d1:pA ((j:Int),a.ai.ac,a.ai.ae,a.ai.af,H1.set j (tY a.aj[i]! t),W1.set (Ev.n (tY a.aj[i]! t)) (j:Int))=some (a.ai.ac,a.ai.ae,a.ai.af,(cS a.aj.length (tY a.aj[i]! t) i a.aj a.am).1,(cS a.aj.length (tY a.aj[i]! t) i a.aj a.am).2):=by
  unfold pA
  have:=YB (c0:=((j:Int),a.ai.ac,a.ai.ae,a.ai.af,H1.set j (tY a.aj[i]! t),W1.set (Ev.n (tY a.aj[i]! t)) (j:Int))) (n:=a.aj.length) (u:=a.ai.ac) (us:=a.ai.ae) (fr:=a.ai.af) hx b1 rfl rfl rfl a.aj.length j H1 W1 (by omega) cells1 e3.lt e5 (by rw [e6];exact x1) bn bn
  rw [this];unfold cS;rw [e1]
 have s1:cL a.aj (i:Int) (t.1,t.2,(a.aj[i]!).2.2)=a.aj.set i (tY a.aj[i]! t):=rfl;simp only [aB,g1,aE a.aj i hi,s1,u1,d1];rfl
theorem SL (H:List Ev) (n:Int) (hl:H.length<=1000000):dD H n=some (decide (∃w,w<H.length/\(H[w]!).2.2.1=n)):=by
 unfold dD fA;have key:=jK (body:=dC) (fun i=>(H,n,(H.length:Int),(i:Int))) H.length (fun i=>(H[i]!).2.2.1=n) (fun i=>(i:Int)) (e:= -1) (fun i hi=>by
  have e1:decide ((i:Int)<(H.length:Int))=true:=aJ (by omega)
  unfold dC AT;simp only [e1,cond_true,aE H i hi,aB,aU (show i<1000000000 by omega)]
  constructor
  · intro h;rw [eI h];rfl
  · intro h;rw [eB h];rfl) (by
  unfold dC
  have:decide ((H.length:Int)<(H.length:Int))=false:=dec_f (by omega)
  simp only [this,cond_false])
 rw [aF]
 by_cases hx: ∃w,w<H.length/\(H[w]!).2.2.1=n
 · obtain ⟨k,h1,h2,h3⟩:=E2 hx
   have:=key.1 k h1 h2 h3
   rw [show ((0:Nat):Int)=0 from rfl] at this;rw [this,aJ hx];simp only [aB,aJ (show (0:Int)<=(k:Int) by omega)]
 have:=key.2 fun i hi he=>hx ⟨i,hi,he⟩
 rw [show ((0:Nat):Int)=0 from rfl] at this;rw [this,dec_f hx];rfl
noncomputable def dQ (a:aP) (t:Int×Int) (n:Int):Ev:=(t.1,t.2,n,nA a.ai)
noncomputable def nB (a:aP) (t:Int×Int) (n:Int):aP:=
 ⟨iI a.ai,(cS (a.aj.length+1) (dQ a t n) a.aj.length (a.aj++[dQ a t n]) a.am).1,(cS (a.aj.length+1) (dQ a t n) a.aj.length (a.aj++[dQ a t n]) a.am).2⟩
section
variable {a : aP} (ok : fH a) (op : DV a.ai) {t : Int × Int} (ht : cQ t) (h64 : tB t) {n : Int} (n0 : 0 <= n) (n1 : n <= 1000000)
include ok op
theorem JR:Ev.ix (dQ a t n)=(dI a.ai:Int)/\dI a.ai<a.ai.ac.length/\a.ai.ae[dI a.ai]! =false/\a.ai.af.length=(iI a.ai).af.length+1:=by
 obtain ⟨h1,h2,h3⟩:=GB ok.so op.1;refine ⟨rfl,h1,?_,?_⟩
 · have:=ok.so.uf (dI a.ai) h1
   cases h:a.ai.ae[dI a.ai]! with
   |false=>rfl
   |true=>exact absurd h3 (this.1 h)
 show _=(a.ai.af.take (a.ai.af.length-1)).length+1
 have:=op.1
 rw [bw];omega
theorem SM:IE (a.aj.length+1) (dQ a t n) (fun e=>e∈a.aj) (a.aj++[dQ a t n]) a.am a.aj.length:=by
 obtain ⟨h1,h2,h3,h4⟩:=JR (t:=t) (n:=n) ok op;have cell: ∀w,w<a.aj.length->(a.aj++[dQ a t n])[w]! =a.aj[w]!:=fun w hw=>eX hw
 refine ⟨by omega,by simp,fun w hw hwi=>?_,by rw [h1];omega,by rw [h1,ok.wl];omega,fun e=>?_⟩
 · have hw':w<a.aj.length:=by omega
   rw [cell w hw'];obtain ⟨c1,c2,c3,c4,c5⟩:=ok.back hw';refine ⟨c1,by rw [ok.wl];exact c2,c5,fun h=>?_⟩
   rw [h1] at h
   have:Ev.n a.aj[w]! =dI a.ai:=by show (Ev.ix a.aj[w]!).toNat=_;omega
   exact ok.no_ev h3 hw' this
 constructor
 · rintro ⟨w,hw,hwi,rfl⟩
   rw [cell w (by omega)]
   exact bI (by omega)
 intro h
 obtain ⟨w,hw,rfl⟩:=aY.1 h;exact ⟨w,by omega,by omega,cell w hw⟩
theorem YG (ht:cQ t):IK (a.aj.length+1) (a.aj++[dQ a t n]) a.aj.length:=by
 have _:=op;have cell: ∀w,w<a.aj.length->(a.aj++[dQ a t n])[w]! =a.aj[w]!:=fun w hw=>eX hw
 refine ⟨fun w hw=>?_,fun k k0 hk k1 k2=>?_,fun i0 k k0 hk hp=>by omega⟩
 · by_cases h:w<a.aj.length
   · rw [cell w h];exact (ok.ev w h).den
   have:w=a.aj.length:=by omega
   subst this;rw [gN (bu _),c6];exact ht.1
 rw [cell k (by omega),cell _ (by omega)]
 exact ok.ord k k0 (by omega)
theorem C6 (ht:cQ t):GD (a.aj.length+1) (dQ a t n) (fun e=>e∈a.aj) (fun k=>k≠Ev.n (dQ a t n)/\ ∀w,w<a.aj.length+1->w≠a.aj.length->Ev.n (a.aj++[dQ a t n])[w]!≠k) (a.aj++[dQ a t n]) a.am (nB a t n).aj (nB a t n).am:=
 E4 (x:=dQ a t n) ht.1 (SM ok op) (YG ok op ht)
theorem JS (ht:cQ t):(nB a t n).aj.length=a.aj.length+1:=by
 have:=(C6 (n:=n) ok op ht).hl
 rw [this];simp
theorem YH (ht:cQ t) (e:Ev):e∈(nB a t n).aj↔(e=dQ a t n\/e∈a.aj):=by
 have st:=C6 (n:=n) ok op ht;rw [aY,JS ok op ht];exact st.mem e
theorem U0 (ht:cQ t) (h64:tB t) (n0:0<=n) (n1:n<=1000000):tX (dQ a t n):=by
 have _:=ok;have _:=op;exact ⟨ht,h64,n0,n1⟩
theorem aCk (ht:cQ t) (h64:tB t) (n0:0<=n) (n1:n<=1000000) (nn: ∀e∈a.aj,Ev.num e≠n):fH (nB a t n):=by
 have st:=C6 (n:=n) ok op ht;have len:=JS (n:=n) ok op ht;obtain ⟨h1,h2,h3,h4⟩:=JR (t:=t) (n:=n) ok op;have hu:=ok.so.ul;have ul:(iI a.ai).ac.length=a.ai.ac.length:=bn;have key:=AZ (aFI ok.so op) st (by simp) (by rw [ul];exact ok.wl) (by rw [ul];have:=ok.hl;omega) (fun j hj hu'=>by
  rw [ul] at hj;change (a.ai.ae.set (dI a.ai) true)[j]! =true at hu';rw [aZ] at hu'
  show∃e:Ev,_/\_/\_=(a.ai.ac.set (dI a.ai) (a.ai.ac[dI a.ai]!+1))[j]!
  rw [aZ]
  by_cases e:j=dI a.ai
  · rw [if_pos ⟨e,h2⟩]
    exact ⟨dQ a t n,.inl rfl,by rw [h1,e],rfl⟩
  · rw [if_neg (fun k=>e k.1)]
    rw [if_neg (fun k=>e k.1)] at hu'
    obtain ⟨w,hw,e1,e2⟩:=ok.used_ev hj hu';exact ⟨a.aj[w]!,.inr (bI hw),e1,e2⟩) (fun j hj hu'=>by
  rw [ul] at hj;change (a.ai.ae.set (dI a.ai) true)[j]! =false at hu';rw [aZ] at hu'
  by_cases e:j=dI a.ai
  · rw [if_pos ⟨e,by omega⟩] at hu';cases hu'
  · rw [if_neg (fun k=>e k.1)] at hu'
    refine ⟨⟨?_,fun w hw hwi=>?_⟩,ok.un j hj hu'⟩
    · show j≠(Ev.ix (dQ a t n)).toNat
      omega
    rw [eX (by omega)]
    exact ok.no_ev hu' (by omega)) (by
  rintro e (rfl|h)
  · exact U0 ok op ht h64 n0 n1
  · obtain ⟨w,hw,rfl⟩:=aY.1 h
    exact ok.ev w hw) (by
  rintro e f (rfl|he) (rfl|hf) hn
  · rfl
  · exact absurd hn.symm (nn f hf)
  · exact absurd hn (nn e he)
  obtain ⟨v,hv,rfl⟩:=aY.1 he
  obtain ⟨w,hw,rfl⟩:=aY.1 hf;rw [ok.nums hv hw hn])
 have:(nB a t n).aj.take (a.aj.length+1)=(nB a t n).aj:=cb (by rw [len];exact bu _)
 show fH ⟨iI a.ai,(nB a t n).aj,(nB a t n).am⟩;rw [<- this];exact key
theorem PO (ht:cQ t) (h64:tB t) (n0:0<=n) (n1:n<=1000000):oP (a.aj.length+1) (a.aj++[dQ a t n]) a.am:=by
 have bd:=ok.bd;obtain ⟨h1,h2,h3,h4⟩:=JR (t:=t) (n:=n) ok op;refine ⟨by simp,by simp;omega,fun w hw=>?_⟩
 by_cases h:w<a.aj.length
 · rw [eX h];exact ok.cells.ev w h
 have:w=a.aj.length:=by omega
 subst this;rw [gN (bu _),c6];exact ⟨U0 ok op ht h64 n0 n1,by show 0<=Ev.ix (dQ a t n);omega,by show Ev.ix (dQ a t n)<_;rw [ok.wl];omega⟩
theorem BQ (fit:E6 a) (ht:cQ t) (h64:tB t) (n0:0<=n) (n1:n<=1000000) (nn: ∀e∈a.aj,Ev.num e≠n):mP a t n=some (nB a t n,nA a.ai,0):=by
 have bd:=ok.bd;obtain ⟨h1,h2,h3,h4⟩:=JR (t:=t) (n:=n) ok op;have hn: ¬ ∃w,w<a.aj.length/\(a.aj[w]!).2.2.1=n:=by
  rintro ⟨w,hw,e⟩;exact nn _ (bI hw) e
 unfold mP;rw [nH a fit,if_pos ok,gO h64,if_pos ht,SL _ _ (by omega),dec_f hn,JO ok.so,if_pos op]
 have se:=PG (u:=(iI a.ai).ac) (us:=(iI a.ai).ae) (fr:=(iI a.ai).af) (U0 ok op ht h64 n0 n1) (show 0<=Ev.ix (dQ a t n) by omega) (PO ok op ht h64 n0 n1) (by simp) (show a.aj.length<a.aj.length+1 by omega) (show Ev.ix (dQ a t n)<a.am.length by rw [ok.wl];omega)
 have e1:aA .i64 (((a.aj++[dQ a t n]).length:Int) -1)=(a.aj.length:Int):=by rw [wi,cq];simp;omega
 have ap:bP a.aj [(t.1,t.2,n,nA a.ai)]=some (a.aj++[dQ a t n]):=dB (by simp;omega)
 have se':fG ((iI a.ai).ac,(iI a.ai).ae,(iI a.ai).af,(a.aj.length:Int),t.1,t.2,n,(nA a.ai).1,(nA a.ai).2,a.aj++[dQ a t n],a.am)=some (cS (a.aj.length+1) (dQ a t n) a.aj.length (a.aj++[dQ a t n]) a.am):=se
 simp only [aB,gt_iff_lt,df,if_false,show ((0:Int) !=0)=false from rfl,cond_false,dec_f (show¬n<0 by omega),dec_f (show¬1000000<n by omega),aV (show a.aj.length<=1048576 by omega),aV (show a.am.length<=1048576 by omega),ap,aF,e1,se']
 rfl
theorem DW (ht:cQ t) (h64:tB t) (n0:0<=n) (n1:n<=1000000):fB a t n=some (nB a t n,nA a.ai):=by
 have bd:=ok.bd;obtain ⟨h1,h2,h3,h4⟩:=JR (t:=t) (n:=n) ok op;unfold fB;rw [uZ ok];have e1:aA .i64 (((a.aj++[dQ a t n]).length:Int) -1)=(a.aj.length:Int):=by rw [wi,cq];simp;omega
 have ap:bP a.aj [(t.1,t.2,n,nA a.ai)]=some (a.aj++[dQ a t n]):=dB (by simp;omega)
 have hx:=U0 (n:=n) ok op ht h64 n0 n1;have last:cS (a.aj.length+1) (dQ a t n) a.aj.length (a.aj++[dQ a t n]) a.am=_:=X9 (x:=dQ a t n) ht.1 (SM ok op) (YG ok op ht) (fun k k0 hk hp=>by omega)
 have hs:(a.aj++[dQ a t n]).set a.aj.length (dQ a t n)=a.aj++[dQ a t n]:=set_same (by rw [gN (bu _),c6];rfl)
 have ws:cL a.am (nA a.ai).1 (a.aj.length:Int)=a.am.set (Ev.n (dQ a t n)) (a.aj.length:Int):=rfl
 have u1:sP ((iI a.ai).ac,(iI a.ai).ae,(iI a.ai).af,(a.aj.length:Int),a.aj++[dQ a t n],a.am.set (Ev.n (dQ a t n)) (a.aj.length:Int))=some (((kE (dQ a t n) a.aj.length (a.aj++[dQ a t n]) a.am).1:Int),(kE (dQ a t n) a.aj.length (a.aj++[dQ a t n]) a.am).2.1.set (kE (dQ a t n) a.aj.length (a.aj++[dQ a t n]) a.am).1 (dQ a t n),(kE (dQ a t n) a.aj.length (a.aj++[dQ a t n]) a.am).2.2.set (Ev.n (dQ a t n)) ((kE (dQ a t n) a.aj.length (a.aj++[dQ a t n]) a.am).1:Int)):=by
  unfold sP
  have:=aFM (c0:=((iI a.ai).ac,(iI a.ai).ae,(iI a.ai).af,(a.aj.length:Int),a.aj++[dQ a t n],a.am.set (Ev.n (dQ a t n)) (a.aj.length:Int))) (u:=(iI a.ai).ac) (us:=(iI a.ai).ae) (fr:=(iI a.ai).af) hx (show 0<=Ev.ix (dQ a t n) by omega) a.aj.length (a.aj++[dQ a t n]) a.am (PO ok op ht h64 n0 n1) (by omega) (by simp) (by rw [ok.wl];omega) rfl bn
  rw [hs] at this;exact this
 have g1:aN a.am (nA a.ai).1=some a.am[dI a.ai]!:=aE a.am (dI a.ai) (by rw [ok.wl];exact h2)
 simp only [aB,PC ok.so op,ap,g1,aF,e1,ws,u1];unfold nB;rw [last]
end
theorem BS {a:aP} (ok:fH a) (op: ¬DV a.ai) (fit:E6 a) {t:Int×Int} (ht:cQ t) (h64:tB t) {n:Int} (n0:0<=n) (n1:n<=1000000) (nn: ∀e∈a.aj,Ev.num e≠n):mP a t n=some (⟨⟨[],[],[]⟩,[],[]⟩,(0,0),18):=by
 have bd:=ok.bd;have hn: ¬ ∃w,w<a.aj.length/\(a.aj[w]!).2.2.1=n:=by
  rintro ⟨w,hw,e⟩;exact nn _ (bI hw) e
 unfold mP;rw [nH a fit,if_pos ok,gO h64,if_pos ht,SL _ _ (by omega),dec_f hn,JO ok.so,if_neg op]
 simp only [aB,gt_iff_lt,df,if_false,show ((0:Int) !=0)=false from rfl,cond_false,dec_f (show¬n<0 by omega),dec_f (show¬1000000<n by omega),show ((18:Int) !=0)=true from rfl,cond_true]
theorem AE {l:List Ev} {n i:Nat} {v:Ev}:(l.set i v).take n=(l.take n).set i v:=by
 apply List.ext_getElem?;intro j;rw [di,dp,dp,di,bw]
 by_cases h1:j<n
 · rw [if_pos h1]
   by_cases h2:i=j
   · subst h2
     by_cases h3:i<l.length
     · rw [if_pos rfl,if_pos h3,if_pos rfl,if_pos (by omega)]
     rw [if_pos rfl,if_neg h3,if_pos rfl,if_neg (by omega)]
   rw [if_neg h2,if_neg h2,if_pos h1]
 rw [if_neg h1]
 by_cases h2:i=j
 · rw [if_pos h2,if_neg (by omega)]
 rw [if_neg h2,if_neg h1]
theorem YI {n:Nat} {x:Ev}: ∀(i:Nat) (H:List Ev) (W:List Int),i<n->kE x i (H.take n) W=((kE x i H W).1,(kE x i H W).2.1.take n,(kE x i H W).2.2)
 |0,H,W,hi=>by rw [kE,kE]
 |i+1,H,W,hi=>by
  have e:(H.take n)[i / 2]! =H[i / 2]!:=kN (by omega)
  rw [kE,kE,e]
  by_cases h:dY x H[i / 2]!
  · rw [if_pos h,if_pos h,<- AE]
    exact YI (i / 2) _ _ (by omega)
  rw [if_neg h,if_neg h]
termination_by i=>i
decreasing_by omega
theorem aFP {x:Ev}: ∀(i:Nat) (H:List Ev) (W:List Int),(kE x i H W).1<=i
 |0,H,W=>by rw [kE];exact bu _
 |i+1,H,W=>by
  rw [kE];split
  · exact ed (aFP (i / 2) _ _) (by omega)
  exact bu _
termination_by i=>i
decreasing_by omega
theorem PP {n:Nat} {H:List Ev} {i:Nat} (hk:2*i+1<n):iX n (H.take n) i=iX n H i:=by
 unfold iX
 by_cases h:2*i+2<n
 · rw [kN h,kN (show 2*i+1<n by omega)]
 rw [if_neg (fun k=>h k.1),if_neg (fun k=>h k.1)]
theorem YJ {n:Nat} {x:Ev} {i:Nat} {H:List Ev} {W:List Int} (h:2*i+1<n) (hl:dY H[iX n H i]! x):eE n x i H W=eE n x (iX n H i) (H.set i H[iX n H i]!) (W.set (H[iX n H i]!).n (i:Int)):=by
 rw [eE,dif_pos h,if_pos hl]
theorem C7 {n:Nat} {x:Ev} {i:Nat} {H:List Ev} {W:List Int} (h: ¬(2*i+1<n/\dY H[iX n H i]! x)):eE n x i H W=(i,H,W):=by
 rw [eE];split
 · rename_i h1;rw [if_neg (fun k=>h ⟨h1,k⟩)]
 rfl
theorem PQ {n : Nat} {x : Ev} : ∀ (d i : Nat) (H : List Ev) (W : List Int), n - i <= d -> eE n x i (H.take n) W = ((eE n x i H W).1, (eE n x i H W).2.1.take n, (eE n x i H W).2.2)
  | 0, i, H, W, hd => by
    rw [C7 (fun h => by omega), C7 (fun h => by omega)]
  | d + 1, i, H, W, hd => by
    have kc := rF n H i
    by_cases h : 2 * i + 1 < n /\ dY H[iX n H i]! x
    · have e : (H.take n)[iX n (H.take n) i]! = H[iX n H i]! := by rw [PP h.1, kN (by omega)]
      rw [YJ h.1 h.2, YJ (H := H.take n) h.1 (by rw [e]; exact h.2), e, PP h.1, <- AE]
      exact PQ d _ _ _ (by omega)
    have h' : ¬ (2 * i + 1 < n /\ dY (H.take n)[iX n (H.take n) i]! x) := by
      rintro ⟨k1, k2⟩
      rw [PP k1, kN (by omega)] at k2
      exact h ⟨k1, k2⟩
    rw [C7 h, C7 h']
theorem aCl {x:Ev}: ∀(i:Nat) (H:List Ev) (W:List Int),(kE x i H W).2.1.length=H.length/\(kE x i H W).2.2.length=W.length
 |0,H,W=>by rw [kE];exact ⟨rfl,rfl⟩
 |i+1,H,W=>by
  rw [kE];split
  · have:=aCl (x:=x) (i / 2) (H.set (i+1) H[i / 2]!) (W.set (H[i / 2]!).n ((i+1:Nat):Int))
    rwa [bn,bn] at this
  exact ⟨rfl,rfl⟩
termination_by i=>i
decreasing_by omega
theorem JT {n:Nat} {x:Ev} {i:Nat} {H:List Ev} {W:List Int} (hi:i<n):cS n x i (H.take n) W=((cS n x i H W).1.take n,(cS n x i H W).2):=by
 unfold cS;rw [YI i H W hi];dsimp only;rw [PQ n _ _ _ (by omega)]
 dsimp only;rw [AE]
noncomputable def eV (a:aP) (i:Nat):aP:=
 if i<a.aj.length-1 then ⟨gD a.ai (a.aj[i]!).2.2.2,(cS (a.aj.length-1) a.aj[a.aj.length-1]! i a.aj (a.am.set (Ev.n a.aj[i]!) (-1))).1.take (a.aj.length-1),(cS (a.aj.length-1) a.aj[a.aj.length-1]! i a.aj (a.am.set (Ev.n a.aj[i]!) (-1))).2⟩
 else ⟨gD a.ai (a.aj[i]!).2.2.2,a.aj.take (a.aj.length-1),a.am.set (Ev.n a.aj[i]!) (-1)⟩
section
variable {a : aP} (ok : fH a) {i : Nat} (hi : i < a.aj.length)
include ok hi
theorem BT {w:Nat} (hw:w<a.aj.length) (hne:w≠i):Ev.n a.aj[w]!≠Ev.n a.aj[i]!:=by
 have h1:=(ok.back hw).1;have h2:=(ok.back hi).1;exact aWw h1 h2 fun h=>hne (ok.inj hw hi h)
theorem SN:oP (a.aj.length-1) a.aj (a.am.set (Ev.n a.aj[i]!) (-1)):=by
 have c:=ok.cells;refine ⟨by omega,c.hb,fun w hw=>?_⟩
 rw [bn];exact c.ev w (by omega)
theorem aFQ (hlt:i<a.aj.length-1):IE (a.aj.length-1) a.aj[a.aj.length-1]! (fun e=> ∃w,w<a.aj.length-1/\w≠i/\a.aj[w]! =e) a.aj (a.am.set (Ev.n a.aj[i]!) (-1)) i:=by
 obtain ⟨b1,b2,b3,b4,b5⟩:=ok.back (show a.aj.length-1<a.aj.length by omega)
 refine ⟨hlt,by omega,fun w hw hwi=>?_,b1,by rw [bn,ok.wl];exact b2,fun e=>cz⟩
 obtain ⟨c1,c2,c3,c4,c5⟩:=ok.back (show w<a.aj.length by omega)
 refine ⟨c1,by rw [bn,ok.wl];exact c2,?_,fun h=>?_⟩
 · rw [aZ,if_neg (fun h=>BT ok hi (show w<a.aj.length by omega) hwi h.1)]
   exact c5
 have:=ok.inj (show w<a.aj.length by omega) (show a.aj.length-1<a.aj.length by omega) h
 omega
theorem aM3:IK (a.aj.length-1) a.aj i:=
 ⟨fun w hw=>(ok.ev w (by omega)).den,fun k k0 hk _ _=>ok.ord k k0 (by omega),fun i0 k k0 hk hp=>ok.grand i0 k0 (by omega) hp⟩
theorem L6 (hlt:i<a.aj.length-1):
 GD (a.aj.length-1) a.aj[a.aj.length-1]! (fun e=> ∃w,w<a.aj.length-1/\w≠i/\a.aj[w]! =e) (fun k=>k≠Ev.n a.aj[a.aj.length-1]!/\ ∀w,w<a.aj.length-1->w≠i->Ev.n a.aj[w]!≠k) a.aj (a.am.set (Ev.n a.aj[i]!) (-1))
  (cS (a.aj.length-1) a.aj[a.aj.length-1]! i a.aj (a.am.set (Ev.n a.aj[i]!) (-1))).1 (cS (a.aj.length-1) a.aj[a.aj.length-1]! i a.aj (a.am.set (Ev.n a.aj[i]!) (-1))).2:=
 E4 (ok.ev (a.aj.length-1) (by omega)).den (aFQ ok hi hlt) (aM3 ok hi)
theorem SP:fJ (gD a.ai (a.aj[i]!).2.2.2):=aFH ok.so (ok.handle hi).1
theorem E8 {j:Nat} (hj:j<a.ai.ac.length):(gD a.ai (a.aj[i]!).2.2.2).ae[j]! =if j=Ev.n a.aj[i]! then false else a.ai.ae[j]!:=by
 have _:=hi;show (a.ai.ae.set (Ev.n a.aj[i]!) false)[j]! =_;rw [aZ]
 have:=ok.so.ul
 by_cases e:j=Ev.n a.aj[i]!
 · rw [if_pos ⟨e,by omega⟩,if_pos e]
 rw [if_neg (fun k=>e k.1),if_neg e]
theorem LA:fH (eV a i):=by
 have hb:=ok.back hi;have hl:a.aj.length-1+(gD a.ai (a.aj[i]!).2.2.2).af.length=a.ai.ac.length:=by
  show a.aj.length-1+(a.ai.af++[_]).length=_;rw [cq]
  have:=ok.hl
  simp only [dt,dy];omega
 have un: ∀j,j<a.ai.ac.length->(gD a.ai (a.aj[i]!).2.2.2).ae[j]! =false->(a.am.set (Ev.n a.aj[i]!) (-1))[j]! = -1:=by
  intro j hj hu;rw [E8 ok hi hj] at hu;rw [aZ]
  by_cases e:j=Ev.n a.aj[i]!
  · rw [if_pos ⟨e.symm▸rfl,by rw [ok.wl];omega⟩]
  rw [if_neg e] at hu
  rw [if_neg (fun k=>e k.1)]
  exact ok.un j hj hu
 unfold eV
 by_cases hlt:i<a.aj.length-1
 · rw [if_pos hlt]
   have st:=L6 ok hi hlt;refine AZ (SP ok hi) st (by omega) (by rw [bn];exact ok.wl) hl (fun j hj hu=>?_) (fun j hj hu=>⟨⟨?_,fun w hw hwi=>?_⟩,un j hj hu⟩) ?_ ?_
   · change j<a.ai.ac.length at hj
     rw [E8 ok hi hj] at hu
     by_cases e:j=Ev.n a.aj[i]!
     · rw [if_pos e] at hu;cases hu
     rw [if_neg e] at hu
     obtain ⟨w,hw,e1,e2⟩:=ok.used_ev hj hu;refine ⟨a.aj[w]!,?_,e1,e2⟩
     by_cases hl':w=a.aj.length-1
     · left;rw [hl']
     refine .inr ⟨w,by omega,fun h=>e ?_,rfl⟩
     rw [<- h];show j=(Ev.ix a.aj[w]!).toNat;omega
   · change j<a.ai.ac.length at hj
     rw [E8 ok hi hj] at hu
     by_cases e:j=Ev.n a.aj[i]!
     · rw [e];exact (BT ok hi (by omega) (by omega)).symm
     rw [if_neg e] at hu
     exact (ok.no_ev hu (by omega)).symm
   · change j<a.ai.ac.length at hj
     rw [E8 ok hi hj] at hu
     by_cases e:j=Ev.n a.aj[i]!
     · rw [e];exact BT ok hi (by omega) hwi
     rw [if_neg e] at hu
     exact ok.no_ev hu (by omega)
   · rintro e (rfl|⟨w,hw,_,rfl⟩)
     · exact ok.ev _ (by omega)
     exact ok.ev w (by omega)
   rintro e f (rfl|⟨v,hv,hvi,rfl⟩) (rfl|⟨w,hw,hwi,rfl⟩) he
   · rfl
   · rw [ok.nums (by omega) (by omega) he]
   · rw [ok.nums (by omega) (by omega) he]
   rw [ok.nums (by omega) (by omega) he]
 rw [if_neg hlt]
 have hie:i=a.aj.length-1:=by omega
 refine aNV (SP ok hi) (fun e=> ∃w,w<a.aj.length-1/\a.aj[w]! =e) (by omega) (by rw [bn];exact ok.wl) hl (fun w hw=>?_) (fun e=>cz) (fun k k0 hk=>ok.ord k k0 (by omega)) (fun j hj hu=>?_) un ?_ ?_
 · obtain ⟨c1,c2,c3,c4,c5⟩:=ok.back (show w<a.aj.length by omega)
   refine ⟨c1,by rw [bn,ok.wl];exact c2,?_⟩
   rw [aZ,if_neg (fun h=>BT ok hi (show w<a.aj.length by omega) (by omega) h.1)]
   exact c5
 · change j<a.ai.ac.length at hj
   rw [E8 ok hi hj] at hu
   by_cases e:j=Ev.n a.aj[i]!
   · rw [if_pos e] at hu;cases hu
   rw [if_neg e] at hu
   obtain ⟨w,hw,e1,e2⟩:=ok.used_ev hj hu;refine ⟨a.aj[w]!,⟨w,?_,rfl⟩,e1,e2⟩
   have:w≠i:=fun h=>e (by rw [<- h];show j=(Ev.ix a.aj[w]!).toNat;omega)
   omega
 · rintro e ⟨w,hw,rfl⟩
   exact ok.ev w (by omega)
 rintro e f ⟨v,hv,rfl⟩ ⟨w,hw,rfl⟩ he
 rw [ok.nums (by omega) (by omega) he]
theorem PR (e:Ev):e∈(eV a i).aj↔(e∈a.aj/\e≠a.aj[i]!):=by
 have other: ∀w,w<a.aj.length->(a.aj[w]!≠a.aj[i]!↔w≠i):=fun w hw=>⟨fun h k=>h (by rw [k]),fun h k=>h (ok.inj hw hi (by rw [k]))⟩
 unfold eV
 by_cases hlt:i<a.aj.length-1
 · rw [if_pos hlt]
   have st:=L6 ok hi hlt;show e∈(_:List Ev).take _↔_;rw [G5 (by rw [st.hl];omega)]
   refine (st.mem e).trans ?_;constructor
   · rintro (h|⟨w,hw,hwi,rfl⟩)
     · rw [h];exact ⟨bI (by omega),(other _ (by omega)).2 (by omega)⟩
     exact ⟨bI (by omega),(other _ (by omega)).2 hwi⟩
   rintro ⟨h,hne⟩
   obtain ⟨w,hw,rfl⟩:=aY.1 h
   by_cases c:w=a.aj.length-1
   · left;rw [c]
   exact .inr ⟨w,by omega,(other w hw).1 hne,rfl⟩
 rw [if_neg hlt]
 show e∈a.aj.take _↔_;rw [G5 (by omega)]
 constructor
 · rintro ⟨w,hw,rfl⟩
   exact ⟨bI (by omega),(other _ (by omega)).2 (by omega)⟩
 rintro ⟨h,hne⟩
 obtain ⟨w,hw,rfl⟩:=aY.1 h
 have:=(other w hw).1 hne
 exact ⟨w,by omega,rfl⟩
theorem LB:uK a (i:Int)=some (eV a i,a.aj[i]!,0):=by
 have bd:=ok.bd;obtain ⟨b1,b2,b3,b4,b5⟩:=ok.back hi;obtain ⟨c1,c2,c3,c4,c5⟩:=ok.back (show a.aj.length-1<a.aj.length by omega)
 unfold uK;have e1:aA .i64 ((a.aj.length:Int) -1)=((a.aj.length-1:Nat):Int):=qB (by omega) (by omega)
 have g1:aN a.am (a.aj[i]!).2.2.2.1=some a.am[(a.aj[i]!).2.2.2.1.toNat]!:=eA b1 (by rw [ok.wl];exact b2)
 have ws:cL a.am (a.aj[i]!).2.2.2.1 (-1)=a.am.set (Ev.n a.aj[i]!) (-1):=rfl
 simp only [aE a.aj i hi,aB,UU ok.so (ok.handle hi).1,show ((0:Int) !=0)=false from rfl,cond_false,aV (show a.aj.length<=1048576 by omega),aV (show a.am.length<=1048576 by omega),aF,e1,aE a.aj (a.aj.length-1) (by omega),mF a.aj (a.aj.length-1) (by omega),g1,ws,bq]
 unfold eV
 by_cases hlt:i<a.aj.length-1
 · rw [aJ (by omega),if_pos hlt]
   have se:=aAP (cap:=a.aj.length) (u:=(gD a.ai (a.aj[i]!).2.2.2).ac) (us:=(gD a.ai (a.aj[i]!).2.2.2).ae) (fr:=(gD a.ai (a.aj[i]!).2.2.2).af) (ok.ev (a.aj.length-1) (by omega)) (show 0<=Ev.ix a.aj[a.aj.length-1]! from c1) (SN ok hi) hlt (show Ev.ix a.aj[a.aj.length-1]!<_ by rw [bn,ok.wl];exact c2)
   rw [se];rfl
 rw [dec_f (by omega),if_neg hlt]
 rfl
theorem BU (fit:E6 a) {h:Int×Int} (hh:(a.aj[i]!).2.2.2=h):nK a h=some (eV a i,a.aj[i]!,0):=by
 unfold nK;rw [YF ok fit hi hh];simp only [aB,show ((0:Int) !=0)=false from rfl,cond_false,LB ok hi]
theorem BV {h:Int×Int} (hh:(a.aj[i]!).2.2.2=h):lB a h=some (eV a i):=by
 have bd:=ok.bd;subst hh;obtain ⟨b1,b2,b3,b4,b5⟩:=ok.back hi;obtain ⟨c1,c2,c3,c4,c5⟩:=ok.back (show a.aj.length-1<a.aj.length by omega)
 unfold lB;rw [uZ ok];have e1:aA .i64 ((a.aj.length:Int) -1)=((a.aj.length-1:Nat):Int):=qB (by omega) (by omega)
 have g1:aN a.am (a.aj[i]!).2.2.2.1=some (i:Int):=by
  rw [eA (l:=a.am) b1 (by rw [ok.wl];exact b2)]
  exact congrArg some b5
 have gv:=PB ok.so (ok.handle hi).1;simp only [aB,g1,aF,e1,bq];unfold eV
 by_cases hlt:i<a.aj.length-1
 · rw [cP (show (i:Int)≠((a.aj.length-1:Nat):Int) by omega),if_pos hlt]
   have hne:a.aj.length-1≠i:=by omega
   have nn:Ev.n a.aj[a.aj.length-1]!≠Ev.n a.aj[i]!:=BT ok hi (by omega) hne
   have sw:=JQ (n:=a.aj.length) (x:=a.aj[i]!) (u:=a.ai.ac) (us:=a.ai.ae) (fr:=a.ai.af) (H:=a.aj) (W:=a.am) hi (show a.aj.length-1<a.aj.length by omega) hne rfl b1 (by rw [ok.wl];exact b2) c1 (by rw [ok.wl];exact c2)
   rw [set_same (l:=a.aj) rfl,set_same (l:=a.am) b5] at sw;have hs:(a.aj.set i a.aj[a.aj.length-1]!).set (a.aj.length-1) a.aj[i]! =(a.aj.set (a.aj.length-1) a.aj[i]!).set i a.aj[a.aj.length-1]!:=eb _ _ (by omega)
   have ws:cL ((a.am.set (Ev.n a.aj[a.aj.length-1]!) (i:Int)).set (Ev.n a.aj[i]!) ((a.aj.length-1:Nat):Int)) (a.aj[i]!).2.2.2.1 (-1)=(a.am.set (Ev.n a.aj[i]!) (-1)).set (Ev.n a.aj[a.aj.length-1]!) (i:Int):=by
    show ((a.am.set (Ev.n a.aj[a.aj.length-1]!) (i:Int)).set (Ev.n a.aj[i]!) ((a.aj.length-1:Nat):Int)).set (Ev.n a.aj[i]!) (-1)=_;rw [List.set_set,eb _ _ nn]
   have g2:aN ((a.am.set (Ev.n a.aj[a.aj.length-1]!) (i:Int)).set (Ev.n a.aj[i]!) ((a.aj.length-1:Nat):Int)) (a.aj[i]!).2.2.2.1=some _:=eA b1 (by rw [bn,bn,ok.wl];exact b2)
   have cells:oP (a.aj.length-1) (a.aj.set (a.aj.length-1) a.aj[i]!) (a.am.set (Ev.n a.aj[i]!) (-1)):=by
    refine ⟨by rw [bn];omega,by rw [bn];omega,fun w hw=>?_⟩
    rw [aZ,if_neg (by omega)]
    exact (SN ok hi).ev w hw
   have x1:Ev.ix a.aj[a.aj.length-1]!<(a.am.set (Ev.n a.aj[i]!) (-1)).length:=by rw [bn,ok.wl];exact c2
   have hx:=ok.ev (a.aj.length-1) (by omega)
   have gv':rD (bD.mk a.ai.ac a.ai.ae a.ai.af) (a.aj[i]!).2.2.2=some (gD a.ai (a.aj[i]!).2.2.2):=gv;have tk:(a.aj.set (a.aj.length-1) a.aj[i]!).take (a.aj.length-1)=a.aj.take (a.aj.length-1):=by rw [AE];exact cw (by rw [bw];omega)
   have U:oO ((gD a.ai (a.aj[i]!).2.2.2).ac,(gD a.ai (a.aj[i]!).2.2.2).ae,(gD a.ai (a.aj[i]!).2.2.2).af,a.aj.length-1,((a.aj.set (a.aj.length-1) a.aj[i]!).set i a.aj[a.aj.length-1]!).length,(i:Int),(a.aj.set (a.aj.length-1) a.aj[i]!).set i a.aj[a.aj.length-1]!,(a.am.set (Ev.n a.aj[i]!) (-1)).set (Ev.n a.aj[a.aj.length-1]!) (i:Int))=
    some (((kE a.aj[a.aj.length-1]! i (a.aj.set (a.aj.length-1) a.aj[i]!) (a.am.set (Ev.n a.aj[i]!) (-1))).1:Int),(kE a.aj[a.aj.length-1]! i (a.aj.set (a.aj.length-1) a.aj[i]!) (a.am.set (Ev.n a.aj[i]!) (-1))).2.1.set (kE a.aj[a.aj.length-1]! i (a.aj.set (a.aj.length-1) a.aj[i]!) (a.am.set (Ev.n a.aj[i]!) (-1))).1 a.aj[a.aj.length-1]!,(kE a.aj[a.aj.length-1]! i (a.aj.set (a.aj.length-1) a.aj[i]!) (a.am.set (Ev.n a.aj[i]!) (-1))).2.2.set (Ev.n a.aj[a.aj.length-1]!) ((kE a.aj[a.aj.length-1]! i (a.aj.set (a.aj.length-1) a.aj[i]!) (a.am.set (Ev.n a.aj[i]!) (-1))).1:Int)):=by
    unfold oO
    exact aFJ (n:=a.aj.length-1) (c0:=((gD a.ai (a.aj[i]!).2.2.2).ac,(gD a.ai (a.aj[i]!).2.2.2).ae,(gD a.ai (a.aj[i]!).2.2.2).af,a.aj.length-1,((a.aj.set (a.aj.length-1) a.aj[i]!).set i a.aj[a.aj.length-1]!).length,(i:Int),(a.aj.set (a.aj.length-1) a.aj[i]!).set i a.aj[a.aj.length-1]!,(a.am.set (Ev.n a.aj[i]!) (-1)).set (Ev.n a.aj[a.aj.length-1]!) (i:Int))) hx c1 i _ _ cells hlt x1 bn bn
   have ul:=aFP (x:=a.aj[a.aj.length-1]!) i (a.aj.set (a.aj.length-1) a.aj[i]!) (a.am.set (Ev.n a.aj[i]!) (-1));have un:=aCl (x:=a.aj[a.aj.length-1]!) i (a.aj.set (a.aj.length-1) a.aj[i]!) (a.am.set (Ev.n a.aj[i]!) (-1));have uc:=fun w hw=>E5 (x:=a.aj[a.aj.length-1]!) cells hlt (i:=i) rfl w hw
   have cells1:oP (a.aj.length-1) (kE a.aj[a.aj.length-1]! i (a.aj.set (a.aj.length-1) a.aj[i]!) (a.am.set (Ev.n a.aj[i]!) (-1))).2.1 (kE a.aj[a.aj.length-1]! i (a.aj.set (a.aj.length-1) a.aj[i]!) (a.am.set (Ev.n a.aj[i]!) (-1))).2.2:=by
    refine ⟨by rw [un.1,bn];omega,by rw [un.1,bn];omega,fun w hw=>?_⟩
    rw [un.2];exact uc w hw
   have D:mB ((gD a.ai (a.aj[i]!).2.2.2).ac,(gD a.ai (a.aj[i]!).2.2.2).ae,(gD a.ai (a.aj[i]!).2.2.2).af,a.aj.length-1,((a.aj.set (a.aj.length-1) a.aj[i]!).set i a.aj[a.aj.length-1]!).length,((kE a.aj[a.aj.length-1]! i (a.aj.set (a.aj.length-1) a.aj[i]!) (a.am.set (Ev.n a.aj[i]!) (-1))).1:Int),(kE a.aj[a.aj.length-1]! i (a.aj.set (a.aj.length-1) a.aj[i]!) (a.am.set (Ev.n a.aj[i]!) (-1))).2.1.set (kE a.aj[a.aj.length-1]! i (a.aj.set (a.aj.length-1) a.aj[i]!) (a.am.set (Ev.n a.aj[i]!) (-1))).1 a.aj[a.aj.length-1]!,(kE a.aj[a.aj.length-1]! i (a.aj.set (a.aj.length-1) a.aj[i]!) (a.am.set (Ev.n a.aj[i]!) (-1))).2.2.set (Ev.n a.aj[a.aj.length-1]!) ((kE a.aj[a.aj.length-1]! i (a.aj.set (a.aj.length-1) a.aj[i]!) (a.am.set (Ev.n a.aj[i]!) (-1))).1:Int))=
    some (cS (a.aj.length-1) a.aj[a.aj.length-1]! i (a.aj.set (a.aj.length-1) a.aj[i]!) (a.am.set (Ev.n a.aj[i]!) (-1))):=by
    unfold mB
    exact YA (n:=a.aj.length-1) (c0:=((gD a.ai (a.aj[i]!).2.2.2).ac,(gD a.ai (a.aj[i]!).2.2.2).ae,(gD a.ai (a.aj[i]!).2.2.2).af,a.aj.length-1,((a.aj.set (a.aj.length-1) a.aj[i]!).set i a.aj[a.aj.length-1]!).length,((kE a.aj[a.aj.length-1]! i (a.aj.set (a.aj.length-1) a.aj[i]!) (a.am.set (Ev.n a.aj[i]!) (-1))).1:Int),(kE a.aj[a.aj.length-1]! i (a.aj.set (a.aj.length-1) a.aj[i]!) (a.am.set (Ev.n a.aj[i]!) (-1))).2.1.set (kE a.aj[a.aj.length-1]! i (a.aj.set (a.aj.length-1) a.aj[i]!) (a.am.set (Ev.n a.aj[i]!) (-1))).1 a.aj[a.aj.length-1]!,(kE a.aj[a.aj.length-1]! i (a.aj.set (a.aj.length-1) a.aj[i]!) (a.am.set (Ev.n a.aj[i]!) (-1))).2.2.set (Ev.n a.aj[a.aj.length-1]!) ((kE a.aj[a.aj.length-1]! i (a.aj.set (a.aj.length-1) a.aj[i]!) (a.am.set (Ev.n a.aj[i]!) (-1))).1:Int))) hx c1 a.aj.length (kE a.aj[a.aj.length-1]! i (a.aj.set (a.aj.length-1) a.aj[i]!) (a.am.set (Ev.n a.aj[i]!) (-1))).1 (kE a.aj[a.aj.length-1]! i (a.aj.set (a.aj.length-1) a.aj[i]!) (a.am.set (Ev.n a.aj[i]!) (-1))).2.1 (kE a.aj[a.aj.length-1]! i (a.aj.set (a.aj.length-1) a.aj[i]!) (a.am.set (Ev.n a.aj[i]!) (-1))).2.2 (by omega) cells1 (by omega) (by rw [un.2];exact x1) bn bn
   have st:=JT (n:=(a.aj.length-1)) (x:=a.aj[a.aj.length-1]!) (i:=i) (H:=(a.aj.set (a.aj.length-1) a.aj[i]!)) (W:=(a.am.set (Ev.n a.aj[i]!) (-1))) hlt;have st2:=JT (n:=(a.aj.length-1)) (x:=a.aj[a.aj.length-1]!) (i:=i) (H:=a.aj) (W:=(a.am.set (Ev.n a.aj[i]!) (-1))) hlt;rw [tk,st2] at st;injection st with st1 st3
   simp only [cond_true,sw,aB,mF _ (a.aj.length-1) (show a.aj.length-1<=((a.aj.set (a.aj.length-1) a.aj[i]!).set i a.aj[a.aj.length-1]!).length by rw [bn,bn];omega),g2,gv',ws,hs,U,D,<- st1,<- st3]
 rw [bT (show (i:Int)=((a.aj.length-1:Nat):Int) by omega),if_neg hlt]
 have ws:cL a.am (a.aj[i]!).2.2.2.1 (-1)=a.am.set (Ev.n a.aj[i]!) (-1):=rfl;simp only [cond_false,mF a.aj (a.aj.length-1) (by omega),aB,gv,ws]
end
abbrev wN:=Int×Int×Int
theorem fH.fit {a:aP} (ok:fH a):E6 a:=by
 have bd:=ok.bd
 have:=ok.so.fl
 have:=ok.so.n2
 exact ⟨by omega,by omega,by omega,fun w hw=>(ok.ev w hw).2.1⟩
theorem AF (l:List wN) (id:Int) (hl:l.length<=1000000) (hs: ∀i j,i<j->j<l.length->(l[i]!).1<(l[j]!).1):
 (∀k,k<l.length->(l[k]!).1=id->aS l id ()=some ((k:Int),true))/\
 ((∀k,k<l.length->(l[k]!).1≠id)-> ∃m,m<=l.length/\(∀i,i<m->(l[i]!).1<id)/\(∀i,m<=i->i<l.length->id<(l[i]!).1)/\aS l id ()=some ((m:Int),false)):=by
 obtain ⟨m,m1,m2,m3⟩:=X8 (fun i=>(l[i]!).1) id l.length hs
 have run:aS l id ()=aG aT (l,id,(l.length:Int),(m:Int),(m:Int)):=by
  unfold aS;refine K6 (body:=aT) (fun lo hi=>(l,id,(l.length:Int),(lo:Int),(hi:Int))) l.length m (fun i=>(l[i]!).1<id) (fun lo hi h1 h2=>?_) m2 (fun i h1 h2 h3=>by have:=m3 i h1 h2;omega) l.length 0 l.length (by omega) (by omega) m1 (bu _)
  have e1:decide ((lo:Int)<(hi:Int))=true:=aJ (by omega)
  have hh:=aMX (a:=lo) (b:=hi) (by omega) (by omega)
  unfold aT vQ;simp only [e1,cond_true,hh,aE l ((lo+hi) / 2) (by omega),mE,aB,aU (show (lo+hi) / 2<1000000000 by omega)]
  constructor
  · intro h
    have:decide (lH (l[(lo+hi) / 2]!).1 id<0)=true:=by
     rcases gP (l[(lo+hi) / 2]!).1 id with ⟨a,e⟩|⟨a,e⟩|⟨a,e⟩<;>rw [e]<;>first|rfl|omega
    rw [this];rfl
  intro h
  have:decide (lH (l[(lo+hi) / 2]!).1 id<0)=false:=by
   rcases gP (l[(lo+hi) / 2]!).1 id with ⟨a,e⟩|⟨a,e⟩|⟨a,e⟩<;>rw [e]<;>first|rfl|omega
  rw [this];rfl
 have fin:aG aT (l,id,(l.length:Int),(m:Int),(m:Int))=if m<l.length/\(l[m]!).1=id then some ((m:Int),true) else some ((m:Int),false):=by
  have e1:decide ((m:Int)<(m:Int))=false:=dec_f (by omega)
  by_cases hm:m<l.length
  · have e2:decide ((m:Int)<(l.length:Int))=true:=aJ (by omega)
    have body:aT (l,id,(l.length:Int),(m:Int),(m:Int))=some (.done ((m:Int),lH (l[m]!).1 id==0)):=by
     unfold aT vQ;simp only [e1,e2,cond_true,cond_false,aE l m hm,mE,aB]
    rw [aL body];rcases gP (l[m]!).1 id with ⟨a,e⟩|⟨a,e⟩|⟨a,e⟩
    · rw [e,if_neg (fun h=>by omega)];rfl
    · rw [e,if_pos ⟨hm,a⟩];rfl
    rw [e,if_neg (fun h=>by omega)];rfl
  have e2:decide ((m:Int)<(l.length:Int))=false:=dec_f (by omega)
  have body:aT (l,id,(l.length:Int),(m:Int),(m:Int))=some (.done ((m:Int),false)):=by
   unfold aT;simp only [e1,e2,cond_false]
  rw [aL body,if_neg (fun h=>hm h.1)]
 rw [run,fin];constructor
 · intro k hk he
   have hkm:k=m:=by
    rcases cu k m with h|h|h
    · have:=m2 k h;omega
    · exact h
    have h1:=m3 m (bu _) (by omega)
    have h2:=hs m k h hk;omega
   subst hkm;rw [if_pos ⟨hk,he⟩]
 intro h
 refine ⟨m,m1,m2,fun i h1 h2=>?_,?_⟩
 · have:=m3 i h1 h2
   have:=h i h2
   omega
 rw [if_neg (fun k=>h m k.1 k.2)]
theorem aTS:dK=aS:=rfl
theorem aFR:dH=aS:=rfl
theorem U1:dJ=aS:=rfl
theorem yT {α:Type} (l:List α) (k:Nat):l.eraseIdx k=l.take k++l.drop (k+1):=List.eraseIdx_eq_take_drop_succ l k
theorem E9 (l:List wN) (k:Nat) (hk:k<l.length): ∃L:List wN,eL ((k:Int),((k+1:Nat):Int),l)=some (l.length-1,l.length,L)/\L.take (l.length-1)=l.eraseIdx k:=by
 unfold eL;have e1:decide ((0:Int)<=(k:Int))=true:=aJ (by omega)
 have e2:decide ((k:Int)<=((k+1:Nat):Int))=true:=aJ (by omega)
 have e3:decide (((k+1:Nat):Int)<=(l.length:Int))=true:=aJ (by omega)
 have e4:decide ((l.length:Int)<=(l.length:Int))=true:=aJ (by omega)
 have e5:((k:Int)==((k+1:Nat):Int))=false:=eB (by omega)
 have e6:decide ((0:Int)<=((k+1:Nat):Int))=true:=aJ (by omega)
 have e7:decide ((k:Int)<=(l.length:Int))=true:=aJ (by omega)
 have dr:(l.drop (k+1)).take (l.length- (k+1))=l.drop (k+1):=cb (by rw [cy];exact bu _)
 have dl:(l.drop (k+1)).length=l.length- (k+1):=cy;simp only [aF,e1,e2,e3,e4,e5,e6,e7,ec,cond_true,cond_false,mF l k (by omega),aB,bq,Nat.zero_add,dr,dl,ci,Bool.and_true]
 by_cases h:k+1=l.length
 · have em:(l.drop (k+1)).isEmpty=true:=by rw [dv,cp];omega
   have n1:ef (l.length-k) 0=false:=by
    cases hb:ef (l.length-k) 0 with
    |false=>rfl
    |true=>have:=dc hb;omega
   have n2:Nat.ble (k+(l.length-k)) l.length=true:=ck (by omega)
   have ll:(fS l k (d6 (l.length-k) ((0:Int),(0:Int),(0:Int)))).length=l.length:=by
    unfold fS;simp;omega
   simp only [em,cond_true,n1,cond_false,n2,ll,beq_self_eq_true];refine ⟨_,by rw [show k=l.length-1 by omega],?_⟩
   rw [yT,show l.length-1=k by omega]
   unfold fS;rw [cj,cd (by rw [bw];omega),d7,eg]
   rw [c7 (by omega),dz]
 have em:(l.drop (k+1)).isEmpty=false:=by
  cases hb:(l.drop (k+1)).isEmpty with
  |false=>rfl
  |true=>rw [dv,cp] at hb;omega
 have n1:Nat.ble (k+(l.length- (k+1))) l.length=true:=ck (by omega)
 have n2:decide ((0:Int)<=((k+(l.length- (k+1)):Nat):Int))=true:=aJ (by omega)
 have n3:decide (((k+(l.length- (k+1)):Nat):Int)<=(l.length:Int))=true:=aJ (by omega)
 have n4:ef (l.length- (k+(l.length- (k+1)))) 0=false:=by
  cases hb:ef (l.length- (k+(l.length- (k+1)))) 0 with
  |false=>rfl
  |true=>have:=dc hb;omega
 have l1:(fS l k (l.drop (k+1))).length=l.length:=by
  unfold fS;simp;omega
 have n5:Nat.ble (k+(l.length- (k+1))+(l.length- (k+(l.length- (k+1))))) l.length=true:=ck (by omega)
 have l2:(fS (fS l k (l.drop (k+1))) (k+(l.length- (k+1))) (d6 (l.length- (k+(l.length- (k+1)))) ((0:Int),(0:Int),(0:Int)))).length=l.length:=by
  unfold fS;simp;omega
 simp only [em,cond_false,n1,cond_true,n2,n3,ec,n4,l1,n5,l2,beq_self_eq_true];refine ⟨_,by rw [show k+(l.length- (k+1))=l.length-1 by omega],?_⟩
 rw [yT]
 have:k+(l.length- (k+1))=l.length-1:=by omega
 unfold fS;rw [cj,cd (by simp;omega),d7,eg,cj]
 rw [show (l.take k++(l.drop (k+1)++l.drop (k+(l.drop (k+1)).length)))=(l.take k++l.drop (k+1))++l.drop (k+(l.drop (k+1)).length) by rw [cj]]
 rw [cd (by simp;omega),cb (by simp;omega)]
theorem aAR:mW=eL:=rfl
theorem C8 {α:Type} [Inhabited α] {l:List α} {k i:Nat}:(l.eraseIdx k)[i]! =if i<k then l[i]! else l[i+1]!:=by
 rw [yT]
 by_cases hk:k<l.length
 · by_cases h:i<k
   · rw [if_pos h,eX (by rw [bw];omega),kN h]
   rw [if_neg h,gN (by rw [bw];omega),pD,bw]
   congr 1;omega
 have e1:l.take k=l:=cb (by omega)
 have e2:l.drop (k+1)=[]:=c7 (by omega)
 rw [e1,e2,dz];split
 · rfl
 rw [getElem!_neg l i (by omega),getElem!_neg l (i+1) (by omega)]
def fY (x:Int×Int):Prop:=0<=x.1/\x.1<=65535/\0<=x.2/\x.2<=65535/\x.1≠x.2
theorem G6 (x:Int×Int):xY x=some (decide (fY x)):=by
 obtain ⟨a,b⟩:=x;unfold xY;dsimp only
 by_cases h1:0<=a
 · by_cases h3:0<=b
   · have e1:decide (0<=if b<a then b else a)=true:=aJ (by split<;>omega)
     rw [e1]
     by_cases h2:a<=65535
     · by_cases h4:b<=65535
       · have e2:decide ((if b>a then b else a)<=65535)=true:=aJ (by split<;>omega)
         rw [e2]
         by_cases h5:a=b
         · rw [bT h5,dec_f (p:=fY (a,b)) (fun h=>h.2.2.2.2 h5)];rfl
         rw [cP h5,aJ (p:=fY (a,b)) ⟨h1,h2,h3,h4,h5⟩];rfl
       have e2:decide ((if b>a then b else a)<=65535)=false:=dec_f (by split<;>omega)
       rw [e2,dec_f (p:=fY (a,b)) (fun h=>h4 h.2.2.2.1)];rfl
     have e2:decide ((if b>a then b else a)<=65535)=false:=dec_f (by split<;>omega)
     rw [e2,dec_f (p:=fY (a,b)) (fun h=>h2 h.2.1)];rfl
   have e1:decide (0<=if b<a then b else a)=false:=dec_f (by split<;>omega)
   rw [e1,dec_f (p:=fY (a,b)) (fun h=>h3 h.2.2.1)];rfl
 have e1:decide (0<=if b<a then b else a)=false:=dec_f (by split<;>omega)
 rw [e1,dec_f (p:=fY (a,b)) (fun h=>h1 h.1)];rfl
theorem G7 (x:Int×Int):yH x=some (decide (fY x)):=by
 obtain ⟨a,b⟩:=x;unfold yH;dsimp only
 by_cases h1:0<=a
 · by_cases h2:a<=65535
   · by_cases h3:0<=b
     · by_cases h4:b<=65535
       · by_cases h5:a=b
         · rw [bT h5,aJ h1,aJ h2,aJ h3,aJ h4,dec_f (p:=fY (a,b)) (fun h=>h.2.2.2.2 h5)];rfl
         rw [cP h5,aJ h1,aJ h2,aJ h3,aJ h4,aJ (p:=fY (a,b)) ⟨h1,h2,h3,h4,h5⟩];rfl
       rw [aJ h1,aJ h2,aJ h3,dec_f h4,dec_f (p:=fY (a,b)) (fun h=>h4 h.2.2.2.1)];rfl
     rw [aJ h1,aJ h2,dec_f h3,dec_f (p:=fY (a,b)) (fun h=>h3 h.2.2.1)];rfl
   rw [aJ h1,dec_f h2,dec_f (p:=fY (a,b)) (fun h=>h2 h.2.1)];rfl
 rw [dec_f h1,dec_f (p:=fY (a,b)) (fun h=>h1 h.1)];rfl
structure fK (c:bO):Prop where
 len:c.aq.length<=200
 n0:0<=c.ao
 n1:c.ao<=1000000
 cv: ∀i,i<c.aq.length->fY (c.aq[i]!).2
 nr: ∀i,i<c.aq.length->0<=(c.aq[i]!).1/\(c.aq[i]!).1<c.ao
 up: ∀i j,i<j->j<c.aq.length->(c.aq[i]!).1<(c.aq[j]!).1
 nd: ∀i j,i<j->j<c.aq.length->(c.aq[i]!).2≠(c.aq[j]!).2
def FA (l:List wN) (i:Nat):Int:=if i=0 then -1 else (l[i-1]!).1
def aAS (c:bO) (i:Nat):Prop:=fY (c.aq[i]!).2/\(∀j,j<i->(c.aq[j]!).2≠(c.aq[i]!).2)/\FA c.aq i<(c.aq[i]!).1/\(c.aq[i]!).1<c.ao
theorem fK.iff {c:bO} (h1:c.aq.length<=200) (h2:0<=c.ao) (h3:c.ao<=1000000):fK c↔ ∀i,i<c.aq.length->aAS c i:=by
 constructor
 · intro ok i hi
   refine ⟨ok.cv i hi,fun j hj=>ok.nd j i hj hi,?_,(ok.nr i hi).2⟩
   unfold FA;split
   · have:=(ok.nr i hi).1;omega
   exact ok.up (i-1) i (by omega) hi
 intro h
 have low: ∀i,i<c.aq.length->0<=(c.aq[i]!).1:=by
  intro i
  induction i with
  |zero=>
   intro hi
   have:=(h 0 hi).2.2.1
   unfold FA at this;rw [if_pos rfl] at this;omega
  |succ i ih=>
   intro hi;have h1:=(h (i+1) hi).2.2.1;unfold FA at h1;rw [if_neg (by omega),show i+1-1=i by omega] at h1
   have:=ih (by omega)
   omega
 have up: ∀i j,i<j->j<c.aq.length->(c.aq[i]!).1<(c.aq[j]!).1:=by
  intro i j
  induction j with
  |zero=>intro h;omega
  |succ j ih=>
   intro hij hj;have h1:=(h (j+1) hj).2.2.1;unfold FA at h1;rw [if_neg (by omega),show j+1-1=j by omega] at h1
   by_cases e:i=j
   · subst e;exact h1
   have:=ih (by omega) (by omega)
   omega
 exact ⟨h1,h2,h3,fun i hi=>(h i hi).1,fun i hi=>⟨low i hi,(h i hi).2.2.2⟩,up,fun i j hij hj=>(h j hj).2.1 i hij⟩
theorem PS (l:List wN) (k:Nat) (a b:Int):rV [a,b] ((l.take k).map fun x=>[x.2.1,x.2.2])=true:=by
 unfold rV;rw [List.all_eq_true];intro x hx;obtain ⟨y,hy,rfl⟩:=cf.1 hx;rfl
theorem PU (l:List wN) (k:Nat) (x:Int×Int):MH ((l.take k).map fun y=>[y.2.1,y.2.2]) [x.1,x.2]=decide (∃j,j<k/\j<l.length/\(l[j]!).2=x):=by
 unfold MH;rw [db,List.any_eq_true,decide_eq_true_iff];constructor
 · rintro ⟨y,hy,he⟩
   obtain ⟨z,hz,rfl⟩:=cf.1 hy;obtain ⟨j,h1,h2,rfl⟩:=cH.1 hz
   have:[x.1,x.2]=[(l[j]!).2.1,(l[j]!).2.2]:=by simpa using he
   injection this with e1 e2;injection e2 with e2 _;exact ⟨j,h1,h2,ce e1.symm e2.symm⟩
 rintro ⟨j,h1,h2,h3⟩
 refine ⟨[(l[j]!).2.1,(l[j]!).2.2],cf.2 ⟨l[j]!,cH.2 ⟨j,h1,h2,rfl⟩,rfl⟩,?_⟩;rw [h3];simp
theorem A0 (c:bO):tK c=some (if fK c then 0 else 8):=by
 unfold tK;simp only [aF]
 by_cases h1:200<c.aq.length
 · rw [aJ (show (200:Int)<(c.aq.length:Int) by omega),if_neg (fun h=>by have:=h.len;omega)];rfl
 rw [dec_f (show¬(200:Int)<(c.aq.length:Int) by omega)]
 by_cases h2:c.ao<0
 · rw [aJ h2,if_neg (fun h=>by have:=h.n0;omega)];rfl
 rw [dec_f h2]
 by_cases h3:1000000<c.ao
 · rw [aJ h3,if_neg (fun h=>by have:=h.n1;omega)];rfl
 rw [dec_f h3];simp only [cond_false];have key:=dM (body:=uF) (fun i=>(FA c.aq i,c.aq,(c.aq.length:Int),(i:Int),c.ao,c.aq,(c.aq.take i).map fun x=>[x.2.1,x.2.2])) c.aq.length (fun i=> ¬aAS c i) (r:=8) (e:=0) (fun i hi=>by
  have e1:decide ((i:Int)<(c.aq.length:Int))=true:=aJ (by omega)
  have has:V9 ((c.aq.take i).map fun x=>[x.2.1,x.2.2]) [(c.aq[i]!).2.1,(c.aq[i]!).2.2]=some (decide (∃j,j<i/\j<c.aq.length/\(c.aq[j]!).2=(c.aq[i]!).2)):=by
   unfold V9;rw [PS,PU];rfl
  have nx:(c.aq.take (i+1)).map (fun x=>[x.2.1,x.2.2])=((c.aq.take i).map fun x=>[x.2.1,x.2.2])++[[(c.aq[i]!).2.1,(c.aq[i]!).2.2]]:=by
   rw [fQ hi,List.map_append];rfl
  have ln:FA c.aq (i+1)=(c.aq[i]!).1:=by unfold FA;rw [if_neg (by omega),show i+1-1=i by omega]
  unfold uF;simp only [e1,cond_true,aE c.aq i hi,aB,G6,has,nx,ln,aU (show i<1000000000 by omega)]
  unfold aAS
  by_cases b1:fY (c.aq[i]!).2
  case neg=>
   rw [dec_f b1];exact ⟨fun _=>rfl,fun h=>absurd (bm.1 h).1 b1⟩
  rw [aJ b1]
  by_cases b2: ∃j,j<i/\j<c.aq.length/\(c.aq[j]!).2=(c.aq[i]!).2
  · rw [aJ b2]
    refine ⟨fun _=>rfl,fun h=>?_⟩
    obtain ⟨j,j1,j2,j3⟩:=b2;exact absurd j3 ((bm.1 h).2.1 j j1)
  rw [dec_f b2];have b2': ∀j,j<i->(c.aq[j]!).2≠(c.aq[i]!).2:=fun j hj he=>b2 ⟨j,hj,by omega,he⟩
  by_cases b3:(c.aq[i]!).1<=FA c.aq i
  · rw [aJ b3]
    exact ⟨fun _=>rfl,fun h=>absurd (bm.1 h).2.2.1 (by omega)⟩
  rw [dec_f b3]
  by_cases b4:c.ao<=(c.aq[i]!).1
  · rw [aJ b4]
    exact ⟨fun _=>rfl,fun h=>absurd (bm.1 h).2.2.2 (by omega)⟩
  rw [dec_f b4];have ins:WA ((c.aq.take i).map fun x=>[x.2.1,x.2.2]) [(c.aq[i]!).2.1,(c.aq[i]!).2.2]=some (((c.aq.take i).map fun x=>[x.2.1,x.2.2])++[[(c.aq[i]!).2.1,(c.aq[i]!).2.2]]):=by
   unfold WA Z0;rw [PS,PU,dec_f b2];rfl
  rw [ins];exact ⟨fun h=>absurd ⟨b1,b2',by omega,by omega⟩ h,fun _=>rfl⟩) (by
  unfold uF
  have:decide ((c.aq.length:Int)<(c.aq.length:Int))=false:=dec_f (by omega)
  simp only [this,cond_false])
 have h0:FA c.aq 0= -1:=rfl;rw [h0] at key
 by_cases ok:fK c
 · rw [if_pos ok]
   exact key.2 fun i hi=>bm.2 ((fK.iff (by omega) (by omega) (by omega)).1 ok i hi)
 rw [if_neg ok]
 rw [fK.iff (by omega) (by omega) (by omega)] at ok
 obtain ⟨i,h⟩:=bv.1 ok;obtain ⟨hi,hx⟩:=bz.1 h;exact key.1 ⟨i,hi,hx⟩
theorem YK (c:bO) (i:Nat) (hi:i<c.aq.length) (hl:c.aq.length<=200):
 ((∃j,j<i/\(c.aq[j]!).2=(c.aq[i]!).2)->aG gM ((i:Int),0,c.ao,c.aq,c.aq[i]!)=some (.done 8))/\
 ((∀j,j<i-> ¬(c.aq[j]!).2=(c.aq[i]!).2)->aG gM ((i:Int),0,c.ao,c.aq,c.aq[i]!)=some (.next (((i+1:Nat):Int),c.ao,c.aq))):=by
 refine dM (body:=gM) (fun j=>((i:Int),(j:Int),c.ao,c.aq,c.aq[i]!)) i (fun j=>(c.aq[j]!).2=(c.aq[i]!).2) (r:= .done 8) (e:= .next (((i+1:Nat):Int),c.ao,c.aq)) (fun j hj=>?_) ?_
 · have e1:decide ((j:Int)<(i:Int))=true:=aJ (by omega)
   unfold gM;simp only [e1,cond_true,aE c.aq j (by omega),aB,aU (show j<1000000000 by omega)]
   generalize c.aq[j]! =x;generalize c.aq[i]! =y;constructor
   · intro h;rw [eI (congrArg d8 h),eI (congrArg d9 h)];rfl
   intro h
   by_cases h1:x.2.1=y.2.1
   · rw [eI h1,eB (fun h2=>h (ce h1 h2))];rfl
   rw [eB h1];rfl
 unfold gM
 have:decide ((i:Int)<(i:Int))=false:=dec_f (by omega)
 simp only [this,cond_false,aU (show i<1000000000 by omega)]
theorem FB (c:bO):vT c=some (if fK c then 0 else 8):=by
 unfold vT;simp only [aF]
 by_cases h1:200<c.aq.length
 · rw [aJ (show (200:Int)<(c.aq.length:Int) by omega),if_neg (fun h=>by have:=h.len;omega)];rfl
 rw [dec_f (show¬(200:Int)<(c.aq.length:Int) by omega)]
 by_cases h2:c.ao<0
 · rw [aJ h2,if_neg (fun h=>by have:=h.n0;omega)];rfl
 rw [dec_f h2]
 by_cases h3:1000000<c.ao
 · rw [aJ h3,if_neg (fun h=>by have:=h.n1;omega)];rfl
 rw [dec_f h3];simp only [cond_false];have key:=dM (body:=sE) (fun i=>((i:Int),c.ao,c.aq)) c.aq.length (fun i=> ¬(fY (c.aq[i]!).2/\0<=(c.aq[i]!).1/\(c.aq[i]!).1<c.ao/\(0<i->(c.aq[i-1]!).1<(c.aq[i]!).1)/\ ∀j,j<i-> ¬(c.aq[j]!).2=(c.aq[i]!).2)) (r:=8) (e:=0) (fun i hi=>by
  have e1:decide ((i:Int)<(c.aq.length:Int))=true:=aJ (by omega)
  have l1:=YK c i hi (by omega)
  unfold sE;simp only [aF,e1,cond_true,aE c.aq i hi,aB,G7]
  by_cases b1:fY (c.aq[i]!).2
  case neg=>
   rw [dec_f b1];exact ⟨fun _=>rfl,fun h=>absurd (bm.1 h).1 b1⟩
  rw [aJ b1]
  by_cases b2:(c.aq[i]!).1<0
  · rw [aJ b2]
    exact ⟨fun _=>rfl,fun h=>absurd (bm.1 h).2.1 (by omega)⟩
  rw [dec_f b2]
  by_cases b3:c.ao<=(c.aq[i]!).1
  · rw [aJ b3]
    exact ⟨fun _=>rfl,fun h=>absurd (bm.1 h).2.2.1 (by omega)⟩
  rw [dec_f b3];simp only [bo,cond_false];have go:(0<i->(c.aq[i-1]!).1<(c.aq[i]!).1)->(¬(fY (c.aq[i]!).2/\0<=(c.aq[i]!).1/\(c.aq[i]!).1<c.ao/\(0<i->(c.aq[i-1]!).1<(c.aq[i]!).1)/\ ∀j,j<i-> ¬(c.aq[j]!).2=(c.aq[i]!).2)->aG gM ((i:Int),0,c.ao,c.aq,c.aq[i]!)=some (.done 8))/\
   (¬¬(fY (c.aq[i]!).2/\0<=(c.aq[i]!).1/\(c.aq[i]!).1<c.ao/\(0<i->(c.aq[i-1]!).1<(c.aq[i]!).1)/\ ∀j,j<i-> ¬(c.aq[j]!).2=(c.aq[i]!).2)->aG gM ((i:Int),0,c.ao,c.aq,c.aq[i]!)=some (.next (((i+1:Nat):Int),c.ao,c.aq))):=by
   intro hp;constructor
   · intro h
     refine l1.1 (Classical.byContradiction fun hx=>h ⟨b1,by omega,by omega,hp,fun j hj he=>hx ⟨j,hj,he⟩⟩)
   intro h
   exact l1.2 (bm.1 h).2.2.2.2
  by_cases b4:0<i
  · have f1:decide ((0:Int)<(i:Int))=true:=aJ (by omega)
    simp only [f1,cond_true,qB (show i<1000000000 by omega) b4,aE c.aq (i-1) (by omega),aB]
    by_cases b5:(c.aq[i]!).1<=(c.aq[i-1]!).1
    · rw [aJ b5]
      exact ⟨fun _=>rfl,fun h=>absurd ((bm.1 h).2.2.2.1 b4) (by omega)⟩
    rw [dec_f b5]
    exact go fun _=>by omega
  · have f1:decide ((0:Int)<(i:Int))=false:=dec_f (by omega)
    rw [f1];exact go fun h=>absurd h b4) (by
  unfold sE
  have:decide ((c.aq.length:Int)<(c.aq.length:Int))=false:=dec_f (by omega)
  simp only [aF,this,cond_false])
 have same:fK c↔ ∀i,i<c.aq.length->(fY (c.aq[i]!).2/\0<=(c.aq[i]!).1/\(c.aq[i]!).1<c.ao/\(0<i->(c.aq[i-1]!).1<(c.aq[i]!).1)/\ ∀j,j<i-> ¬(c.aq[j]!).2=(c.aq[i]!).2):=by
  constructor
  · intro ok i hi
    exact ⟨ok.cv i hi,(ok.nr i hi).1,(ok.nr i hi).2,fun h=>ok.up (i-1) i (by omega) hi,fun j hj=>ok.nd j i hj hi⟩
  intro h
  rw [fK.iff (by omega) (by omega) (by omega)]
  intro i hi;obtain ⟨a1,a2,a3,a4,a5⟩:=h i hi;refine ⟨a1,a5,?_,a3⟩;unfold FA;split
  · omega
  exact a4 (by omega)
 by_cases ok:fK c
 · rw [if_pos ok]
   exact key.2 fun i hi=>bm.2 (same.1 ok i hi)
 rw [if_neg ok]
 rw [same] at ok;obtain ⟨i,h⟩:=bv.1 ok;obtain ⟨hi,hx⟩:=bz.1 h;exact key.1 ⟨i,hi,hx⟩
def A1 (l:List wN) (x:Int×Int):Prop:= ∃i,i<l.length/\(l[i]!).2=x
theorem YL (l:List wN) (x:Int×Int) (hl:l.length<=1000000):cO l x=some (decide (A1 l x)):=by
 unfold cO gC;have key:=jK (body:=dR) (fun i=>(l,x.1,x.2,(l.length:Int),(i:Int))) l.length (fun i=>(l[i]!).2=x) (fun i=>(i:Int)) (e:= -1) (fun i hi=>by
  have e1:decide ((i:Int)<(l.length:Int))=true:=aJ (by omega)
  unfold dR HW;simp only [e1,cond_true,aE l i hi,aB,aU (show i<1000000000 by omega)]
  generalize l[i]! =y;constructor
  · intro h;rw [eI (congrArg d8 h),eI (congrArg d9 h)];rfl
  · intro h
    by_cases h1:y.2.1=x.1
    · rw [eI h1,eB (fun h2=>h (ce h1 h2))];rfl
    rw [eB h1];rfl) (by
  unfold dR
  have:decide ((l.length:Int)<(l.length:Int))=false:=dec_f (by omega)
  simp only [this,cond_false])
 rw [aF]
 by_cases hx:A1 l x
 · obtain ⟨k,h1,h2,h3⟩:=E2 hx
   have:=key.1 k h1 h2 h3
   rw [show ((0:Nat):Int)=0 from rfl] at this;rw [this,aJ hx];simp only [aB,aJ (show (0:Int)<=(k:Int) by omega)]
 have:=key.2 fun i hi he=>hx ⟨i,hi,he⟩
 rw [show ((0:Nat):Int)=0 from rfl] at this;rw [this,dec_f hx];rfl
theorem LC:eK=cO:=rfl
theorem C9 (c:bO) (x:Int×Int) (hl:c.aq.length<=1000000):xJ c x=some (decide (A1 c.aq x)):=by
 unfold xJ;have key:=dM (body:=xE) (fun i=>((i:Int),c.ao,c.aq,x)) c.aq.length (fun i=>(c.aq[i]!).2=x) (r:=true) (e:=false) (fun i hi=>by
  have e1:decide ((i:Int)<(c.aq.length:Int))=true:=aJ (by omega)
  unfold xE;simp only [aF,e1,cond_true,aE c.aq i hi,aB,aU (show i<1000000000 by omega)]
  generalize c.aq[i]! =y;constructor
  · intro h;rw [eI (congrArg d8 h),eI (congrArg d9 h)];rfl
  · intro h
    by_cases h1:y.2.1=x.1
    · rw [eI h1,eB (fun h2=>h (ce h1 h2))];rfl
    rw [eB h1];rfl) (by
  unfold xE
  have:decide ((c.aq.length:Int)<(c.aq.length:Int))=false:=dec_f (by omega)
  simp only [aF,this,cond_false])
 by_cases hx:A1 c.aq x
 · rw [aJ hx];exact key.1 hx
 rw [dec_f hx];exact key.2 fun i hi he=>hx ⟨i,hi,he⟩
def sT (c:bO) (x:Int×Int):bO:=⟨c.ao+1,c.aq++[(c.ao,x)]⟩
def JU (c:bO):Prop:=c.aq.length=200\/c.ao=1000000
theorem YM {c:bO} (ok:fK c) {x:Int×Int} (hx:fY x):JK c x=some (if A1 c.aq x then (⟨0,[]⟩,0,14) else if JU c then (⟨0,[]⟩,0,18) else (sT c x,c.ao,0)):=by
 have:=ok.len;have:=ok.n0;have:=ok.n1
 unfold JK;rw [A0,if_pos ok,G6,aJ hx,YL _ _ (by omega)]
 simp only [aB,show ((0:Int) !=0)=false from rfl,cond_false,bo,aF]
 by_cases h1:A1 c.aq x
 · rw [aJ h1,if_pos h1];rfl
 rw [dec_f h1,if_neg h1];unfold JU
 by_cases h2:c.aq.length=200
 · rw [eI (show (c.aq.length:Int)=200 by omega),if_pos (.inl h2)];rfl
 rw [eB (show¬(c.aq.length:Int)=200 by omega)]
 by_cases h3:c.ao=1000000
 · rw [eI h3,if_pos (.inr h3)];rfl
 rw [eB h3,if_neg (by omega)]
 have e:aA .i64 (c.ao+1)=c.ao+1:=by rw [wi];omega
 simp only [cond_false,aV (show c.aq.length<=1048576 by omega),aB,dB (show c.aq.length+[(c.ao,x)].length<=1048576 by simp;omega),e]
 rfl
theorem U2 {c:bO} (ok:fK c) {x:Int×Int} (hx:fY x):F7 c x=some (if A1 c.aq x then (⟨0,[]⟩,0,14) else if JU c then (⟨0,[]⟩,0,18) else (sT c x,c.ao,0)):=by
 have:=ok.len;have:=ok.n0;have:=ok.n1
 unfold F7 qL;rw [FB,if_pos ok,G7,aJ hx,C9 _ _ (by omega)]
 simp only [aB,show ((0:Int) !=0)=false from rfl,cond_false,bo,aF]
 by_cases h1:A1 c.aq x
 · rw [aJ h1,if_pos h1];rfl
 rw [dec_f h1,if_neg h1];unfold JU
 by_cases h2:c.aq.length=200
 · rw [eI (show (c.aq.length:Int)=200 by omega),if_pos (.inl h2)];rfl
 rw [eB (show¬(c.aq.length:Int)=200 by omega)]
 by_cases h3:c.ao=1000000
 · rw [eI h3,if_pos (.inr h3)];rfl
 rw [eB h3,if_neg (by omega)]
 have e:aA .i64 (c.ao+1)=c.ao+1:=by rw [wi];omega
 simp only [cond_false,aV (show c.aq.length<=1048576 by omega),aB,dB (show c.aq.length+[(c.ao,x)].length<=1048576 by simp;omega),e]
 rfl
theorem yU {c:bO} {x:Int×Int} {i:Nat}:(sT c x).aq[i]! =if i<c.aq.length then c.aq[i]! else if i=c.aq.length then (c.ao,x) else default:=by
 show (c.aq++[(c.ao,x)])[i]! =_
 by_cases h:i<c.aq.length
 · rw [if_pos h,eX h]
 rw [if_neg h,gN (by omega)]
 by_cases e:i=c.aq.length
 · rw [if_pos e,e,c6];rfl
 rw [if_neg e,getElem!_neg _ _ (by simp;omega)]
theorem GG {c:bO} {x:Int×Int}:(sT c x).aq.length=c.aq.length+1:=by
 show (c.aq++[(c.ao,x)]).length=_;simp
theorem aAT {c:bO} (ok:fK c) {x:Int×Int} (hx:fY x) (hn: ¬A1 c.aq x) (hf: ¬JU c):fK (sT c x):=by
 have h1:=ok.len;have h2:=ok.n0;have h3:=ok.n1;unfold JU at hf;refine ⟨by rw [GG];omega,by show 0<=c.ao+1;omega,by show c.ao+1<=1000000;omega,?_,?_,?_,?_⟩
 · intro i hi
   rw [GG] at hi;rw [yU]
   by_cases h:i<c.aq.length
   · rw [if_pos h];exact ok.cv i h
   rw [if_neg h,if_pos (by omega)];exact hx
 · intro i hi
   rw [GG] at hi;rw [yU];show 0<=_/\_<c.ao+1
   by_cases h:i<c.aq.length
   · rw [if_pos h];have:=ok.nr i h;omega
   rw [if_neg h,if_pos (by omega)];dsimp only;omega
 · intro i j hij hj
   rw [GG] at hj;rw [yU,yU,if_pos (by omega)]
   by_cases h:j<c.aq.length
   · rw [if_pos h];exact ok.up i j hij h
   rw [if_neg h,if_pos (by omega)]
   exact (ok.nr i (by omega)).2
 intro i j hij hj
 rw [GG] at hj;rw [yU,yU,if_pos (by omega)]
 by_cases h:j<c.aq.length
 · rw [if_pos h];exact ok.nd i j hij h
 rw [if_neg h,if_pos (by omega)]
 exact fun he=>hn ⟨i,by omega,he⟩
def qD (c:bO) (k:Nat):bO:=⟨c.ao,c.aq.eraseIdx k⟩
theorem M5 {α:Type} {l:List α} {k:Nat} (hk:k<l.length):(l.eraseIdx k).length=l.length-1:=by
 rw [List.length_eraseIdx,if_pos hk]
theorem PW {c:bO} (ok:fK c) {k:Nat} (hk:k<c.aq.length):fK (qD c k):=by
 have h1:=ok.len;have len:(qD c k).aq.length=c.aq.length-1:=M5 hk;have cell: ∀i,∃j,i<=j/\j<=i+1/\(i<c.aq.length-1->j<c.aq.length)/\(qD c k).aq[i]! =c.aq[j]!/\(i<k->j=i)/\(k<=i->j=i+1):=by
  intro i
  by_cases h:i<k
  · exact ⟨i,by omega,by omega,by omega,by show (c.aq.eraseIdx k)[i]! =_;rw [C8,if_pos h],fun _=>rfl,by omega⟩
  exact ⟨i+1,by omega,by omega,by omega,by show (c.aq.eraseIdx k)[i]! =_;rw [C8,if_neg h],by omega,fun _=>rfl⟩
 refine ⟨by omega,ok.n0,ok.n1,?_,?_,?_,?_⟩
 · intro i hi
   obtain ⟨j,j1,j2,j3,j4,j5,j6⟩:=cell i;rw [j4];exact ok.cv j (j3 (by omega))
 · intro i hi
   obtain ⟨j,j1,j2,j3,j4,j5,j6⟩:=cell i;rw [j4];exact ok.nr j (j3 (by omega))
 · intro i i' hij hi
   obtain ⟨j,j1,j2,j3,j4,j5,j6⟩:=cell i;obtain ⟨m,m1,m2,m3,m4,m5,m6⟩:=cell i';rw [j4,m4];exact ok.up j m (by omega) (m3 (by omega))
 intro i i' hij hi
 obtain ⟨j,j1,j2,j3,j4,j5,j6⟩:=cell i;obtain ⟨m,m1,m2,m3,m4,m5,m6⟩:=cell i';rw [j4,m4];exact ok.nd j m (by omega) (m3 (by omega))
theorem PX {c:bO} (ok:fK c) {k:Nat} (hk:k<c.aq.length) {n:Int} (hn:(c.aq[k]!).1=n):zQ c n=some (qD c k,(c.aq[k]!).2,0):=by
 have h1:=ok.len;unfold zQ K1;obtain ⟨L,d1,d2⟩:=E9 c.aq k hk;rw [A0,if_pos ok,(AF c.aq n (by omega) ok.up).1 k hk hn]
 simp only [aB,show ((0:Int) !=0)=false from rfl,cond_false,bo,aV (show c.aq.length<=1048576 by omega),aU (show k<1000000000 by omega),d1,aE c.aq k hk,d2]
 rfl
theorem JV {l:List wN} {k:Nat} (hk:k<l.length) (hs: ∀i j,i<j->j<l.length->(l[i]!).1<(l[j]!).1) {n:Int} (hn:(l[k]!).1=n):l.filter (fun x=>x.1 !=n)=l.eraseIdx k:=by
 rw [yT];have e:l.filter (fun x=>x.1 !=n)=(l.take k++l[k]!::l.drop (k+1)).filter (fun x=>x.1 !=n):=congrArg _ (aFA hk)
 rw [e,dj,List.filter_cons_of_neg (by rw [hn];simp)]
 congr 1
 · rw [de]
   intro x hx;obtain ⟨i,h1,h2,rfl⟩:=cH.1 hx
   have:=hs i k h1 hk
   exact cP (by omega)
 rw [de]
 intro x hx;obtain ⟨i,h1,rfl⟩:=aY.1 hx;rw [cy] at h1;rw [pD]
 have:=hs k (k+1+i) (by omega) (by omega)
 exact cP (by omega)
theorem LD {c:bO} (ok:fK c) {k:Nat} (hk:k<c.aq.length) {n:Int} (hn:(c.aq[k]!).1=n):uQ c n=some (qD c k):=by
 have h1:=ok.len;unfold uQ;have key:=cB (body:=mA) (fun i=>(n,(i:Int),c.ao,c.aq,0,c.ao,(c.aq.take i).filter (fun x=>x.1 !=n))) c.aq.length (fun i hi=>by
  have e1:decide ((i:Int)<(c.aq.length:Int))=true:=aJ (by omega)
  have nx:(c.aq.take (i+1)).filter (fun x=>x.1 !=n)=(c.aq.take i).filter (fun x=>x.1 !=n)++(if (c.aq[i]!).1 !=n then [c.aq[i]!] else []):=by
   rw [fQ hi,dj,List.filter_cons,List.filter_nil]
  have fl:((c.aq.take i).filter (fun x=>x.1 !=n)).length<=200:=ed (List.length_filter_le _ _) (by rw [bw];omega)
  unfold mA;simp only [aF,e1,cond_true,aE c.aq i hi,aB,aU (show i<1000000000 by omega),nx]
  by_cases h:(c.aq[i]!).1=n
  · rw [bT h];simp
  rw [cP h]
  simp only [cond_true,if_true,dB (show ((c.aq.take i).filter (fun x=>x.1 !=n)).length+[c.aq[i]!].length<=1048576 by simp only [dt,dy];omega),aB])
 have fin:mA (n,(c.aq.length:Int),c.ao,c.aq,0,c.ao,(c.aq.take c.aq.length).filter (fun x=>x.1 !=n))=some (.done (qD c k)):=by
  unfold mA
  have:decide ((c.aq.length:Int)<(c.aq.length:Int))=false:=dec_f (by omega)
  simp only [aF,this,cond_false,List.take_length];rw [JV hk ok.up hn];rfl
 refine Eq.trans ?_ (aL fin);exact key
def kJ (l:List Pt) (id:Int):Prop:= ∃k,k<l.length/\(l[k]!).1=id
noncomputable def iT (l:List Pt) (id:Int):Pt:=if h:kJ l id then l[h.choose]! else (-1,0,0)
theorem JW {l:List Pt} (hs:gS l) {k:Nat} (hk:k<l.length) {id:Int} (h:(l[k]!).1=id):iT l id=l[k]!:=by
 have hp:kJ l id:=⟨k,hk,h⟩;unfold iT;rw [dif_pos hp]
 have:=hp.choose_spec
 rw [IC hs this.1 hk (by rw [this.2,h])]
theorem fT {l:List Pt} (ok:cE l) {id:Int} (h:kJ l id):iV (iT l id)/\(iT l id).1=id:=by
 obtain ⟨k,hk,he⟩:=h;rw [JW ok.2.2 hk he];exact ⟨ok.2.1 _ (bI hk),he⟩
theorem LE {l:List Pt} {id:Int} (h: ¬kJ l id):iT l id=(-1,0,0):=by unfold iT;rw [dif_neg h]
theorem oQ {l:List Pt} (ok:cE l) (id:Int):kU ⟨l⟩ id=some (iT l id):=by
 have h1:=ok.1;have bs:=AF l id (by omega) (fun i j=>hJ ok.2.2)
 unfold kU;dsimp only;rw [aFR]
 by_cases h:kJ l id
 · obtain ⟨k,hk,he⟩:=h
   rw [bs.1 k hk he];simp only [aB,bo,cond_false,aE l k hk,JW ok.2.2 hk he]
 obtain ⟨m,m1,m2,m3,e⟩:=bs.2 (fun k hk he=>h ⟨k,hk,he⟩)
 rw [e,LE h];rfl
theorem DA {l:List Pt} (ok:cE l) {id:Int} (h:kJ l id): ∃k,k<l.length/\gU ⟨l⟩ id=some (k:Int)/\l[k]! =iT l id:=by
 have h1:=ok.1;obtain ⟨k,hk,he⟩:=h;exact ⟨k,hk,SF ok.2.2 (by omega) hk he,(JW ok.2.2 hk he).symm⟩
theorem U3 {l:List Pt} (ok:cE l) {id:Int} (h: ¬kJ l id):gU ⟨l⟩ id=some (-1):=by
 have h1:=ok.1;exact aM2 (by omega) fun k hk he=>h ⟨k,hk,he⟩
def lD (l:List Pt) (x:Int×Int):Prop:=kJ l x.1/\kJ l x.2
noncomputable def bM (l:List Pt) (x t:Int×Int):(Int×Int)×Bool:=G4 (iT l x.2) (iT l x.1) t
theorem A2 {l:List Pt} (ok:cE l) {x t:Int×Int} (hx:fY x) (ht:cQ t) (h64:tB t):
 tN ⟨l⟩ x t=some (if lD l x then ((bM l x t).1,(bM l x t).2,0) else ((0,0),false,8)):=by
 unfold tN;rw [oQ ok,oQ ok];simp only [aB,MK h64];have bad: ¬iV (-1,0,0):=by unfold iV;dsimp only;omega
 by_cases h1:kJ l x.1
 · by_cases h2:kJ l x.2
   · obtain ⟨p1,p2⟩:=fT ok h1
     obtain ⟨q1,q2⟩:=fT ok h2;rw [if_pos ⟨q1,p1,ht,by rw [p2,q2];exact fun h=>hx.2.2.2.2 h.symm⟩,if_pos ⟨h1,h2⟩]
     rfl
   rw [LE h2,if_neg (fun h=>bad h.1),if_neg (fun h=>bad h.1),if_neg (fun h=>h2 h.2)]
 rw [LE h1,if_neg (fun h=>bad h.2.1),if_neg (fun h=>bad h.2.1),if_neg (fun h=>h1 h.1)]
theorem A3 {l:List Pt} (ok:cE l) {x t:Int×Int} (h64:tB t) (hb:lD l x):tR ⟨l⟩ x t=some (bM l x t):=by
 obtain ⟨h1,h2⟩:=hb;obtain ⟨j,j1,j2,j3⟩:=DA ok h1;obtain ⟨k,k1,k2,k3⟩:=DA ok h2;unfold tR;simp only [j2,k2,aB,aE l j j1,aE l k k1,j3,k3,aAJ (fT ok h2).1 (fT ok h1).1 h64];rfl
theorem aFS (c:bO) {l:List Pt} (ok:cE l) (hl:c.aq.length<=200):zS c ⟨l⟩=some (decide (∀i,i<c.aq.length->lD l (c.aq[i]!).2)):=by
 unfold zS;have key:=dM (body:=sF) (fun i=>((i:Int),c.ao,c.aq,l)) c.aq.length (fun i=> ¬lD l (c.aq[i]!).2) (r:=false) (e:=true) (fun i hi=>by
  have e1:decide ((i:Int)<(c.aq.length:Int))=true:=aJ (by omega)
  unfold sF lD;simp only [aF,e1,cond_true,aE c.aq i hi,aB,aU (show i<1000000000 by omega)]
  by_cases h1:kJ l (c.aq[i]!).2.1
  · obtain ⟨k,k1,k2,_⟩:=DA ok h1
    rw [k2];simp only [aB,dec_f (show¬(k:Int)<0 by omega),cond_false]
    by_cases h2:kJ l (c.aq[i]!).2.2
    · obtain ⟨j,j1,j2,_⟩:=DA ok h2
      rw [j2];simp only [aB,dec_f (show¬(j:Int)<0 by omega),cond_false]
      exact ⟨fun h=>absurd ⟨h1,h2⟩ h,fun _=>trivial⟩
    rw [U3 ok h2]
    exact ⟨fun _=>rfl,fun h=>absurd (bm.1 h).2 h2⟩
  · rw [U3 ok h1]
    exact ⟨fun _=>rfl,fun h=>absurd (bm.1 h).1 h1⟩) (by
  unfold sF
  have:decide ((c.aq.length:Int)<(c.aq.length:Int))=false:=dec_f (by omega)
  simp only [aF,this,cond_false])
 by_cases hx: ∀i,i<c.aq.length->lD l (c.aq[i]!).2
 · rw [aJ hx];exact key.2 fun i hi=>bm.2 (hx i hi)
 rw [dec_f hx]
 obtain ⟨i,h⟩:=bv.1 hx;obtain ⟨hi,hx⟩:=bz.1 h;exact key.1 ⟨i,hi,hx⟩
def aX (l:List Pt) (t:Int×Int) (H:List Ev):List wN->List wN->Prop
 | [],ds=>ds=[]
 |x::cs,ds=>((bM l x.2 t).2=true-> ∃d ds',ds=d::ds'/\d.1=x.1/\((bM l x.2 t).1.1,(bM l x.2 t).1.2,x.1,d.2)∈H/\aX l t H cs ds')/\((bM l x.2 t).2=false->aX l t H cs ds)
structure bG (c:aR):Prop where
 nowv:cQ c.ar
 now64:tB c.ar
 fld:cE c.au.aa
 crt:fK c.ax
 agd:fH c.ay
 w200:c.ay.am.length=200
 hd:c.ay.aj.length=c.az.length
 known: ∀i,i<c.ax.aq.length->lD c.au.aa (c.ax.aq[i]!).2
 fol:aX c.au.aa c.ar c.ay.aj c.ax.aq c.az
structure wC (c:aR):Prop where
 now64:tB c.ar
 ag:E6 c.ay
 du:c.az.length<=1000000
theorem aNW {a:aP} (ok:fH a) (w2:a.am.length=200) (t:Int×Int) (n:Int) (h:Int×Int):
 (0<=h.1/\h.1<200/\0<=a.am[h.1.toNat]!/\a.aj[(a.am[h.1.toNat]!).toNat]! =(t.1,t.2,n,h))↔((t.1,t.2,n,h):Ev)∈a.aj:=by
 have wl:=ok.wl;have hu:=ok.so.ul;constructor
 · rintro ⟨h1,h2,h3,h4⟩
   cases hb:a.ai.ae[h.1.toNat]! with
   |false=>
    have:=ok.un h.1.toNat (by omega) hb
    omega
   |true=>
    have:=ok.fwd h.1.toNat (by omega) hb
    rw [<- h4];exact bI (by omega)
 intro hm
 obtain ⟨w,hw,he⟩:=aY.1 hm;obtain ⟨b1,b2,b3,b4,b5⟩:=ok.back hw;have e:Ev.ix a.aj[w]! =h.1:=by rw [he]
 have e2:Ev.n a.aj[w]! =h.1.toNat:=by rw [he]
 rw [e] at b1 b2;rw [e2] at b5;refine ⟨b1,by omega,by omega,?_⟩
 rw [b5,bq,he]
theorem aFT {a:aP} (ok:fH a) {i:Nat} (hi:i<a.ai.ac.length) (h:0<=a.am[i]!):a.am[i]!<a.aj.length:=by
 cases hb:a.ai.ae[i]! with
 |false=>have:=ok.un i hi hb;omega
 |true=>exact (ok.fwd i hi hb).2.1
theorem xM {α:Type} [Inhabited α] {l:List α} {i:Nat} (h:i<l.length):l.drop i=l[i]!::l.drop (i+1):=by
 rw [getElem!_pos l i h];exact List.drop_eq_getElem_cons h
theorem YN {c:aR} (nowv:cQ c.ar) (now64:tB c.ar) (fld:cE c.au.aa) (crt:fK c.ax) (agd:fH c.ay) (w2:c.ay.am.length=200):
 ∀(d i:Nat) (ds:List wN),c.ax.aq.length-i<=d->i<=c.ax.aq.length->ds.length<=1000000->
  aG dA (ds,c.ax.aq,(c.ax.aq.length:Int),(i:Int),c.ar.1,c.ar.2,c.au.aa,c.ax.ao,c.ax.aq,c.ay.ai.ac,c.ay.ai.ae,c.ay.ai.af,c.ay.aj,c.ay.am,c.az)=
   some (.done (if (∀j,i<=j->j<c.ax.aq.length->lD c.au.aa (c.ax.aq[j]!).2)/\aX c.au.aa c.ar c.ay.aj (c.ax.aq.drop i) ds then 0 else 8)):=by
 have hl:=crt.len;have wl:=agd.wl;have fin: ∀(ds:List wN),aG dA (ds,c.ax.aq,(c.ax.aq.length:Int),(c.ax.aq.length:Int),c.ar.1,c.ar.2,c.au.aa,c.ax.ao,c.ax.aq,c.ay.ai.ac,c.ay.ai.ae,c.ay.ai.af,c.ay.aj,c.ay.am,c.az)=some (.done (if ds=[] then 0 else 8)):=by
  intro ds;refine aL ?_;unfold dA;have e1:decide ((c.ax.aq.length:Int)<(c.ax.aq.length:Int))=false:=dec_f (by omega)
  simp only [aF,e1,cond_false];cases ds with
  |nil=>rw [dec_f (by simp),if_pos rfl];rfl
  |cons d ds=>rw [aJ (by simp),if_neg (by simp)];rfl
 intro d
 induction d with
 |zero=>
  intro i ds hd hi hds
  have:i=c.ax.aq.length:=by omega
  subst this;rw [fin ds,cm]
  have:((∀j,c.ax.aq.length<=j->j<c.ax.aq.length->lD c.au.aa (c.ax.aq[j]!).2)/\aX c.au.aa c.ar c.ay.aj [] ds)↔ds=[]:=⟨fun h=>h.2,fun h=>⟨fun j h1 h2=>by omega,h⟩⟩
  by_cases h:ds=[]
  · rw [if_pos h,if_pos (this.2 h)]
  rw [if_neg h,if_neg (fun k=>h (this.1 k))]
 |succ d ih=>
  intro i ds hd hi hds
  by_cases he:i=c.ax.aq.length
  · subst he
    rw [fin ds,cm]
    have:((∀j,c.ax.aq.length<=j->j<c.ax.aq.length->lD c.au.aa (c.ax.aq[j]!).2)/\aX c.au.aa c.ar c.ay.aj [] ds)↔ds=[]:=⟨fun h=>h.2,fun h=>⟨fun j h1 h2=>by omega,h⟩⟩
    by_cases h:ds=[]
    · rw [if_pos h,if_pos (this.2 h)]
    rw [if_neg h,if_neg (fun k=>h (this.1 k))]
  have hi':i<c.ax.aq.length:=by omega
  have e1:decide ((i:Int)<(c.ax.aq.length:Int))=true:=aJ (by omega)
  have hw:=A2 fld (x:=(c.ax.aq[i]!).2) (t:=(c.ar.1,c.ar.2)) (crt.cv i hi') nowv now64;have dr:=xM hi';have all:(∀j,i<=j->j<c.ax.aq.length->lD c.au.aa (c.ax.aq[j]!).2)↔(lD c.au.aa (c.ax.aq[i]!).2/\ ∀j,i+1<=j->j<c.ax.aq.length->lD c.au.aa (c.ax.aq[j]!).2):=by
   constructor
   · intro h;exact ⟨h i (bu _) hi',fun j h1 h2=>h j (by omega) h2⟩
   rintro ⟨h1,h2⟩ j h3 h4
   by_cases e:j=i
   · rw [e];exact h1
   exact h2 j (by omega) h4
  have sc:=aU (show i<1000000000 by omega)
  by_cases hb:lD c.au.aa (c.ax.aq[i]!).2
  case neg=>
   rw [if_neg (fun h=>hb (all.1 h.1).1)]
   refine aL ?_;unfold dA;simp only [e1,cond_true,aE c.ax.aq i hi',aB,hw,if_neg hb];rfl
  rw [if_pos hb] at hw
  by_cases is:(bM c.au.aa (c.ax.aq[i]!).2 c.ar).2=true
  case neg=>
   have is':(bM c.au.aa (c.ax.aq[i]!).2 c.ar).2=false:=by simpa using is
   rw [bA (y:=(ds,c.ax.aq,(c.ax.aq.length:Int),((i+1:Nat):Int),c.ar.1,c.ar.2,c.au.aa,c.ax.ao,c.ax.aq,c.ay.ai.ac,c.ay.ai.ae,c.ay.ai.af,c.ay.aj,c.ay.am,c.az)) (by
    unfold dA;simp only [e1,cond_true,aE c.ax.aq i hi',aB,hw,sc,is',show ((0:Int) !=0)=false from rfl,cond_false,ci]),ih (i+1) ds (by omega) (by omega) hds]
   have same:((∀j,i<=j->j<c.ax.aq.length->lD c.au.aa (c.ax.aq[j]!).2)/\aX c.au.aa c.ar c.ay.aj (c.ax.aq.drop i) ds)↔((∀j,i+1<=j->j<c.ax.aq.length->lD c.au.aa (c.ax.aq[j]!).2)/\aX c.au.aa c.ar c.ay.aj (c.ax.aq.drop (i+1)) ds):=by
    rw [dr,all];constructor
    · rintro ⟨⟨_,h1⟩,h2⟩;exact ⟨h1,h2.2 is'⟩
    rintro ⟨h1,h2⟩;exact ⟨⟨hb,h1⟩,fun h=>absurd h is,fun _=>h2⟩
   simp only [same]
  have stop:(¬((∀j,i<=j->j<c.ax.aq.length->lD c.au.aa (c.ax.aq[j]!).2)/\aX c.au.aa c.ar c.ay.aj (c.ax.aq.drop i) ds))->dA (ds,c.ax.aq,(c.ax.aq.length:Int),(i:Int),c.ar.1,c.ar.2,c.au.aa,c.ax.ao,c.ax.aq,c.ay.ai.ac,c.ay.ai.ae,c.ay.ai.af,c.ay.aj,c.ay.am,c.az)=some (.done (.done 8))->aG dA (ds,c.ax.aq,(c.ax.aq.length:Int),(i:Int),c.ar.1,c.ar.2,c.au.aa,c.ax.ao,c.ax.aq,c.ay.ai.ac,c.ay.ai.ae,c.ay.ai.af,c.ay.aj,c.ay.am,c.az)=
   some (.done (if (∀j,i<=j->j<c.ax.aq.length->lD c.au.aa (c.ax.aq[j]!).2)/\aX c.au.aa c.ar c.ay.aj (c.ax.aq.drop i) ds then 0 else 8)):=by
   intro h1 h2;rw [if_neg h1];exact aL h2
  cases ds with
  |nil=>
   refine stop (fun h=>?_) ?_
   · rw [dr] at h
     obtain ⟨d,ds',h1,_⟩:=h.2.1 is;cases h1
   unfold dA
   simp only [e1,cond_true,aE c.ax.aq i hi',aB,hw,is,show ((0:Int) !=0)=false from rfl,cond_false,bo];rfl
  |cons d0 ds=>
   have l0:((((d0::ds).length:Nat):Int)==0)=false:=eB (by simp;omega)
   have g0:aN (d0::ds) 0=some d0:=rfl
   have fol: ∀P:Prop,(P↔d0.1=(c.ax.aq[i]!).1/\(((bM c.au.aa (c.ax.aq[i]!).2 c.ar).1.1,(bM c.au.aa (c.ax.aq[i]!).2 c.ar).1.2,(c.ax.aq[i]!).1,d0.2):Ev)∈c.ay.aj)-> ¬P-> ¬((∀j,i<=j->j<c.ax.aq.length->lD c.au.aa (c.ax.aq[j]!).2)/\aX c.au.aa c.ar c.ay.aj (c.ax.aq.drop i) (d0::ds)):=by
    intro P hP hn h;rw [dr] at h;obtain ⟨d,ds',h1,h2,h3,_⟩:=h.2.1 is;injection h1 with h1 _;subst h1;exact hn (hP.2 ⟨h2,h3⟩)
   by_cases b1:d0.1=(c.ax.aq[i]!).1
   case neg=>
    refine stop (fol (d0.1=(c.ax.aq[i]!).1/\_) cz (fun h=>b1 h.1)) ?_
    unfold dA;simp only [aF,e1,cond_true,aE c.ax.aq i hi',aB,hw,is,show ((0:Int) !=0)=false from rfl,cond_false,bo,l0,g0,cP b1]
   have ea:=aNW agd w2 (bM c.au.aa (c.ax.aq[i]!).2 c.ar).1 (c.ax.aq[i]!).1 d0.2
   by_cases b2:d0.2.1<0
   · refine stop (fol (d0.1=(c.ax.aq[i]!).1/\_) cz (fun h=>by have:=(ea.2 h.2).1;omega)) ?_
     unfold dA;simp only [aF,e1,cond_true,aE c.ax.aq i hi',aB,hw,is,show ((0:Int) !=0)=false from rfl,cond_false,bo,l0,g0,bT b1,aJ b2]
   by_cases b3:200<=d0.2.1
   · refine stop (fol (d0.1=(c.ax.aq[i]!).1/\_) cz (fun h=>by have:=(ea.2 h.2).2.1;omega)) ?_
     unfold dA;simp only [aF,e1,cond_true,aE c.ax.aq i hi',aB,hw,is,show ((0:Int) !=0)=false from rfl,cond_false,bo,l0,g0,bT b1,dec_f b2,aJ b3]
   have gw:=eA (l:=c.ay.am) (i:=d0.2.1) (by omega) (by omega)
   by_cases b4:c.ay.am[d0.2.1.toNat]!<0
   · refine stop (fol (d0.1=(c.ax.aq[i]!).1/\_) cz (fun h=>by have:=(ea.2 h.2).2.2.1;omega)) ?_
     unfold dA;simp only [aF,e1,cond_true,aE c.ax.aq i hi',aB,hw,is,show ((0:Int) !=0)=false from rfl,cond_false,bo,l0,g0,bT b1,dec_f b2,dec_f b3,gw,aJ b4]
   have gh:=eA (l:=c.ay.aj) (i:=c.ay.am[d0.2.1.toNat]!) (by omega) (aFT agd (by omega) (by omega))
   have sl:gW (d0::ds) 1 ((((d0::ds).length:Nat):Int))=some ds:=by
    unfold gW;rw [if_pos ⟨by omega,by simp;omega,by omega⟩]
    simp
   have evq: ∀(e:Ev) (p:Int×Int) (n:Int) (h:Int×Int),((e.1==p.1)&&((e.2.1==p.2)&&((e.2.2.1==n)&&((e.2.2.2.1==h.1)&&(e.2.2.2.2==h.2)))))=decide (e=(p.1,p.2,n,h)):=by
    intro e p n h;rw [db,decide_eq_true_iff];simp only [dw,beq_iff_eq];constructor
    · rintro ⟨h1,h2,h3,h4,h5⟩
      exact ce h1 (ce h2 (ce h3 (ce h4 h5)))
    intro h;rw [h];exact ⟨rfl,rfl,rfl,rfl,rfl⟩
   have evq':=evq c.ay.aj[(c.ay.am[d0.2.1.toNat]!).toNat]! (bM c.au.aa (c.ax.aq[i]!).2 c.ar).1 (c.ax.aq[i]!).1 d0.2
   by_cases b5:c.ay.aj[(c.ay.am[d0.2.1.toNat]!).toNat]! =((bM c.au.aa (c.ax.aq[i]!).2 c.ar).1.1,(bM c.au.aa (c.ax.aq[i]!).2 c.ar).1.2,(c.ax.aq[i]!).1,d0.2)
   case neg=>
    refine stop (fol (d0.1=(c.ax.aq[i]!).1/\_) cz (fun h=>b5 (ea.2 h.2).2.2.2)) ?_
    unfold dA;simp only [aF,e1,cond_true,aE c.ax.aq i hi',aB,hw,is,show ((0:Int) !=0)=false from rfl,cond_false,bo,l0,g0,bT b1,dec_f b2,dec_f b3,gw,dec_f b4,gh];rw [evq',dec_f b5];rfl
   have hmem:=ea.1 ⟨by omega,by omega,by omega,b5⟩
   rw [bA (y:=(ds,c.ax.aq,(c.ax.aq.length:Int),((i+1:Nat):Int),c.ar.1,c.ar.2,c.au.aa,c.ax.ao,c.ax.aq,c.ay.ai.ac,c.ay.ai.ae,c.ay.ai.af,c.ay.aj,c.ay.am,c.az)) (by
    unfold dA;simp only [aF,e1,cond_true,aE c.ax.aq i hi',aB,hw,is,show ((0:Int) !=0)=false from rfl,cond_false,bo,l0,g0,bT b1,dec_f b2,dec_f b3,gw,dec_f b4,gh,sl,sc];rw [evq',aJ b5]
    rfl),ih (i+1) ds (by omega) (by omega) (by simp at hds;omega)]
   have same:((∀j,i<=j->j<c.ax.aq.length->lD c.au.aa (c.ax.aq[j]!).2)/\aX c.au.aa c.ar c.ay.aj (c.ax.aq.drop i) (d0::ds))↔((∀j,i+1<=j->j<c.ax.aq.length->lD c.au.aa (c.ax.aq[j]!).2)/\aX c.au.aa c.ar c.ay.aj (c.ax.aq.drop (i+1)) ds):=by
    rw [dr,all];constructor
    · rintro ⟨⟨_,h1⟩,h2⟩
      obtain ⟨d,ds',k1,k2,k3,k4⟩:=h2.1 is;injection k1 with k1 k5;subst k5;exact ⟨h1,k4⟩
    rintro ⟨h1,h2⟩
    exact ⟨⟨hb,h1⟩,fun _=>⟨d0,ds,rfl,b1,hmem,h2⟩,fun h=>by rw [is] at h;cases h⟩
   simp only [same]
theorem bG.iff {c:aR} (fit:wC c):bG c↔cQ c.ar/\cE c.au.aa/\fK c.ax/\fH c.ay/\c.ay.am.length=200/\c.ay.aj.length=c.az.length/\(∀i,i<c.ax.aq.length->lD c.au.aa (c.ax.aq[i]!).2)/\aX c.au.aa c.ar c.ay.aj c.ax.aq c.az:=
 ⟨fun h=>⟨h.nowv,h.fld,h.crt,h.agd,h.w200,h.hd,h.known,h.fol⟩,fun ⟨h1,h2,h3,h4,h5,h6,h7,h8⟩=>⟨h1,fit.now64,h2,h3,h4,h5,h6,h7,h8⟩⟩
theorem bG.fit {c:aR} (ok:bG c):wC c:=⟨ok.now64,ok.agd.fit,by have:=ok.hd;have:=ok.agd.bd;omega⟩
theorem YO {c:aR} {n0 n1 n2 n3:Int}:
 aG fN (4,0,c.ar.1,c.ar.2,c.au.aa,c.ax.ao,c.ax.aq,c.ay.ai.ac,c.ay.ai.ae,c.ay.ai.af,c.ay.aj,c.ay.am,c.az,[n0,n1,n2,n3])=
  if n0=0/\n1=0/\n2=0/\n3=0 then aG fN (4,4,c.ar.1,c.ar.2,c.au.aa,c.ax.ao,c.ax.aq,c.ay.ai.ac,c.ay.ai.ae,c.ay.ai.af,c.ay.aj,c.ay.am,c.az,[n0,n1,n2,n3]) else some 8:=by
 have st: ∀(i:Nat) (n:Int),i<4->aN [n0,n1,n2,n3] (i:Int)=some n->aG fN (4,(i:Int),c.ar.1,c.ar.2,c.au.aa,c.ax.ao,c.ax.aq,c.ay.ai.ac,c.ay.ai.ae,c.ay.ai.af,c.ay.aj,c.ay.am,c.az,[n0,n1,n2,n3])=
  if n=0 then aG fN (4,((i+1:Nat):Int),c.ar.1,c.ar.2,c.au.aa,c.ax.ao,c.ax.aq,c.ay.ai.ac,c.ay.ai.ae,c.ay.ai.af,c.ay.aj,c.ay.am,c.az,[n0,n1,n2,n3]) else some 8:=by
  intro i n hi hg;have e1:decide ((i:Int)<4)=true:=aJ (by omega)
  by_cases h:n=0
  · rw [if_pos h]
    refine bA ?_;unfold fN;simp only [e1,cond_true,hg,aB,bT h,cond_false,aU (show i<1000000000 by omega)]
  rw [if_neg h]
  refine aL ?_;unfold fN;simp only [e1,cond_true,hg,aB,cP h]
 have s0:=st 0 n0 (by omega) rfl
 have s1:=st 1 n1 (by omega) rfl
 have s2:=st 2 n2 (by omega) rfl
 have s3:=st 3 n3 (by omega) rfl
 have c0:((0:Nat):Int)=0:=rfl;have c4:((3+1:Nat):Int)=4:=rfl;rw [c0] at s0;rw [c4] at s3;rw [s0]
 by_cases h0:n0=0
 · rw [if_pos h0,show ((0+1:Nat):Int)=((1:Nat):Int) from rfl,s1]
   by_cases h1:n1=0
   · rw [if_pos h1,show ((1+1:Nat):Int)=((2:Nat):Int) from rfl,s2]
     by_cases h2:n2=0
     · rw [if_pos h2,show ((2+1:Nat):Int)=((3:Nat):Int) from rfl,s3]
       by_cases h3:n3=0
       · rw [if_pos h3,if_pos ⟨h0,h1,h2,h3⟩]
       rw [if_neg h3,if_neg (fun h=>h3 h.2.2.2)]
     rw [if_neg h2,if_neg (fun h=>h2 h.2.2.1)]
   rw [if_neg h1,if_neg (fun h=>h1 h.2.1)]
 rw [if_neg h0,if_neg (fun h=>h0 h.1)]
theorem oR {c:aR} (fit:wC c):iG c=some (if bG c then 0 else 8):=by
 unfold iG;rw [gO fit.now64,kD,A0,nH _ fit.ag];simp only [aB];have h4:Int.ofNat [if cQ c.ar then (0:Int) else 8,yR c.au.aa,if fK c.ax then (0:Int) else 8,if fH c.ay then (0:Int) else 8].length=4:=rfl
 rw [h4,YO];have z: ∀(p:Prop) [Decidable p],(if p then (0:Int) else 8)=0↔p:=fun p _=>by by_cases h:p<;>simp [h]
 simp only [z,iH];have f1:=bG.iff fit
 by_cases ok:cQ c.ar/\cE c.au.aa/\fK c.ax/\fH c.ay
 case neg=>rw [if_neg ok,if_neg (c:=bG c) (fun h=>ok ⟨h.nowv,h.fld,h.crt,h.agd⟩)]
 obtain ⟨nowv,fld,crt,agd⟩:=ok;rw [if_pos ⟨nowv,fld,crt,agd⟩]
 by_cases w2:c.ay.am.length=200
 case neg=>
  rw [if_neg (c:=bG c) (fun h=>w2 h.w200)]
  refine aL ?_;unfold fN;simp only [aF,dec_f (show¬(4:Int)<4 by omega),cond_false,cP (show¬(c.ay.am.length:Int)=200 by omega),cond_true]
 by_cases hd:c.ay.aj.length=c.az.length
 case neg=>
  rw [if_neg (c:=bG c) (fun h=>hd h.hd)]
  refine aL ?_;unfold fN;simp only [aF,dec_f (show¬(4:Int)<4 by omega),cond_false,bT (show (c.ay.am.length:Int)=200 by omega),cP (show¬(c.ay.aj.length:Int)=(c.az.length:Int) by omega),cond_true]
 have run:=YN nowv fit.now64 fld crt agd w2 c.ax.aq.length 0 c.az (by omega) (by omega) fit.du
 rw [dd] at run;have same:((∀j,0<=j->j<c.ax.aq.length->lD c.au.aa (c.ax.aq[j]!).2)/\aX c.au.aa c.ar c.ay.aj c.ax.aq c.az)↔bG c:=by
  rw [f1];constructor
  · rintro ⟨h1,h2⟩;exact ⟨nowv,fld,crt,agd,w2,hd,fun i hi=>h1 i (by omega) hi,h2⟩
  rintro ⟨_,_,_,_,_,_,h1,h2⟩;exact ⟨fun j _ hj=>h1 j hj,h2⟩
 simp only [same] at run;refine aL ?_;unfold fN;simp only [aF,dec_f (show¬(4:Int)<4 by omega),cond_false,bT (show (c.ay.am.length:Int)=200 by omega),bT (show (c.ay.aj.length:Int)=(c.az.length:Int) by omega)]
 exact run
theorem aM4 {a:aP} (ok:fH a) (h:Int×Int):yJ a h=some (if AD a.ai h then (a.aj[(a.am[h.1.toNat]!).toNat]!,0) else ((0,0,0,0,0),6)):=by
 unfold yJ;rw [E7 a ok.fit,if_pos ok,aCj ok.so];simp only [aB,show ((0:Int) !=0)=false from rfl,cond_false]
 by_cases lv:AD a.ai h
 · obtain ⟨i,hi,hw,hh⟩:=ok.live lv
   have:=lv.1;have:=lv.2.1;have:=ok.wl
   rw [aJ lv,if_pos lv,eA (l:=a.am) lv.1 (by omega),hw]
   simp only [bo,cond_false,aB,aE a.aj i hi,bq]
 rw [dec_f lv,if_neg lv];rfl
theorem YP {c:aR} (now64:tB c.ar) (fld:cE c.au.aa) (crt:fK c.ax) (agd:fH c.ay) (w2:c.ay.am.length=200) (hdu:c.az.length<=1000000)
 (kn: ∀i,i<c.ax.aq.length->lD c.au.aa (c.ax.aq[i]!).2):
 ∀(d i k:Nat),c.ax.aq.length-i<=d->i<=c.ax.aq.length->k<=c.az.length->
  aG dU ((k:Int),(i:Int),c.ar.1,c.ar.2,c.au.aa,c.ax.ao,c.ax.aq,c.ay.ai.ac,c.ay.ai.ae,c.ay.ai.af,c.ay.aj,c.ay.am,c.az)=
   some (if aX c.au.aa c.ar c.ay.aj (c.ax.aq.drop i) (c.az.drop k) then 0 else 8):=by
 have hl:=crt.len;have wl:=agd.wl
 have fin: ∀k:Nat,k<=c.az.length->aG dU ((k:Int),(c.ax.aq.length:Int),c.ar.1,c.ar.2,c.au.aa,c.ax.ao,c.ax.aq,c.ay.ai.ac,c.ay.ai.ae,c.ay.ai.af,c.ay.aj,c.ay.am,c.az)=some (if aX c.au.aa c.ar c.ay.aj (c.ax.aq.drop c.ax.aq.length) (c.az.drop k) then 0 else 8):=by
  intro k hk;rw [cm];refine aL ?_;unfold dU;have e1:decide ((c.ax.aq.length:Int)<(c.ax.aq.length:Int))=false:=dec_f (by omega)
  simp only [aF,e1,cond_false]
  have:aX c.au.aa c.ar c.ay.aj [] (c.az.drop k)↔k=c.az.length:=by
   show c.az.drop k=[]↔_;rw [cp];omega
  by_cases h:k=c.az.length
  · rw [if_pos (this.2 h),bT (by omega)];rfl
  rw [if_neg (fun x=>h (this.1 x)),cP (by omega)];rfl
 intro d
 induction d with
 |zero=>
  intro i k hd hi hk
  have:i=c.ax.aq.length:=by omega
  subst this;exact fin k hk
 |succ d ih=>
  intro i k hd hi hk
  by_cases he:i=c.ax.aq.length
  · subst he;exact fin k hk
  have hi':i<c.ax.aq.length:=by omega
  have e1:decide ((i:Int)<(c.ax.aq.length:Int))=true:=aJ (by omega)
  have hw:=A3 fld (x:=(c.ax.aq[i]!).2) (t:=(c.ar.1,c.ar.2)) now64 (kn i hi');have dr:=xM hi';have sc:=aU (show i<1000000000 by omega)
  have sk:=aU (show k<1000000000 by omega)
  by_cases is:(bM c.au.aa (c.ax.aq[i]!).2 c.ar).2=true
  case neg=>
   have is':(bM c.au.aa (c.ax.aq[i]!).2 c.ar).2=false:=by simpa using is
   rw [bA (y:=((k:Int),((i+1:Nat):Int),c.ar.1,c.ar.2,c.au.aa,c.ax.ao,c.ax.aq,c.ay.ai.ac,c.ay.ai.ae,c.ay.ai.af,c.ay.aj,c.ay.am,c.az)) (by
    unfold dU;simp only [aF,e1,cond_true,aE c.ax.aq i hi',aB,hw,sc,is',ci]),ih (i+1) k (by omega) (by omega) hk]
   have same:aX c.au.aa c.ar c.ay.aj (c.ax.aq.drop i) (c.az.drop k)↔aX c.au.aa c.ar c.ay.aj (c.ax.aq.drop (i+1)) (c.az.drop k):=by
    rw [dr];exact ⟨fun h=>h.2 is',fun h=>⟨fun h'=>absurd h' is,fun _=>h⟩⟩
   simp only [same]
  have stop:(¬aX c.au.aa c.ar c.ay.aj (c.ax.aq.drop i) (c.az.drop k))->dU ((k:Int),(i:Int),c.ar.1,c.ar.2,c.au.aa,c.ax.ao,c.ax.aq,c.ay.ai.ac,c.ay.ai.ae,c.ay.ai.af,c.ay.aj,c.ay.am,c.az)=some (.done 8)->
   aG dU ((k:Int),(i:Int),c.ar.1,c.ar.2,c.au.aa,c.ax.ao,c.ax.aq,c.ay.ai.ac,c.ay.ai.ae,c.ay.ai.af,c.ay.aj,c.ay.am,c.az)=some (if aX c.au.aa c.ar c.ay.aj (c.ax.aq.drop i) (c.az.drop k) then 0 else 8):=by
   intro h1 h2;rw [if_neg h1];exact aL h2
  by_cases hkl:k=c.az.length
  · refine stop (fun h=>?_) ?_
    · rw [dr] at h
      obtain ⟨d,ds',h1,_⟩:=h.1 is;rw [hkl,cm] at h1;cases h1
    unfold dU
    simp only [aF,e1,cond_true,aE c.ax.aq i hi',aB,hw,is,bo,cond_false,aJ (show (c.az.length:Int)<=(k:Int) by omega)]
  have hk':k<c.az.length:=by omega
  have dk:=xM hk';have e2:decide ((c.az.length:Int)<=(k:Int))=false:=dec_f (by omega)
  have fol: ¬((c.az[k]!).1=(c.ax.aq[i]!).1/\(((bM c.au.aa (c.ax.aq[i]!).2 c.ar).1.1,(bM c.au.aa (c.ax.aq[i]!).2 c.ar).1.2,(c.ax.aq[i]!).1,(c.az[k]!).2):Ev)∈c.ay.aj)-> ¬aX c.au.aa c.ar c.ay.aj (c.ax.aq.drop i) (c.az.drop k):=by
   intro hn h;rw [dr,dk] at h;obtain ⟨d,ds',h1,h2,h3,_⟩:=h.1 is;injection h1 with h1 _;subst h1;exact hn ⟨h2,h3⟩
  by_cases b1:(c.az[k]!).1=(c.ax.aq[i]!).1
  case neg=>
   refine stop (fol (fun h=>b1 h.1)) ?_
   unfold dU;simp only [aF,e1,cond_true,aE c.ax.aq i hi',aB,hw,is,bo,cond_false,e2,aE c.az k hk',cP b1]
  have fi:=aM4 agd (c.az[k]!).2;have ea:=aNW agd w2 (bM c.au.aa (c.ax.aq[i]!).2 c.ar).1 (c.ax.aq[i]!).1 (c.az[k]!).2;have fi':yJ (aP.mk (bD.mk c.ay.ai.ac c.ay.ai.ae c.ay.ai.af) c.ay.aj c.ay.am) (c.az[k]!).2=_:=fi
  by_cases lv:AD c.ay.ai (c.az[k]!).2
  case neg=>
   rw [if_neg lv] at fi';refine stop (fol (fun h=>lv ?_)) ?_
   · obtain ⟨w,hw',hev⟩:=aY.1 h.2
     have:=(agd.handle hw').1
     rwa [hev] at this
   unfold dU
   simp only [aF,e1,cond_true,aE c.ax.aq i hi',aB,hw,is,bo,cond_false,e2,aE c.az k hk',bT b1,fi',show ((6:Int) !=0)=true from rfl]
  rw [if_pos lv] at fi';obtain ⟨w,hw1,hw2,hw3⟩:=agd.live lv;rw [hw2,bq] at fi';have q1:(0<=(c.az[k]!).2.1/\(c.az[k]!).2.1<200/\0<=c.ay.am[(c.az[k]!).2.1.toNat]!):=⟨lv.1,by have:=lv.2.1;omega,by rw [hw2];omega⟩
  by_cases b2:(c.ay.aj[w]!).2.2.1=(c.ax.aq[i]!).1
  case neg=>
   refine stop (fol (fun h=>b2 ?_)) ?_
   · have:=(ea.2 h.2).2.2.2
     rw [hw2,bq] at this;rw [this]
   unfold dU
   simp only [aF,e1,cond_true,aE c.ax.aq i hi',aB,hw,is,bo,cond_false,e2,aE c.az k hk',bT b1,fi',show ((0:Int) !=0)=false from rfl,cP b2]
  have teq:((c.ay.aj[w]!).1==(bM c.au.aa (c.ax.aq[i]!).2 c.ar).1.1&&(c.ay.aj[w]!).2.1==(bM c.au.aa (c.ax.aq[i]!).2 c.ar).1.2)=decide (((c.ay.aj[w]!).1,(c.ay.aj[w]!).2.1)=(bM c.au.aa (c.ax.aq[i]!).2 c.ar).1):=by
   rw [db,decide_eq_true_iff];simp only [dw,beq_iff_eq];constructor
   · rintro ⟨h1,h2⟩;exact ce h1 h2
   intro h;rw [<- h];exact ⟨rfl,rfl⟩
  by_cases b3:((c.ay.aj[w]!).1,(c.ay.aj[w]!).2.1)=(bM c.au.aa (c.ax.aq[i]!).2 c.ar).1
  case neg=>
   refine stop (fol (fun h=>b3 ?_)) ?_
   · have:=(ea.2 h.2).2.2.2
     rw [hw2,bq] at this;rw [this]
   unfold dU
   simp only [aF,e1,cond_true,aE c.ax.aq i hi',aB,hw,is,bo,cond_false,e2,aE c.az k hk',bT b1,fi',show ((0:Int) !=0)=false from rfl,bT b2];rw [teq,dec_f b3];rfl
  have hmem:=ea.1 ⟨q1.1,q1.2.1,q1.2.2,by
   rw [hw2,bq];have t1:=congrArg d8 b3;have t2:=congrArg d9 b3;exact ce t1 (ce t2 (ce b2 hw3))⟩
  rw [bA (y:=(((k+1:Nat):Int),((i+1:Nat):Int),c.ar.1,c.ar.2,c.au.aa,c.ax.ao,c.ax.aq,c.ay.ai.ac,c.ay.ai.ae,c.ay.ai.af,c.ay.aj,c.ay.am,c.az)) (by
   unfold dU;simp only [aF,e1,cond_true,aE c.ax.aq i hi',aB,hw,is,bo,cond_false,e2,aE c.az k hk',bT b1,fi',show ((0:Int) !=0)=false from rfl,bT b2,sc,sk];rw [teq,aJ b3]
   rfl),ih (i+1) (k+1) (by omega) (by omega) (by omega)]
  have same:aX c.au.aa c.ar c.ay.aj (c.ax.aq.drop i) (c.az.drop k)↔aX c.au.aa c.ar c.ay.aj (c.ax.aq.drop (i+1)) (c.az.drop (k+1)):=by
   rw [dr,dk];constructor
   · intro h2
     obtain ⟨d,ds',k1,k2,k3,k4⟩:=h2.1 is;injection k1 with k1 k5;subst k5;exact k4
   intro h2
   exact ⟨fun _=>⟨_,_,rfl,b1,hmem,h2⟩,fun h=>by rw [is] at h;cases h⟩
  simp only [same]
theorem PY {c:aR} (fit:wC c):zU c=some (if bG c then 0 else 8):=by
 unfold zU;rw [E3 fit.now64,yS,FB,E7 _ fit.ag];simp only [aB]
 by_cases nowv:cQ c.ar
 case neg=>rw [if_neg nowv,if_neg (c:=bG c) (fun h=>nowv h.nowv)];rfl
 rw [if_pos nowv]
 by_cases fld:cE c.au.aa
 case neg=>rw [cP (fun h=>fld (iH.1 h)),if_neg (c:=bG c) (fun h=>fld h.fld)];rfl
 rw [bT (iH.2 fld)]
 by_cases crt:fK c.ax
 case neg=>rw [if_neg crt,if_neg (c:=bG c) (fun h=>crt h.crt)];rfl
 rw [if_pos crt];have kn:=aFS c.ax fld crt.len;simp only [show ((0:Int) !=0)=false from rfl,cond_false,kn,aB]
 by_cases known: ∀i,i<c.ax.aq.length->lD c.au.aa (c.ax.aq[i]!).2
 case neg=>rw [dec_f known,if_neg (c:=bG c) (fun h=>known h.known)];rfl
 rw [aJ known]
 by_cases agd:fH c.ay
 case neg=>rw [if_neg agd,if_neg (c:=bG c) (fun h=>agd h.agd)];rfl
 rw [if_pos agd];simp only [aF,show ((0:Int) !=0)=false from rfl,cond_false,bo]
 by_cases w2:c.ay.am.length=200
 case neg=>rw [cP (by omega),if_neg (c:=bG c) (fun h=>w2 h.w200)];rfl
 rw [bT (by omega)]
 by_cases hd:c.ay.aj.length=c.az.length
 case neg=>rw [cP (by omega),if_neg (c:=bG c) (fun h=>hd h.hd)];rfl
 rw [bT (by omega)]
 have run:=YP fit.now64 fld crt agd w2 fit.du known c.ax.aq.length 0 0 (by omega) (by omega) (by omega)
 rw [dd,dd] at run;have same:aX c.au.aa c.ar c.ay.aj c.ax.aq c.az↔bG c:=by
  rw [bG.iff fit];exact ⟨fun h=>⟨nowv,fld,crt,agd,w2,hd,known,h⟩,fun h=>h.2.2.2.2.2.2.2⟩
 simp only [same] at run;simp only [cond_false];exact run
section
variable {l : List Pt} {t : Int × Int}
theorem aX.cons_true {H:List Ev} {x:wN} {cs ds:List wN} (h:(bM l x.2 t).2=true):aX l t H (x::cs) ds↔ ∃d ds',ds=d::ds'/\d.1=x.1/\(((bM l x.2 t).1.1,(bM l x.2 t).1.2,x.1,d.2):Ev)∈H/\aX l t H cs ds':=
 ⟨fun k=>k.1 h,fun k=>⟨fun _=>k,fun k'=>(by rw [h] at k';cases k')⟩⟩
theorem aX.cons_false {H:List Ev} {x:wN} {cs ds:List wN} (h:(bM l x.2 t).2=false):aX l t H (x::cs) ds↔aX l t H cs ds:=
 ⟨fun k=>k.2 h,fun k=>⟨fun k'=>(by rw [h] at k';cases k'),fun _=>k⟩⟩
theorem aX.mono {H H':List Ev}: ∀{cs ds:List wN},(∀x∈cs,∀e:Ev,e.num=x.1->e∈H->e∈H')->aX l t H cs ds->aX l t H' cs ds
 | [],_,_,h=>h
 |x::cs,ds,hm,h=>by
  have hm': ∀y∈cs,∀e:Ev,e.num=y.1->e∈H->e∈H':=fun y hy=>hm y (by simp [hy])
  cases hx:(bM l x.2 t).2 with
  |true=>
   rw [aX.cons_true hx] at h ⊢;obtain ⟨d,ds',h1,h2,h3,h4⟩:=h;exact ⟨d,ds',h1,h2,hm x (by simp) _ rfl h3,aX.mono hm' h4⟩
  |false=>
   rw [aX.cons_false hx] at h ⊢;exact aX.mono hm' h
theorem aX.az {H:List Ev}: ∀{cs ds:List wN},aX l t H cs ds-> ∀d∈ds,∃x∈cs,d.1=x.1/\(bM l x.2 t).2=true/\(((bM l x.2 t).1.1,(bM l x.2 t).1.2,x.1,d.2):Ev)∈H
 | [],ds,h,d,hd=>by
  have:ds=[]:=h
  subst this;cases hd
 |x::cs,ds,h,d,hd=>by
  cases hx:(bM l x.2 t).2 with
  |true=>
   rw [aX.cons_true hx] at h;obtain ⟨e,ds',h1,h2,h3,h4⟩:=h;subst h1;rcases dh.1 hd with rfl|hd
   · exact ⟨x,by simp,h2,hx,h3⟩
   obtain ⟨y,hy,k⟩:=aX.az h4 d hd
   exact ⟨y,by simp [hy],k⟩
  |false=>
   rw [aX.cons_false hx] at h;obtain ⟨y,hy,k⟩:=aX.az h d hd;exact ⟨y,by simp [hy],k⟩
theorem aX.has {H:List Ev}: ∀{cs ds:List wN},aX l t H cs ds-> ∀x∈cs,(bM l x.2 t).2=true-> ∃d∈ds,d.1=x.1/\(((bM l x.2 t).1.1,(bM l x.2 t).1.2,x.1,d.2):Ev)∈H
 | [],_,_,x,hx,_=>by cases hx
 |y::cs,ds,h,x,hx,hf=>by
  cases hy:(bM l y.2 t).2 with
  |true=>
   rw [aX.cons_true hy] at h;obtain ⟨e,ds',h1,h2,h3,h4⟩:=h;subst h1;rcases dh.1 hx with rfl|hx
   · exact ⟨e,by simp,h2,h3⟩
   obtain ⟨d,hd,k⟩:=aX.has h4 x hx hf
   exact ⟨d,by simp [hd],k⟩
  |false=>
   rw [aX.cons_false hy] at h;rcases dh.1 hx with rfl|hx
   · rw [hf] at hy;cases hy
   exact aX.has h x hx hf
def Up (cs:List wN):Prop:=cs.Pairwise fun x y=>x.1<y.1
theorem xF {cs:List wN}:Up cs↔ ∀i j,i<j->j<cs.length->(cs[i]!).1<(cs[j]!).1:=by
 unfold Up;rw [List.pairwise_iff_getElem];constructor
 · intro h i j hij hj
   rw [getElem!_pos cs i (by omega),getElem!_pos cs j hj]
   exact h i j (by omega) hj hij
 intro h i j hi hj hij
 have:=h i j hij hj
 rwa [getElem!_pos cs i hi,getElem!_pos cs j hj] at this
theorem aX.up {H:List Ev}: ∀{cs ds:List wN},aX l t H cs ds->Up cs->Up ds
 | [],ds,h,_=>by
  have:ds=[]:=h
  subst this;exact List.Pairwise.nil
 |x::cs,ds,h,hu=>by
  have hu':=dm.1 hu;cases hx:(bM l x.2 t).2 with
  |true=>
   rw [aX.cons_true hx] at h;obtain ⟨e,ds',h1,h2,h3,h4⟩:=h;subst h1;refine dm.2 ⟨fun d hd=>?_,aX.up h4 hu'.2⟩
   obtain ⟨y,hy,k,_⟩:=aX.az h4 d hd
   have:=hu'.1 y hy
   omega
  |false=>
   rw [aX.cons_false hx] at h;exact aX.up h hu'.2
theorem aX.snoc {H:List Ev}: ∀{cs ds:List wN} {x:wN},aX l t H cs ds->((bM l x.2 t).2=false->aX l t H (cs++[x]) ds)/\
 (∀d:wN,(bM l x.2 t).2=true->d.1=x.1->(((bM l x.2 t).1.1,(bM l x.2 t).1.2,x.1,d.2):Ev)∈H->aX l t H (cs++[x]) (ds++[d]))
 | [],ds,x,h=>by
  have:ds=[]:=h
  subst this;refine ⟨fun hx=>(aX.cons_false hx).2 rfl,fun d hx h1 h2=>(aX.cons_true hx).2 ⟨d,[],rfl,h1,h2,rfl⟩⟩
 |y::cs,ds,x,h=>by
  cases hy:(bM l y.2 t).2 with
  |true=>
   rw [aX.cons_true hy] at h;obtain ⟨e,ds',h1,h2,h3,h4⟩:=h;subst h1;have ih:=aX.snoc (x:=x) h4;refine ⟨fun hx=>(aX.cons_true hy).2 ⟨e,ds',rfl,h2,h3,ih.1 hx⟩,fun d hx k1 k2=>(aX.cons_true hy).2 ⟨e,ds'++[d],rfl,h2,h3,ih.2 d hx k1 k2⟩⟩
  |false=>
   rw [aX.cons_false hy] at h;have ih:=aX.snoc (x:=x) h;exact ⟨fun hx=>(aX.cons_false hy).2 (ih.1 hx),fun d hx k1 k2=>(aX.cons_false hy).2 (ih.2 d hx k1 k2)⟩
theorem aX.erase {H:List Ev}: ∀{cs ds:List wN} {i:Nat},aX l t H cs ds->i<cs.length->((bM l (cs[i]!).2 t).2=false->aX l t H (cs.eraseIdx i) ds)/\
 ((bM l (cs[i]!).2 t).2=true-> ∃k,k<ds.length/\(ds[k]!).1=(cs[i]!).1/\(((bM l (cs[i]!).2 t).1.1,(bM l (cs[i]!).2 t).1.2,(cs[i]!).1,(ds[k]!).2):Ev)∈H/\aX l t H (cs.eraseIdx i) (ds.eraseIdx k))
 | [],_,i,_,hi=>by cases hi
 |y::cs,ds,0,h,_=>by
  show ((bM l y.2 t).2=false->aX l t H cs ds)/\((bM l y.2 t).2=true-> ∃k,k<ds.length/\(ds[k]!).1=y.1/\(((bM l y.2 t).1.1,(bM l y.2 t).1.2,y.1,(ds[k]!).2):Ev)∈H/\aX l t H cs (ds.eraseIdx k));refine ⟨fun hy=>(aX.cons_false hy).1 h,fun hy=>?_⟩
  obtain ⟨e,ds',h1,h2,h3,h4⟩:=(aX.cons_true hy).1 h;subst h1;exact ⟨0,by simp,h2,h3,h4⟩
 |y::cs,ds,i+1,h,hi=>by
  have hi':i<cs.length:=by simpa using hi
  show ((bM l (cs[i]!).2 t).2=false->aX l t H (y::cs.eraseIdx i) ds)/\((bM l (cs[i]!).2 t).2=true-> ∃k,k<ds.length/\(ds[k]!).1=(cs[i]!).1/\(((bM l (cs[i]!).2 t).1.1,(bM l (cs[i]!).2 t).1.2,(cs[i]!).1,(ds[k]!).2):Ev)∈H/\aX l t H (y::cs.eraseIdx i) (ds.eraseIdx k));cases hy:(bM l y.2 t).2 with
  |true=>
   obtain ⟨e,ds',h1,h2,h3,h4⟩:=(aX.cons_true hy).1 h;subst h1;have ih:=aX.erase (i:=i) h4 hi';refine ⟨fun hx=>(aX.cons_true hy).2 ⟨e,ds',rfl,h2,h3,ih.1 hx⟩,fun hx=>?_⟩
   obtain ⟨k,k1,k2,k3,k4⟩:=ih.2 hx;exact ⟨k+1,by simp;omega,k2,k3,(aX.cons_true hy).2 ⟨e,ds'.eraseIdx k,rfl,h2,h3,k4⟩⟩
  |false=>
   have h:=(aX.cons_false hy).1 h;have ih:=aX.erase (i:=i) h hi';refine ⟨fun hx=>(aX.cons_false hy).2 (ih.1 hx),fun hx=>?_⟩
   obtain ⟨k,k1,k2,k3,k4⟩:=ih.2 hx;exact ⟨k,k1,k2,k3,(aX.cons_false hy).2 k4⟩
end
theorem L7 {H:List Ev} {ns:List Int} (hd:ns.Nodup) (hl:H.length<=ns.length) (he: ∀n∈ns,∃e∈H,Ev.num e=n): ∀e∈H,Ev.num e∈ns:=by
 have pos: ∀n,n∈ns-> ∃w,w<H.length/\Ev.num H[w]! =n:=fun n hn=>by
  obtain ⟨e,he,h2⟩:=he n hn;obtain ⟨w,hw,rfl⟩:=aY.1 he;exact ⟨w,hw,h2⟩
 let f:Int->Nat:=fun n=>if h: ∃w,w<H.length/\Ev.num H[w]! =n then h.choose else 0
 have hf: ∀n∈ns,f n<H.length/\Ev.num H[f n]! =n:=fun n hn=>by
  have h:=pos n hn;show (if h: ∃w,w<H.length/\Ev.num H[w]! =n then h.choose else 0)<_/\Ev.num H[(if h: ∃w,w<H.length/\Ev.num H[w]! =n then h.choose else 0)]! =n
  rw [dif_pos h];exact h.choose_spec
 have full:=L3 (n:=H.length) (l:=ns.map f) (GF hd fun x hx y hy h=>by
  have h1:=(hf x hx).2;have h2:=(hf y hy).2;rw [h] at h1
  omega) (fun x hx=>by
  obtain ⟨n,hn,rfl⟩:=cf.1 hx;exact (hf n hn).1) (by rw [d5];exact hl)
 intro e hm;obtain ⟨w,hw,rfl⟩:=aY.1 hm;obtain ⟨n,hn,h⟩:=cf.1 (full w hw);rw [<- h,(hf n hn).2];exact hn
theorem YQ {cs:List wN} (h:Up cs):(cs.map fun x=>x.1).Nodup:=by
 refine GF ?_ ?_
 · unfold Up at h
   exact h.imp fun hab he=>by rw [he] at hab;omega
 intro x hx y hy he
 obtain ⟨i,hi,rfl⟩:=aY.1 hx;obtain ⟨j,hj,rfl⟩:=aY.1 hy;rcases cu i j with h1|h1|h1
 · have:=xF.1 h i j h1 hj;omega
 · rw [h1]
 have:=xF.1 h j i h1 hi;omega
theorem bG.crt_up {c:aR} (ok:bG c):Up c.ax.aq:=xF.2 ok.crt.up
theorem bG.due_up {c:aR} (ok:bG c):Up c.az:=ok.fol.up ok.crt_up
theorem bG.nums {c:aR} (ok:bG c): ∀e∈c.ay.aj,∃d∈c.az,d.1=Ev.num e:=by
 have:=L7 (H:=c.ay.aj) (YQ ok.due_up) (by rw [d5,ok.hd];exact bu _) (fun n hn=>by
  obtain ⟨d,hd,rfl⟩:=cf.1 hn;obtain ⟨x,hx,h1,h2,h3⟩:=ok.fol.az d hd;exact ⟨_,h3,h1.symm⟩)
 intro e he;obtain ⟨d,hd,h⟩:=cf.1 (this e he);exact ⟨d,hd,h⟩
end Go.Proofs.YtbgoiokedpjgbaaGreat
