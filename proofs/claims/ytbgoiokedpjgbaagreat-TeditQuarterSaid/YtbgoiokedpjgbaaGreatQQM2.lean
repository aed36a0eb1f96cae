/- Plain laws (2). -/
import Derived.Test.YtbgoiokedpjgbaaGreatQQM1
open Classical renaming not_not->ut,not_forall->EQ,not_imp->If
open List renaming length_set->v6,length_take->F0s,take_of_length_le->IR,take_append_of_le_length->M2,mem_map->PP,append_assoc->WF,drop_length->adc,drop_eq_nil_iff->adm,length_append->ae1,set_eq_of_length_le->ae3,length_drop->ae4,drop_eq_nil_of_le->ae9,drop_zero->af5,filter_eq_self->afa,mem_cons->afc,getElem?_take->afe,filter_append->afg,pairwise_cons->afj,getElem?_set->afx,length_cons->afy,isEmpty_iff->afB,length_nil->afJ,append_nil->afK,length_map->afM,replicate->afN,take_take->afW,set_comm->afZ,length->agy
open Bool renaming not_true->ww,not_false->UV,eq_iff_iff->af3,and_eq_true->afI,and_self->agd,true->agB,false->agE
open Int renaming toNat_natCast->AC,lt_irrefl->afb
open Nat renaming le_refl->Do,ble_eq_true_of_le->acl,lt_trichotomy->ae2,sub_self->ae8,eq_of_beq_eq_true->af4,le_trans->agj,beq->agl,min_self->agp
open Prod renaming ext->NE,fst->afX,snd->afY
open Iff renaming rfl->ae5
open Option renaming some->agz
open Decidable renaming decide->agG
namespace Go.Proofs.YtbgoiokedpjgbaaGreat
open Go.Vm Classical
theorem KA (a:aL) (fit:yJ a) (so:eO a.ai) (wl:(agy a.aq)=agy a.ai.aA):
 ay kQ (a.aq,((agy a.aq):Int),0,a.ai.aA,a.ai.be,a.ai.bi,a.bv,a.aq)=agz (if (∀i,i<agy a.ai.aA->GC a i)/\(∀k,k<agy a.bv->HK a.bv k) then 0 else 8):=by
 have hu:=so.ul;have hn:=so.n2;have hh:=fit.hp;have Gq:=Kz a.bv a.ai.aA a.ai.bi a.aq a.ai.be fit.hp fit.Px
 have key:=di (body:=kQ) (fun i=>(a.aq,((agy a.aq):Int),(i:Int),a.ai.aA,a.ai.be,a.ai.bi,a.bv,a.aq)) (agy a.aq) (fun i=> ¬GC a i) (r:=8) (e:=if (∀k,k<agy a.bv->HK a.bv k) then 0 else 8) (fun i hi=>by
  have e1:agG ((i:Int)<((agy a.aq):Int))=agB:=aE (by omega)
  unfold kQ;simp only [az,e1,lw,ar a.aq i hi,ar a.ai.be i (by omega),ar a.ai.aA i (by omega),aj,aT (show i<1000000000 by omega)]
  unfold GC;generalize a.aq[i]! =w at*;cases hb:a.ai.be[i]! with
  |false=>
   simp only [UV,lw]
   by_cases hw:w= -1
   · rw [bu hw]
     exact ⟨fun h=>absurd ⟨fun h=>(by cases h),fun _=>hw⟩ h,fun _=>rfl⟩
   rw [cz hw]
   exact ⟨fun _=>rfl,fun h=>absurd ((ut.1 h).2 trivial) hw⟩
  |true=>
   simp only [ww,ol]
   by_cases b1:w<0
   · rw [aE b1]
     exact ⟨fun _=>rfl,fun h=>absurd ((ut.1 h).1 trivial).1 (by omega)⟩
   by_cases b2:((agy a.bv):Int)<=w
   · rw [aC b1,aE b2]
     exact ⟨fun _=>rfl,fun h=>absurd ((ut.1 h).1 trivial).2.1 (by omega)⟩
   rw [aC b1,aC b2];simp only [ol,dJ (l:=a.bv) (i:=w) (by omega) (by omega),aj]
   by_cases b3:(a.bv[w.toNat]!).2.2.2.1=i
   · by_cases b4:(a.bv[w.toNat]!).2.2.2.2=a.ai.aA[i]!
     · rw [eI b3,eI b4]
       exact ⟨fun h=>absurd ⟨fun _=>⟨by omega,by omega,b3,b4⟩,fun h=>(by cases h)⟩ h,fun _=>rfl⟩
     rw [eI b3,dX b4]
     exact ⟨fun _=>rfl,fun h=>absurd ((ut.1 h).1 trivial).2.2.2 b4⟩
   rw [dX b3]
   exact ⟨fun _=>rfl,fun h=>absurd ((ut.1 h).1 trivial).2.2.1 b3⟩) (by
  unfold kQ
  have:agG (((agy a.aq):Int)<((agy a.aq):Int))=agE:=aC (by omega)
  simp only [az,this,ol]
  by_cases hx: ∀k,k<agy a.bv->HK a.bv k
  · rw [pp hx];exact Gq.1 hx
  rw [rc hx];exact Gq.2 hx)
 by_cases hw: ∀i,i<agy a.ai.aA->GC a i
 · refine (key.2 fun i hi=>ut.2 (hw i (by omega))).trans ?_
   by_cases hx: ∀k,k<agy a.bv->HK a.bv k
   · rw [pp hx,pp ⟨hw,hx⟩]
   rw [rc hx,rc (fun h=>hx h.2)]
 rw [rc (fun h=>hw h.1)]
 obtain ⟨i,h⟩:=EQ.1 hw;obtain ⟨hi,hx⟩:=If.1 h;exact key.1 ⟨i,by omega,hx⟩
theorem kT (a:aL) (fit:yJ a):kA a=agz (if eT a then 0 else 8):=by
 have hh:=fit.hp;unfold kA;rw [u6 _ fit.fr];simp only [az]
 by_cases so:eO a.ai
 case neg=>rw [rc so,rc (fun h=>so h.so)];rfl
 have hu:=so.ul;have hn:=so.n2;have hf:=so.fl;rw [pp so];simp only [aj,show ((0:Int) !=0)=agE from rfl,ol]
 by_cases wl:(agy a.aq)=agy a.ai.aA
 case neg=>
  rw [cz (by omega),rc (fun h=>wl h.wl)];rfl
 rw [bu (by omega)]
 have e:aa .i64 (((agy a.ai.be):Int) - ((agy a.ai.bi):Int))=((agy a.ai.aA-(agy a.ai.bi):Nat):Int):=by rw [wi];omega
 rw [e]
 by_cases hl:(agy a.bv)+agy a.ai.bi=agy a.ai.aA
 case neg=>
  rw [cz (by omega),rc (fun h=>hl h.hl)];rfl
 rw [bu (by omega)]
 simp only [ol];rw [KA a fit so wl]
 by_cases ok:eT a
 · rw [pp ok,pp ok.to]
 rw [rc ok,rc]
 intro h;exact ok (eT.of fit so wl hl h.1 h.2)
theorem We {x y:Ev} (hx:nm (x.1,x.2.1)) (hy:nm (y.1,y.2.1)):ew x y=agz (agG (less x y)):=by
 unfold ew less;rw [Gk hx hy];simp only [aj];generalize vU (x.1,x.2.1) (y.1,y.2.1)=c
 by_cases h1:c<0
 · simp [h1]
 by_cases h2:c=0
 · subst h2;simp
 simp only [h1,dX h2,h2,decide_false,ol,false_or,false_and]
theorem Rq {s:bg} (ok:eO s) (h:Int×Int):sY s h=agz (agG (uD s h)):=by
 have hu:=ok.ul;unfold sY uD;simp only [az]
 by_cases a1:0<=h.1
 · by_cases a2:h.1<agy s.aA
   · simp only [a1,a2,decide_true,lw,dJ (l:=s.be) a1 (by omega),dJ (l:=s.aA) a1 a2,aj,true_and]
     generalize s.aA[h.1.toNat]! =u;cases s.be[h.1.toNat]!<;>simp [Rn]
   simp [a1,a2]
 simp [a1]
theorem S1 (a:aL) (so:eO a.ai):rW a=agz (agG (agy a.aq=agy a.ai.aA/\agy a.bv+agy a.ai.bi=agy a.ai.aA/\ ∀i,i<agy a.ai.aA->GC a i)):=by
 have hu:=so.ul;have hn:=so.n2;have hf:=so.fl;unfold rW;simp only [az]
 by_cases wl:(agy a.aq)=agy a.ai.aA
 case neg=>
  rw [cz (by omega),aC (fun h=>wl h.1)];rfl
 rw [bu (by omega)]
 have e:aa .i64 (((agy a.ai.aA):Int) - ((agy a.ai.bi):Int))=((agy a.ai.aA-(agy a.ai.bi):Nat):Int):=by rw [wi];omega
 rw [e]
 by_cases hl:(agy a.bv)+agy a.ai.bi=agy a.ai.aA
 case neg=>
  rw [cz (by omega),aC (fun h=>hl h.2.1)];rfl
 rw [bu (by omega)]
 simp only [ol];have key:=di (body:=mU) (fun i=>(((agy a.ai.aA):Int),(i:Int),a.ai.aA,a.ai.be,a.ai.bi,a.bv,a.aq)) (agy a.ai.aA) (fun i=> ¬GC a i) (r:=agE) (e:=agB) (fun i hi=>by
  have e1:agG ((i:Int)<((agy a.ai.aA):Int))=agB:=aE (by omega)
  unfold mU;simp only [az,e1,lw,ar a.aq i (by omega),ar a.ai.be i (by omega),aj,aT (show i<1000000000 by omega)]
  unfold GC;generalize a.aq[i]! =w at*;cases hb:a.ai.be[i]! with
  |false=>
   simp only [UV,lw]
   by_cases hw:w= -1
   · rw [bu hw]
     exact ⟨fun h=>absurd ⟨fun h=>(by cases h),fun _=>hw⟩ h,fun _=>rfl⟩
   rw [cz hw]
   exact ⟨fun _=>rfl,fun h=>absurd ((ut.1 h).2 trivial) hw⟩
  |true=>
   simp only [ww,ol]
   by_cases b1:w<0
   · rw [aE b1]
     exact ⟨fun _=>rfl,fun h=>absurd ((ut.1 h).1 trivial).1 (by omega)⟩
   by_cases b2:((agy a.bv):Int)<=w
   · rw [aC b1,aE b2]
     exact ⟨fun _=>rfl,fun h=>absurd ((ut.1 h).1 trivial).2.1 (by omega)⟩
   rw [aC b1,aC b2];simp only [ol,dJ (l:=a.bv) (i:=w) (by omega) (by omega),aj]
   by_cases b3:(a.bv[w.toNat]!).2.2.2.1=i
   · rw [bu b3]
     simp only [ol];rw [Rq (s:=⟨a.ai.aA,a.ai.be,a.ai.bi⟩) so];have lv:uD ⟨a.ai.aA,a.ai.be,a.ai.bi⟩ (a.bv[w.toNat]!).2.2.2↔(a.bv[w.toNat]!).2.2.2.2=a.ai.aA[i]!:=by
      unfold uD;dsimp only;rw [b3];constructor
      · intro h;exact h.2.2.2.symm
      intro h;exact ⟨by omega,by omega,by rw [AC];exact hb,by rw [AC];exact h.symm⟩
     simp only [aj,lv]
     by_cases b4:(a.bv[w.toNat]!).2.2.2.2=a.ai.aA[i]!
     · rw [aE b4]
       exact ⟨fun h=>absurd ⟨fun _=>⟨by omega,by omega,b3,b4⟩,fun h=>(by cases h)⟩ h,fun _=>rfl⟩
     rw [aC b4]
     exact ⟨fun _=>rfl,fun h=>absurd ((ut.1 h).1 trivial).2.2.2 b4⟩
   rw [cz b3]
   exact ⟨fun _=>rfl,fun h=>absurd ((ut.1 h).1 trivial).2.2.1 b3⟩) (by
  unfold mU
  have:agG (((agy a.ai.aA):Int)<((agy a.ai.aA):Int))=agE:=aC (by omega)
  simp only [this,ol])
 by_cases hw: ∀i,i<agy a.ai.aA->GC a i
 · rw [aE ⟨wl,hl,hw⟩]
   exact key.2 fun i hi=>ut.2 (hw i hi)
 rw [aC (fun h=>hw h.2.2)]
 obtain ⟨i,h⟩:=EQ.1 hw;obtain ⟨hi,hx⟩:=If.1 h;exact key.1 ⟨i,hi,hx⟩
theorem M4 (H:List Ev) (u fr W:List Int) (us:List Bool) (k:Nat) (hk:k<agy H) (hl:(agy H)<=1000000) (x:Ev):
 ((∃j,j<k/\(H[j]!).2.2.1=x.2.2.1)->ay jO ((k:Int),0,u,us,fr,H,W,x)=agz (.done 8))/\
 ((∀j,j<k-> ¬(H[j]!).2.2.1=x.2.2.1)->ay jO ((k:Int),0,u,us,fr,H,W,x)=agz (.next (((k+1:Nat):Int),u,us,fr,H,W))):=by
 refine di (body:=jO) (fun j=>((k:Int),(j:Int),u,us,fr,H,W,x)) k (fun j=>(H[j]!).2.2.1=x.2.2.1) (r:= .done 8) (e:= .next (((k+1:Nat):Int),u,us,fr,H,W)) (fun j hj=>?_) ?_
 · have e1:agG ((j:Int)<(k:Int))=agB:=aE (by omega)
   unfold jO;simp only [e1,lw,ar H j (by omega),aj,aT (show j<1000000000 by omega)]
   constructor
   · intro h;rw [eI h];rfl
   intro h;rw [dX h];rfl
 unfold jO
 have:agG ((k:Int)<(k:Int))=agE:=aC (by omega)
 simp only [this,ol,aT (show k<1000000000 by omega)]
theorem M5 (H:List Ev) (u fr W:List Int) (us:List Bool) (hl:(agy H)<=1000000) (qc: ∀w,w<agy H->nm ((H[w]!).1,(H[w]!).2.1)):
 ay jP (1,u,us,fr,H,W)=agz (.done (if∀k,0<k->k<agy H-> ¬less H[k]! H[(k-1) / 2]! then 0 else 8)):=by
 by_cases h0:(agy H)=0
 · rw [pp (fun k _ hk=>by omega)]
   refine aH ?_;unfold jP
   have:agG ((1:Int)<((agy H):Int))=agE:=aC (by omega)
   simp only [az,this,ol]
 have key:=di (body:=jP) (fun i=>(((i+1:Nat):Int),u,us,fr,H,W)) (agy H-1) (fun i=>less H[i+1]! H[i / 2]!) (r:= .done 8) (e:= .done 0) (fun i hi=>by
  have e1:agG (((i+1:Nat):Int)<((agy H):Int))=agB:=aE (by omega)
  unfold jP;simp only [az,e1,lw,rq (show i<1000000000 by omega),ar H (i+1) (by omega),ar H (i / 2) (by omega),aj,We (qc (i+1) (by omega)) (qc (i / 2) (by omega)),aT (show i+1<1000000000 by omega)]
  constructor
  · intro h;rw [aE h];rfl
  · intro h;rw [aC h];rfl) (by
  unfold jP
  have:agG (((agy H-1+1:Nat):Int)<((agy H):Int))=agE:=aC (by omega)
  simp only [az,this,ol])
 by_cases ho: ∀k,0<k->k<agy H-> ¬less H[k]! H[(k-1) / 2]!
 · rw [pp ho]
   refine key.2 fun i hi hc=>ho (i+1) (by omega) (by omega) ?_
   rwa [show (i+1-1) / 2=i / 2 by omega]
 rw [rc ho]
 obtain ⟨k,h⟩:=EQ.1 ho;obtain ⟨k0,h⟩:=If.1 h;obtain ⟨hk,hx⟩:=If.1 h;refine key.1 ⟨k-1,by omega,?_⟩
 rw [show k-1+1=k by omega]
 exact ut.1 hx
def KB (H:List Ev) (k:Nat):Prop:=bX ((H[k]!).1,(H[k]!).2.1)/\0<=(H[k]!).2.2.1/\(H[k]!).2.2.1<=1000000/\(∀j,j<k-> ¬(H[j]!).2.2.1=(H[k]!).2.2.1)
theorem yK (a:aL) (fit:yJ a):qM a=agz (if eT a then 0 else 8):=by
 have hh:=fit.hp;unfold qM;rw [GB _ fit.fr]
 by_cases so:eO a.ai
 case neg=>rw [rc so,rc (fun h=>so h.so)];rfl
 rw [pp so];simp only [aj,show ((0:Int) !=0)=agE from rfl,ol,S1 a so]
 by_cases pl:(agy a.aq)=agy a.ai.aA/\agy a.bv+agy a.ai.bi=agy a.ai.aA/\ ∀i,i<agy a.ai.aA->GC a i
 case neg=>
  rw [aC pl,rc (fun h=>pl ⟨h.wl,h.hl,h.to.1⟩)];rfl
 rw [aE pl];obtain ⟨wl,hl,hw⟩:=pl;simp only [ww,ol];have key:=di (body:=oJ) (fun k=>((k:Int),a.ai.aA,a.ai.be,a.ai.bi,a.bv,a.aq)) (agy a.bv) (fun k=> ¬KB a.bv k) (r:=8) (e:=if∀k,0<k->k<agy a.bv-> ¬less a.bv[k]! a.bv[(k-1) / 2]! then 0 else 8) (fun k hk=>by
  have e1:agG ((k:Int)<((agy a.bv):Int))=agB:=aE (by omega)
  have l1:=M4 a.bv a.ai.aA a.ai.bi a.aq a.ai.be k hk hh a.bv[k]!;unfold oJ;simp only [az,e1,lw,ar a.bv k hk,aj,lW (fit.Px k hk)];unfold KB
  by_cases b1:bX ((a.bv[k]!).1,(a.bv[k]!).2.1)
  case neg=>
   rw [rc b1];exact ⟨fun _=>rfl,fun h=>absurd (ut.1 h).1 b1⟩
  rw [pp b1]
  by_cases b2:(a.bv[k]!).2.2.1<0
  · rw [aE b2]
    exact ⟨fun _=>rfl,fun h=>absurd (ut.1 h).2.1 (by omega)⟩
  by_cases b3:1000000<(a.bv[k]!).2.2.1
  · rw [aC b2,aE b3]
    exact ⟨fun _=>rfl,fun h=>absurd (ut.1 h).2.2.1 (by omega)⟩
  rw [aC b2,aC b3];simp only [show ((0:Int) !=0)=agE from rfl,ol]
  by_cases b4: ∃j,j<k/\(a.bv[j]!).2.2.1=(a.bv[k]!).2.2.1
  · refine ⟨fun _=>l1.1 b4,fun h=>?_⟩
    obtain ⟨j,j1,j2⟩:=b4;exact absurd j2 ((ut.1 h).2.2.2 j j1)
  · have b4': ∀j,j<k-> ¬(a.bv[j]!).2.2.1=(a.bv[k]!).2.2.1:=fun j h1 h2=>b4 ⟨j,h1,h2⟩
    exact ⟨fun h=>absurd ⟨b1,by omega,by omega,b4'⟩ h,fun _=>l1.2 b4'⟩) (by
  unfold oJ
  have:agG (((agy a.bv):Int)<((agy a.bv):Int))=agE:=aC (by omega)
  simp only [az,this,ol];exact M5 a.bv _ _ _ _ hh fit.Px)
 have same:eT a↔(∀k,k<agy a.bv->KB a.bv k)/\ ∀k,0<k->k<agy a.bv-> ¬less a.bv[k]! a.bv[(k-1) / 2]!:=by
  constructor
  · intro ok
    refine ⟨fun k hk=>?_,ok.ord⟩
    have:=ok.to.2 k hk
    exact ⟨this.1,this.2.1,this.2.2.1,this.2.2.2.1⟩
  rintro ⟨h1,h2⟩
  refine eT.of fit so wl hl hw fun k hk=>?_
  obtain ⟨c1,c2,c3,c4⟩:=h1 k hk;refine ⟨c1,c2,c3,c4,fun k0=>?_⟩
  unfold Py;rw [pp ⟨c1,(h1 ((k-1) / 2) (by omega)).1⟩,Ca]
  exact h2 k k0 hk
 by_cases he: ∀k,k<agy a.bv->KB a.bv k
 · refine (key.2 fun i hi=>ut.2 (he i hi)).trans ?_
   by_cases ho: ∀k,0<k->k<agy a.bv-> ¬less a.bv[k]! a.bv[(k-1) / 2]!
   · rw [pp ho,pp (same.2 ⟨he,ho⟩)]
   rw [rc ho,rc (fun h=>ho (same.1 h).2)]
 rw [rc (fun h=>he (same.1 h).1)]
 obtain ⟨i,h⟩:=EQ.1 he;obtain ⟨hi,hx⟩:=If.1 h;exact key.1 ⟨i,hi,hx⟩
theorem Al {l:List Ev} {n:Nat} {e:Ev} (hn:n<=agy l):e∈l.take n↔ ∃w,w<n/\l[w]! =e:=by
 rw [cm];constructor
 · rintro ⟨i,h1,_,h3⟩;exact ⟨i,h1,h3⟩
 rintro ⟨i,h1,h3⟩;exact ⟨i,h1,by omega,h3⟩
theorem afS {s:bg} (so:eO s) {n:Nat} {H:List Ev} {W:List Int} (E:Ev->Prop) (hn:n<=agy H) (wl:(agy W)=agy s.aA) (hl:n+agy s.bi=agy s.aA)
 (ix: ∀w,w<n->0<=(H[w]!).ix/\(H[w]!).ix<agy W/\W[(H[w]!).n]! =(w:Int)) (mem: ∀e,(∃w,w<n/\H[w]! =e)↔E e) (ord: ∀k,0<k->k<n-> ¬less H[k]! H[(k-1) / 2]!)
 (ue: ∀i,i<agy s.aA->s.be[i]! =agB-> ∃e:Ev,E e/\e.ix=i/\e.2.2.2.2=s.aA[i]!) (un: ∀i,i<agy s.aA->s.be[i]! =agE->W[i]! = -1)
 (ev: ∀e,E e->pD e) (A7: ∀e f:Ev,E e->E f->e.num=f.num->e.ix=f.ix):eT ⟨s,H.take n,W⟩:=by
 have len:(H.take n).length=n:=by rw [F0s];omega
 have cell: ∀w,w<n->(H.take n)[w]! =H[w]!:=fun w hw=>iO hw
 refine ⟨so,wl,by show (H.take n).length+_=_;rw [len];exact hl,?_,un,?_,?_,?_⟩
 · intro i hi hu
   dsimp only at hi hu ⊢;rw [len];obtain ⟨e,he,e1,e2⟩:=ue i hi hu;obtain ⟨w,hw,rfl⟩:=(mem e).2 he;obtain ⟨a1,a2,a3⟩:=ix w hw;have hn':(H[w]!).n=i:=by show ((H[w]!).ix).toNat=i;omega
   rw [hn'] at a3;rw [a3,AC,cell w hw];exact ⟨by omega,by omega,e1,e2⟩
 · intro w hw
   dsimp only at hw ⊢;rw [len] at hw;rw [cell w hw];exact ev _ ((mem _).1 ⟨w,hw,rfl⟩)
 · intro v w hv hw
   dsimp only at hw ⊢;rw [len] at hw;rw [cell v (by omega),cell w hw]
   intro hc
   have:=A7 _ _ ((mem _).1 ⟨v,by omega,rfl⟩) ((mem _).1 ⟨w,hw,rfl⟩) hc
   obtain ⟨a1,a2,a3⟩:=ix v (by omega)
   obtain ⟨b1,b2,b3⟩:=ix w hw;have hn':(H[v]!).n=(H[w]!).n:=by show ((H[v]!).ix).toNat=((H[w]!).ix).toNat;rw [this]
   rw [hn'] at a3;omega
 intro k k0 hk
 dsimp only at hk ⊢;rw [len] at hk;rw [cell k hk,cell _ (by omega)]
 exact ord k k0 hk
theorem vd {s:bg} (so:eO s) {n:Nat} {x:Ev} {M:Ev->Prop} {K:Nat->Prop} {H H1:List Ev} {W W1:List Int} (st:zD n x M K H W H1 W1) (hn:n<=agy H) (wl:(agy W)=agy s.aA) (hl:n+agy s.bi=agy s.aA)
 (ue: ∀i,i<agy s.aA->s.be[i]! =agB-> ∃e:Ev,(e=x\/M e)/\e.ix=i/\e.2.2.2.2=s.aA[i]!) (un: ∀i,i<agy s.aA->s.be[i]! =agE->K i/\W[i]! = -1)
 (ev: ∀e,(e=x\/M e)->pD e) (A7: ∀e f:Ev,(e=x\/M e)->(f=x\/M f)->e.num=f.num->e.ix=f.ix):eT ⟨s,H1.take n,W1⟩:=by
 refine afS so (fun e=>e=x\/M e) (by rw [st.hl];exact hn) (by rw [st.wl];exact wl) hl (by rw [st.wl];exact st.ix) st.mem st.ord ue ?_ ev A7
 intro i hi hu;rw [st.out i (un i hi hu).1];exact (un i hi hu).2
theorem eT.bd {a:aL} (ok:eT a):(agy a.bv)<=200/\agy a.aq<=200:=by
 have:=ok.hl;have:=ok.wl;have:=ok.so.n2
 omega
theorem eT.cells {a:aL} (ok:eT a):lY (agy a.bv) a.bv a.aq:=by
 have:=ok.bd
 refine ⟨Do _,by omega,fun w hw=>?_⟩
 obtain ⟨b1,b2,b3,b4,b5⟩:=ok.back hw;exact ⟨ok.ev w hw,b1,by rw [ok.wl];exact b2⟩
theorem eT.inj {a:aL} (ok:eT a) {v w:Nat} (hv:v<agy a.bv) (hw:w<agy a.bv) (h:Ev.ix a.bv[v]! =Ev.ix a.bv[w]!):v=w:=by
 have h1:=(ok.back hv).2.2.2.2;have h2:=(ok.back hw).2.2.2.2
 have:Ev.n a.bv[v]! =Ev.n a.bv[w]!:=by show (Ev.ix a.bv[v]!).toNat=(Ev.ix a.bv[w]!).toNat;rw [h]
 rw [this] at h1;omega
theorem eT.MY {a:aL} (ok:eT a) {i k:Nat} (i0:0<i) (k0:0<k) (hk:k<agy a.bv) (hp:(k-1) / 2=i): ¬less a.bv[k]! a.bv[(i-1) / 2]!:=by
 have h1:=ok.ord k k0 hk;rw [hp] at h1;exact zC (ok.ev _ (by omega)).den (ok.ev _ (by omega)).den (ok.ev _ hk).den (ok.ord i i0 (by omega)) h1
theorem eT.live {a:aL} (ok:eT a) {h:Int×Int} (lv:uD a.ai h): ∃i,i<agy a.bv/\a.aq[h.1.toNat]! =(i:Int)/\(a.bv[i]!).2.2.2=h:=by
 obtain ⟨l1,l2,l3,l4⟩:=lv;obtain ⟨f1,f2,f3,f4⟩:=ok.fwd h.1.toNat (by omega) l3
 refine ⟨(a.aq[h.1.toNat]!).toNat,by omega,by omega,?_⟩
 have e1:(a.bv[(a.aq[h.1.toNat]!).toNat]!).2.2.2.1=h.1:=by
  have:Ev.ix a.bv[(a.aq[h.1.toNat]!).toNat]! =(h.1.toNat:Int):=f3
  have h2:Ev.ix a.bv[(a.aq[h.1.toNat]!).toNat]! =(a.bv[(a.aq[h.1.toNat]!).toNat]!).2.2.2.1:=rfl;omega
 exact NE e1 (by rw [f4,l4])
theorem eT.handle {a:aL} (ok:eT a) {i:Nat} (hi:i<agy a.bv):uD a.ai (a.bv[i]!).2.2.2/\a.aq[((a.bv[i]!).2.2.2.1).toNat]! =(i:Int):=by
 obtain ⟨b1,b2,b3,b4,b5⟩:=ok.back hi;exact ⟨⟨b1,b2,b3,b4⟩,b5⟩
theorem eT.EK {a:aL} (ok:eT a) {i:Nat} (hi:i<agy a.ai.aA) (hu:a.ai.be[i]! =agB): ∃w,w<agy a.bv/\Ev.ix a.bv[w]! =i/\(a.bv[w]!).2.2.2.2=a.ai.aA[i]!:=by
 obtain ⟨f1,f2,f3,f4⟩:=ok.fwd i hi hu;exact ⟨(a.aq[i]!).toNat,by omega,f3,f4⟩
theorem eT.IN {a:aL} (ok:eT a) {i:Nat} (hu:a.ai.be[i]! =agE) {w:Nat} (hw:w<agy a.bv):Ev.n a.bv[w]!≠i:=by
 intro h
 have:=(ok.back hw).2.2.1
 rw [h,hu] at this;cases this
theorem eT.A7 {a:aL} (ok:eT a) {v w:Nat} (hv:v<agy a.bv) (hw:w<agy a.bv) (h:Ev.num a.bv[v]! =Ev.num a.bv[w]!):v=w:=by
 rcases ae2 v w with h1|h1|h1
 · exact absurd h (ok.nd v w h1 hw)
 · exact h1
 exact absurd h.symm (ok.nd w v h1 hv)
theorem eX {α:Type} [Inhabited α] {l:List α} {k:Nat} {v:α} (h:l[k]! =v):l.set k v=l:=by
 by_cases hk:k<agy l
 · apply qO (by rw [v6])
   intro i hi;rw [aX];split
   · rename_i e;rw [e.1];exact h.symm
   rfl
 exact ae3 (by omega)
def pE (x:Ev) (t:Int×Int):Ev:=(t.1,t.2,x.2.2)
noncomputable def jz (a:aL) (i:Nat) (t:Int×Int):aL:=⟨a.ai,(cK (agy a.bv) (pE a.bv[i]! t) i a.bv a.aq).1,(cK (agy a.bv) (pE a.bv[i]! t) i a.bv a.aq).2⟩
theorem GD {a:aL} (ok:eT a) {i:Nat} (hi:i<agy a.bv) {t:Int×Int} (ht:bX t) (h64:nm t):pD (pE a.bv[i]! t):=by
 have:=ok.ev i hi
 exact ⟨ht,h64,this.2.2.1,this.2.2.2⟩
theorem GF {a:aL} (ok:eT a) {i:Nat} (hi:i<agy a.bv) (t:Int×Int):A5 (agy a.bv) (pE a.bv[i]! t) (fun e=> ∃w,w<agy a.bv/\w≠i/\a.bv[w]! =e) a.bv a.aq i:=by
 obtain ⟨b1,b2,b3,b4,b5⟩:=ok.back hi;refine ⟨hi,Do _,fun w hw Kw=>?_,b1,by rw [ok.wl];exact b2,fun e=>ae5⟩
 obtain ⟨c1,c2,c3,c4,c5⟩:=ok.back hw;exact ⟨c1,by rw [ok.wl];exact c2,c5,fun h=>Kw (ok.inj hw hi h)⟩
theorem IP {a:aL} (ok:eT a) (i:Nat):Ord (agy a.bv) a.bv i:=
 ⟨fun w hw=>(ok.ev w hw).den,fun k k0 hk _ _=>ok.ord k k0 hk,fun i0 _k k0 hk hp=>ok.MY i0 k0 hk hp⟩
theorem mM {a:aL} (ok:eT a) {i:Nat} (hi:i<agy a.bv) {t:Int×Int} (ht:bX t):
 zD (agy a.bv) (pE a.bv[i]! t) (fun e=> ∃w,w<agy a.bv/\w≠i/\a.bv[w]! =e) (fun k=>k≠Ev.n (pE a.bv[i]! t)/\ ∀w,w<agy a.bv->w≠i->Ev.n a.bv[w]!≠k) a.bv a.aq (jz a i t).bv (jz a i t).aq:=
 yH (x:=pE a.bv[i]! t) ht.1 (GF ok hi t) (IP ok i)
theorem Dm {a:aL} (ok:eT a) {i:Nat} (hi:i<agy a.bv) {t:Int×Int} (ht:bX t):(jz a i t).bv.length=agy a.bv/\(jz a i t).aq.length=(agy a.aq):=
 ⟨(mM ok hi ht).hl,(mM ok hi ht).wl⟩
theorem S2 {a:aL} (ok:eT a) {i:Nat} (hi:i<agy a.bv) {t:Int×Int} (ht:bX t) (e:Ev):e∈(jz a i t).bv↔(e=pE a.bv[i]! t\/(e∈a.bv/\e≠a.bv[i]!)):=by
 have st:=mM ok hi ht;have h1:e∈(jz a i t).bv↔ ∃w,w<agy a.bv/\((jz a i t).bv)[w]! =e:=by
  rw [aS,(Dm ok hi ht).1]
 rw [h1];refine (st.mem e).trans ?_;constructor
 · rintro (h|⟨w,hw,Kw,rfl⟩)
   · exact .inl h
   exact .inr ⟨aW hw,fun h=>Kw (ok.inj hw hi (by rw [h]))⟩
 rintro (h|⟨h,ec⟩)
 · exact .inl h
 obtain ⟨w,hw,rfl⟩:=aS.1 h
 exact .inr ⟨w,hw,fun h=>ec (by rw [h]),rfl⟩
theorem Wf {a:aL} (ok:eT a) {i:Nat} (hi:i<agy a.bv) {t:Int×Int} (ht:bX t) (h64:nm t):eT (jz a i t):=by
 have st:=mM ok hi ht;have len:=(Dm ok hi ht).1;have hx:Ev.ix (pE a.bv[i]! t)=Ev.ix a.bv[i]!:=rfl;have key:=vd ok.so st (Do _) ok.wl ok.hl (fun j hj hu=>by
  obtain ⟨w,hw,e1,e2⟩:=ok.EK hj hu
  by_cases e:w=i
  · subst e;exact ⟨pE a.bv[w]! t,.inl rfl,e1,e2⟩
  · exact ⟨a.bv[w]!,.inr ⟨w,hw,e,rfl⟩,e1,e2⟩) (fun j hj hu=>⟨⟨(ok.IN hu hi).symm,fun w hw _=>ok.IN hu hw⟩,ok.un j hj hu⟩) (by
  rintro e (rfl|⟨w,hw,_,rfl⟩)
  · exact GD ok hi ht h64
  · exact ok.ev w hw) (by
  rintro e f (rfl|⟨v,hv,hvi,rfl⟩) (rfl|⟨w,hw,Kw,rfl⟩) he
  · rfl
  · exact absurd (ok.A7 hi hw he).symm Kw
  · exact absurd (ok.A7 hv hi he) hvi
  rw [ok.A7 hv hw he])
 have:(jz a i t).bv.take (agy a.bv)=(jz a i t).bv:=IR (by rw [len];exact Do _)
 show eT ⟨a.ai,(jz a i t).bv,(jz a i t).aq⟩;rw [<- this];exact key
theorem M6 {a:aL} (ok:eT a) (fit:yJ a) {h:Int×Int} {i:Nat} (hi:i<agy a.bv) (hh:(a.bv[i]!).2.2.2=h):oF a h=agz ((i:Int),0):=by
 obtain ⟨lv,wv⟩:=ok.handle hi;rw [hh] at lv;unfold oF;rw [kT a fit,pp ok];simp only [aj,show ((0:Int) !=0)=agE from rfl,ol,D0 ok.so,aE lv,ww]
 have:=lv.2.1;have:=lv.1;have:=ok.wl
 have e:(a.bv[i]!).2.2.2.1=h.1:=by rw [hh]
 rw [dJ (l:=a.aq) lv.1 (by omega),<- e,wv]
 rfl
theorem Ei {a:aL} (ok:eT a) (fit:yJ a) {h t:Int×Int} {i:Nat} (hi:i<agy a.bv) (hh:(a.bv[i]!).2.2.2=h) (ht:bX t) (h64:nm t):rV a h t=agz (jz a i t,0):=by
 have bd:=ok.bd;obtain ⟨b1,b2,b3,b4,b5⟩:=ok.back hi;unfold rV;rw [kT a fit,pp ok,ff h64,pp ht];have pl:=M6 ok fit hi hh;have se:=Gx (u:=a.ai.aA) (us:=a.ai.be) (fr:=a.ai.bi) (GD ok hi ht h64) (show 0<=Ev.ix (pE a.bv[i]! t) from b1) ok.cells rfl hi (show Ev.ix (pE a.bv[i]! t)<(agy a.aq) by rw [ok.wl];exact b2)
 have se':eU (a.ai.aA,a.ai.be,a.ai.bi,(i:Int),t.1,t.2,(a.bv[i]!).2.2.1,(a.bv[i]!).2.2.2.1,(a.bv[i]!).2.2.2.2,a.bv,a.aq)=agz (cK (agy a.bv) (pE a.bv[i]! t) i a.bv a.aq):=se
 simp only [aj,gt_iff_lt,afb,if_false,show ((0:Int) !=0)=agE from rfl,ol,pl,ba (show (agy a.bv)<=1048576 by omega),ba (show (agy a.aq)<=1048576 by omega),ar a.bv i hi,se']
 rfl
theorem qd {a:aL} (ok:eT a):lJ a=agz a:=by
 have bd:=ok.bd;unfold lJ;simp only [u7 ok.so,aj,ba (show (agy a.bv)<=1048576 by omega),ba (show (agy a.aq)<=1048576 by omega)]
theorem Dn {a:aL} (ok:eT a) {h t:Int×Int} {i:Nat} (hi:i<agy a.bv) (hh:(a.bv[i]!).2.2.2=h) (ht:bX t) (h64:nm t):pW a h t=agz (jz a i t):=by
 have bd:=ok.bd;obtain ⟨b1,b2,b3,b4,b5⟩:=ok.back hi;obtain ⟨lv,wv⟩:=ok.handle hi;have hx:=GD ok hi ht h64;have x1:Ev.ix (pE a.bv[i]! t)<(agy a.aq):=by rw [ok.wl];exact b2
 have st:=mM ok hi ht;obtain ⟨j,H1,W1,e1,e3,e4,e5,e6,e7,e8,e9,e10⟩:=EH (x:=pE a.bv[i]! t) ht.1 i a.bv a.aq (GF ok hi t) (IP ok i);have w1:a.aq.set (Ev.n (pE a.bv[i]! t)) (i:Int)=a.aq:=eX b5;unfold pW;rw [qd ok];have g1:aJ a.aq h.1=agz (i:Int):=by
  have e:(a.bv[i]!).2.2.2.1=h.1:=by rw [hh]
  rw [dJ (l:=a.aq) (i:=h.1) (by rw [<- e];exact b1) (by rw [<- e,ok.wl];exact b2),<- e,wv]
 have u1:ox ((i:Int),a.ai.aA,a.ai.be,a.ai.bi,a.bv.set i (pE a.bv[i]! t),a.aq)=agz ((j:Int),a.ai.aA,a.ai.be,a.ai.bi,H1.set j (pE a.bv[i]! t),W1.set (Ev.n (pE a.bv[i]! t)) (j:Int)):=by
  unfold ox
  have:=Wb (c0:=((i:Int),a.ai.aA,a.ai.be,a.ai.bi,a.bv.set i (pE a.bv[i]! t),a.aq)) (u:=a.ai.aA) (us:=a.ai.be) (fr:=a.ai.bi) hx b1 rfl rfl rfl i a.bv a.aq ok.cells hi rfl x1 v6 rfl
  rw [w1,e1] at this;exact this
 have Pz:lY (agy a.bv) H1 W1:=by
  refine ⟨by rw [e5];exact Do _,by omega,fun w hw=>?_⟩
  exact ⟨(yI ok.cells hi e1 w hw).1,(yI ok.cells hi e1 w hw).2.1,by rw [e6];exact (yI ok.cells hi e1 w hw).2.2⟩
 have d1:mg ((j:Int),a.ai.aA,a.ai.be,a.ai.bi,H1.set j (pE a.bv[i]! t),W1.set (Ev.n (pE a.bv[i]! t)) (j:Int))=agz (a.ai.aA,a.ai.be,a.ai.bi,(cK (agy a.bv) (pE a.bv[i]! t) i a.bv a.aq).1,(cK (agy a.bv) (pE a.bv[i]! t) i a.bv a.aq).2):=by
  unfold mg
  have:=M1 (c0:=((j:Int),a.ai.aA,a.ai.be,a.ai.bi,H1.set j (pE a.bv[i]! t),W1.set (Ev.n (pE a.bv[i]! t)) (j:Int))) (n:=agy a.bv) (u:=a.ai.aA) (us:=a.ai.be) (fr:=a.ai.bi) hx b1 rfl rfl rfl (agy a.bv) j H1 W1 (by omega) Pz e3.lt e5 (by rw [e6];exact x1) v6 v6
  rw [this];unfold cK;rw [e1]
 have s1:cj a.bv (i:Int) (t.1,t.2,(a.bv[i]!).2.2)=a.bv.set i (pE a.bv[i]! t):=rfl;simp only [aj,g1,ar a.bv i hi,s1,u1,d1];rfl
theorem IQ (H:List Ev) (n:Int) (hl:(agy H)<=1000000):cU H n=agz (agG (∃w,w<agy H/\(H[w]!).2.2.1=n)):=by
 unfold cU eN;have key:=hO (body:=cT) (fun i=>(H,n,((agy H):Int),(i:Int))) (agy H) (fun i=>(H[i]!).2.2.1=n) (fun i=>(i:Int)) (e:= -1) (fun i hi=>by
  have e1:agG ((i:Int)<((agy H):Int))=agB:=aE (by omega)
  unfold cT uZ;simp only [e1,lw,ar H i hi,aj,aT (show i<1000000000 by omega)]
  constructor
  · intro h;rw [eI h];rfl
  · intro h;rw [dX h];rfl) (by
  unfold cT
  have:agG (((agy H):Int)<((agy H):Int))=agE:=aC (by omega)
  simp only [this,ol])
 rw [az]
 by_cases hx: ∃w,w<agy H/\(H[w]!).2.2.1=n
 · obtain ⟨k,h1,h2,h3⟩:=least hx
   have:=key.1 k h1 h2 h3
   rw [show ((0:Nat):Int)=0 from rfl] at this;rw [this,aE hx];simp only [aj,aE (show (0:Int)<=(k:Int) by omega)]
 have:=key.2 fun i hi he=>hx ⟨i,hi,he⟩
 rw [show ((0:Nat):Int)=0 from rfl] at this;rw [this,aC hx];rfl
noncomputable def dt (a:aL) (t:Int×Int) (n:Int):Ev:=(t.1,t.2,n,kG a.ai)
noncomputable def kH (a:aL) (t:Int×Int) (n:Int):aL:=
 ⟨ga a.ai,(cK (agy a.bv+1) (dt a t n) (agy a.bv) (a.bv++[dt a t n]) a.aq).1,(cK (agy a.bv+1) (dt a t n) (agy a.bv) (a.bv++[dt a t n]) a.aq).2⟩
section
variable {a : aL} (ok : eT a) (op : vW a.ai) {t : Int × Int} (ht : bX t) (h64 : nm t) {n : Int} (n0 : 0 <= n) (n1 : n <= 1000000)
include ok op
theorem Cc:Ev.ix (dt a t n)=(cW a.ai:Int)/\cW a.ai<agy a.ai.aA/\a.ai.be[cW a.ai]! =agE/\agy a.ai.bi=(ga a.ai).bi.length+1:=by
 obtain ⟨h1,h2,h3⟩:=xi ok.so op.1;refine ⟨rfl,h1,?_,?_⟩
 · have:=ok.so.uf (cW a.ai) h1
   cases h:a.ai.be[cW a.ai]! with
   |false=>rfl
   |true=>exact absurd h3 (this.1 h)
 show _=(a.ai.bi.take (agy a.ai.bi-1)).length+1
 have:=op.1
 rw [F0s];omega
theorem IS:A5 (agy a.bv+1) (dt a t n) (fun e=>e∈a.bv) (a.bv++[dt a t n]) a.aq (agy a.bv):=by
 obtain ⟨h1,h2,h3,h4⟩:=Cc (t:=t) (n:=n) ok op;have cell: ∀w,w<agy a.bv->(a.bv++[dt a t n])[w]! =a.bv[w]!:=fun w hw=>ck hw
 refine ⟨by omega,by simp,fun w hw Kw=>?_,by rw [h1];omega,by rw [h1,ok.wl];omega,fun e=>?_⟩
 · have WV:w<(agy a.bv):=by omega
   rw [cell w WV];obtain ⟨c1,c2,c3,c4,c5⟩:=ok.back WV;refine ⟨c1,by rw [ok.wl];exact c2,c5,fun h=>?_⟩
   rw [h1] at h
   have:Ev.n a.bv[w]! =cW a.ai:=by show (Ev.ix a.bv[w]!).toNat=_;omega
   exact ok.IN h3 WV this
 constructor
 · rintro ⟨w,hw,Kw,rfl⟩
   rw [cell w (by omega)]
   exact aW (by omega)
 intro h
 obtain ⟨w,hw,rfl⟩:=aS.1 h;exact ⟨w,by omega,by omega,cell w hw⟩
theorem M7 (ht:bX t):Ord (agy a.bv+1) (a.bv++[dt a t n]) (agy a.bv):=by
 have _:=op;have cell: ∀w,w<agy a.bv->(a.bv++[dt a t n])[w]! =a.bv[w]!:=fun w hw=>ck hw
 refine ⟨fun w hw=>?_,fun k k0 hk k1 k2=>?_,fun i0 k k0 hk hp=>by omega⟩
 · by_cases h:w<agy a.bv
   · rw [cell w h];exact (ok.ev w h).den
   have:w=(agy a.bv):=by omega
   subst this;rw [dB (Do _),ae8];exact ht.1
 rw [cell k (by omega),cell _ (by omega)]
 exact ok.ord k k0 (by omega)
theorem xl (ht:bX t):zD (agy a.bv+1) (dt a t n) (fun e=>e∈a.bv) (fun k=>k≠Ev.n (dt a t n)/\ ∀w,w<agy a.bv+1->w≠agy a.bv->Ev.n (a.bv++[dt a t n])[w]!≠k) (a.bv++[dt a t n]) a.aq (kH a t n).bv (kH a t n).aq:=
 yH (x:=dt a t n) ht.1 (IS ok op) (M7 ok op ht)
theorem Ce (ht:bX t):(kH a t n).bv.length=agy a.bv+1:=by
 have:=(xl (n:=n) ok op ht).hl
 rw [this];simp
theorem M8 (ht:bX t) (e:Ev):e∈(kH a t n).bv↔(e=dt a t n\/e∈a.bv):=by
 have st:=xl (n:=n) ok op ht;rw [aS,Ce ok op ht];exact st.mem e
theorem KC (ht:bX t) (h64:nm t) (n0:0<=n) (n1:n<=1000000):pD (dt a t n):=by
 have _:=ok;have _:=op;exact ⟨ht,h64,n0,n1⟩
theorem Rr (ht:bX t) (h64:nm t) (n0:0<=n) (n1:n<=1000000) (nn: ∀e∈a.bv,Ev.num e≠n):eT (kH a t n):=by
 have st:=xl (n:=n) ok op ht;have len:=Ce (n:=n) ok op ht;obtain ⟨h1,h2,h3,h4⟩:=Cc (t:=t) (n:=n) ok op;have hu:=ok.so.ul;have ul:(ga a.ai).aA.length=(agy a.ai.aA):=v6;have key:=vd (V8 ok.so op) st (by simp) (by rw [ul];exact ok.wl) (by rw [ul];have:=ok.hl;omega) (fun j hj Cy=>by
  rw [ul] at hj;change (a.ai.be.set (cW a.ai) agB)[j]! =agB at Cy;rw [aX] at Cy
  show∃e:Ev,_/\_/\_=(a.ai.aA.set (cW a.ai) (a.ai.aA[cW a.ai]!+1))[j]!
  rw [aX]
  by_cases e:j=cW a.ai
  · rw [pp ⟨e,h2⟩]
    exact ⟨dt a t n,.inl rfl,by rw [h1,e],rfl⟩
  · rw [rc (fun k=>e k.1)]
    rw [rc (fun k=>e k.1)] at Cy
    obtain ⟨w,hw,e1,e2⟩:=ok.EK hj Cy;exact ⟨a.bv[w]!,.inr (aW hw),e1,e2⟩) (fun j hj Cy=>by
  rw [ul] at hj;change (a.ai.be.set (cW a.ai) agB)[j]! =agE at Cy;rw [aX] at Cy
  by_cases e:j=cW a.ai
  · rw [pp ⟨e,by omega⟩] at Cy;cases Cy
  · rw [rc (fun k=>e k.1)] at Cy
    refine ⟨⟨?_,fun w hw Kw=>?_⟩,ok.un j hj Cy⟩
    · show j≠(Ev.ix (dt a t n)).toNat
      omega
    rw [ck (by omega)]
    exact ok.IN Cy (by omega)) (by
  rintro e (rfl|h)
  · exact KC ok op ht h64 n0 n1
  · obtain ⟨w,hw,rfl⟩:=aS.1 h
    exact ok.ev w hw) (by
  rintro e f (rfl|he) (rfl|hf) hn
  · rfl
  · exact absurd hn.symm (nn f hf)
  · exact absurd hn (nn e he)
  obtain ⟨v,hv,rfl⟩:=aS.1 he
  obtain ⟨w,hw,rfl⟩:=aS.1 hf;rw [ok.A7 hv hw hn])
 have:(kH a t n).bv.take (agy a.bv+1)=(kH a t n).bv:=IR (by rw [len];exact Do _)
 show eT ⟨ga a.ai,(kH a t n).bv,(kH a t n).aq⟩;rw [<- this];exact key
theorem GG (ht:bX t) (h64:nm t) (n0:0<=n) (n1:n<=1000000):lY (agy a.bv+1) (a.bv++[dt a t n]) a.aq:=by
 have bd:=ok.bd;obtain ⟨h1,h2,h3,h4⟩:=Cc (t:=t) (n:=n) ok op;refine ⟨by simp,by simp;omega,fun w hw=>?_⟩
 by_cases h:w<agy a.bv
 · rw [ck h];exact ok.cells.ev w h
 have:w=(agy a.bv):=by omega
 subst this;rw [dB (Do _),ae8];exact ⟨KC ok op ht h64 n0 n1,by show 0<=Ev.ix (dt a t n);omega,by show Ev.ix (dt a t n)<_;rw [ok.wl];omega⟩
theorem vX (fit:yJ a) (ht:bX t) (h64:nm t) (n0:0<=n) (n1:n<=1000000) (nn: ∀e∈a.bv,Ev.num e≠n):ke a t n=agz (kH a t n,kG a.ai,0):=by
 have bd:=ok.bd;obtain ⟨h1,h2,h3,h4⟩:=Cc (t:=t) (n:=n) ok op;have hn: ¬ ∃w,w<agy a.bv/\(a.bv[w]!).2.2.1=n:=by
  rintro ⟨w,hw,e⟩;exact nn _ (aW hw) e
 unfold ke;rw [kT a fit,pp ok,ff h64,pp ht,IQ _ _ (by omega),aC hn,B' ok.so,pp op]
 have se:=Gx (u:=(ga a.ai).aA) (us:=(ga a.ai).be) (fr:=(ga a.ai).bi) (KC ok op ht h64 n0 n1) (show 0<=Ev.ix (dt a t n) by omega) (GG ok op ht h64 n0 n1) (by simp) (show (agy a.bv)<agy a.bv+1 by omega) (show Ev.ix (dt a t n)<(agy a.aq) by rw [ok.wl];omega)
 have e1:aa .i64 (((a.bv++[dt a t n]).length:Int) -1)=((agy a.bv):Int):=by rw [wi,ae1];simp;omega
 have ap:bo a.bv [(t.1,t.2,n,kG a.ai)]=agz (a.bv++[dt a t n]):=bR (by simp;omega)
 have se':eU ((ga a.ai).aA,(ga a.ai).be,(ga a.ai).bi,((agy a.bv):Int),t.1,t.2,n,(kG a.ai).1,(kG a.ai).2,a.bv++[dt a t n],a.aq)=agz (cK (agy a.bv+1) (dt a t n) (agy a.bv) (a.bv++[dt a t n]) a.aq):=se
 simp only [aj,gt_iff_lt,afb,if_false,show ((0:Int) !=0)=agE from rfl,ol,aC (show¬n<0 by omega),aC (show¬1000000<n by omega),ba (show (agy a.bv)<=1048576 by omega),ba (show (agy a.aq)<=1048576 by omega),ap,az,e1,se']
 rfl
theorem xL (ht:bX t) (h64:nm t) (n0:0<=n) (n1:n<=1000000):eJ a t n=agz (kH a t n,kG a.ai):=by
 have bd:=ok.bd;obtain ⟨h1,h2,h3,h4⟩:=Cc (t:=t) (n:=n) ok op;unfold eJ;rw [qd ok];have e1:aa .i64 (((a.bv++[dt a t n]).length:Int) -1)=((agy a.bv):Int):=by rw [wi,ae1];simp;omega
 have ap:bo a.bv [(t.1,t.2,n,kG a.ai)]=agz (a.bv++[dt a t n]):=bR (by simp;omega)
 have hx:=KC (n:=n) ok op ht h64 n0 n1;have last:cK (agy a.bv+1) (dt a t n) (agy a.bv) (a.bv++[dt a t n]) a.aq=_:=MZ (x:=dt a t n) ht.1 (IS ok op) (M7 ok op ht) (fun k k0 hk hp=>by omega)
 have hs:(a.bv++[dt a t n]).set (agy a.bv) (dt a t n)=a.bv++[dt a t n]:=eX (by rw [dB (Do _),ae8];rfl)
 have ws:cj a.aq (kG a.ai).1 ((agy a.bv):Int)=a.aq.set (Ev.n (dt a t n)) ((agy a.bv):Int):=rfl
 have u1:oy ((ga a.ai).aA,(ga a.ai).be,(ga a.ai).bi,((agy a.bv):Int),a.bv++[dt a t n],a.aq.set (Ev.n (dt a t n)) ((agy a.bv):Int))=agz (((iD (dt a t n) (agy a.bv) (a.bv++[dt a t n]) a.aq).1:Int),(iD (dt a t n) (agy a.bv) (a.bv++[dt a t n]) a.aq).2.1.set (iD (dt a t n) (agy a.bv) (a.bv++[dt a t n]) a.aq).1 (dt a t n),(iD (dt a t n) (agy a.bv) (a.bv++[dt a t n]) a.aq).2.2.set (Ev.n (dt a t n)) ((iD (dt a t n) (agy a.bv) (a.bv++[dt a t n]) a.aq).1:Int)):=by
  unfold oy
  have:=Wd (c0:=((ga a.ai).aA,(ga a.ai).be,(ga a.ai).bi,((agy a.bv):Int),a.bv++[dt a t n],a.aq.set (Ev.n (dt a t n)) ((agy a.bv):Int))) (u:=(ga a.ai).aA) (us:=(ga a.ai).be) (fr:=(ga a.ai).bi) hx (show 0<=Ev.ix (dt a t n) by omega) (agy a.bv) (a.bv++[dt a t n]) a.aq (GG ok op ht h64 n0 n1) (by omega) (by simp) (by rw [ok.wl];omega) rfl v6
  rw [hs] at this;exact this
 have g1:aJ a.aq (kG a.ai).1=agz a.aq[cW a.ai]!:=ar a.aq (cW a.ai) (by rw [ok.wl];exact h2)
 simp only [aj,Gs ok.so op,ap,g1,az,e1,ws,u1];unfold kH;rw [last]
end
theorem vY {a:aL} (ok:eT a) (op: ¬vW a.ai) (fit:yJ a) {t:Int×Int} (ht:bX t) (h64:nm t) {n:Int} (n0:0<=n) (n1:n<=1000000) (nn: ∀e∈a.bv,Ev.num e≠n):ke a t n=agz (⟨⟨[],[],[]⟩,[],[]⟩,(0,0),18):=by
 have bd:=ok.bd;have hn: ¬ ∃w,w<agy a.bv/\(a.bv[w]!).2.2.1=n:=by
  rintro ⟨w,hw,e⟩;exact nn _ (aW hw) e
 unfold ke;rw [kT a fit,pp ok,ff h64,pp ht,IQ _ _ (by omega),aC hn,B' ok.so,rc op]
 simp only [aj,gt_iff_lt,afb,if_false,show ((0:Int) !=0)=agE from rfl,ol,aC (show¬n<0 by omega),aC (show¬1000000<n by omega),show ((18:Int) !=0)=agB from rfl,lw]
theorem uE {l:List Ev} {n i:Nat} {v:Ev}:(l.set i v).take n=(l.take n).set i v:=by
 apply List.ext_getElem?;intro j;rw [afe,afx,afx,afe,F0s]
 by_cases h1:j<n
 · rw [pp h1]
   by_cases h2:i=j
   · subst h2
     by_cases h3:i<agy l
     · rw [pp rfl,pp h3,pp rfl,pp (by omega)]
     rw [pp rfl,rc h3,pp rfl,rc (by omega)]
   rw [rc h2,rc h2,pp h1]
 rw [rc h1]
 by_cases h2:i=j
 · rw [pp h2,rc (by omega)]
 rw [rc h2,rc h1]
theorem M9 {n:Nat} {x:Ev}: ∀(i:Nat) (H:List Ev) (W:List Int),i<n->iD x i (H.take n) W=((iD x i H W).1,(iD x i H W).2.1.take n,(iD x i H W).2.2)
 |0,H,W,hi=>by rw [iD,iD]
 |i+1,H,W,hi=>by
  have e:(H.take n)[i / 2]! =H[i / 2]!:=iO (by omega)
  rw [iD,iD,e]
  by_cases h:less x H[i / 2]!
  · rw [pp h,pp h,<- uE]
    exact M9 (i / 2) _ _ (by omega)
  rw [rc h,rc h]
termination_by i=>i
decreasing_by omega
theorem Wg {x:Ev}: ∀(i:Nat) (H:List Ev) (W:List Int),(iD x i H W).1<=i
 |0,H,W=>by rw [iD];exact Do _
 |i+1,H,W=>by
  rw [iD];split
  · exact agj (Wg (i / 2) _ _) (by omega)
  exact Do _
termination_by i=>i
decreasing_by omega
theorem GH {n:Nat} {H:List Ev} {i:Nat} (hk:2*i+1<n):gN n (H.take n) i=gN n H i:=by
 unfold gN
 by_cases h:2*i+2<n
 · rw [iO h,iO (show 2*i+1<n by omega)]
 rw [rc (fun k=>h k.1),rc (fun k=>h k.1)]
theorem M' {n:Nat} {x:Ev} {i:Nat} {H:List Ev} {W:List Int} (h:2*i+1<n) (hl:less H[gN n H i]! x):dP n x i H W=dP n x (gN n H i) (H.set i H[gN n H i]!) (W.set (H[gN n H i]!).n (i:Int)):=by
 rw [dP,dif_pos h,pp hl]
theorem xm {n:Nat} {x:Ev} {i:Nat} {H:List Ev} {W:List Int} (h: ¬(2*i+1<n/\less H[gN n H i]! x)):dP n x i H W=(i,H,W):=by
 rw [dP];split
 · rename_i h1;rw [rc (fun k=>h ⟨h1,k⟩)]
 rfl
theorem GI {n : Nat} {x : Ev} : ∀ (d i : Nat) (H : List Ev) (W : List Int), n - i <= d -> dP n x i (H.take n) W = ((dP n x i H W).1, (dP n x i H W).2.1.take n, (dP n x i H W).2.2)
  | 0, i, H, W, hd => by
    rw [xm (fun h => by omega), xm (fun h => by omega)]
  | d + 1, i, H, W, hd => by
    have kc := nO n H i
    by_cases h : 2 * i + 1 < n /\ less H[gN n H i]! x
    · have e : (H.take n)[gN n (H.take n) i]! = H[gN n H i]! := by rw [GH h.1, iO (by omega)]
      rw [M' h.1 h.2, M' (H := H.take n) h.1 (by rw [e]; exact h.2), e, GH h.1, <- uE]
      exact GI d _ _ _ (by omega)
    have h' : ¬ (2 * i + 1 < n /\ less (H.take n)[gN n (H.take n) i]! x) := by
      rintro ⟨k1, k2⟩
      rw [GH k1, iO (by omega)] at k2
      exact h ⟨k1, k2⟩
    rw [xm h, xm h']
theorem Rs {x:Ev}: ∀(i:Nat) (H:List Ev) (W:List Int),(iD x i H W).2.1.length=agy H/\(iD x i H W).2.2.length=agy W
 |0,H,W=>by rw [iD];exact ⟨rfl,rfl⟩
 |i+1,H,W=>by
  rw [iD];split
  · have:=Rs (x:=x) (i / 2) (H.set (i+1) H[i / 2]!) (W.set (H[i / 2]!).n ((i+1:Nat):Int))
    rwa [v6,v6] at this
  exact ⟨rfl,rfl⟩
termination_by i=>i
decreasing_by omega
theorem Cf {n:Nat} {x:Ev} {i:Nat} {H:List Ev} {W:List Int} (hi:i<n):cK n x i (H.take n) W=((cK n x i H W).1.take n,(cK n x i H W).2):=by
 unfold cK;rw [M9 i H W hi];dsimp only;rw [GI n _ _ _ (by omega)]
 dsimp only;rw [uE]
noncomputable def dK (a:aL) (i:Nat):aL:=
 if i<agy a.bv-1 then ⟨fy a.ai (a.bv[i]!).2.2.2,(cK (agy a.bv-1) a.bv[agy a.bv-1]! i a.bv (a.aq.set (Ev.n a.bv[i]!) (-1))).1.take (agy a.bv-1),(cK (agy a.bv-1) a.bv[agy a.bv-1]! i a.bv (a.aq.set (Ev.n a.bv[i]!) (-1))).2⟩
 else ⟨fy a.ai (a.bv[i]!).2.2.2,a.bv.take (agy a.bv-1),a.aq.set (Ev.n a.bv[i]!) (-1)⟩
section
variable {a : aL} (ok : eT a) {i : Nat} (hi : i < (agy a.bv))
include ok hi
theorem vZ {w:Nat} (hw:w<agy a.bv) (ec:w≠i):Ev.n a.bv[w]!≠Ev.n a.bv[i]!:=by
 have h1:=(ok.back hw).1;have h2:=(ok.back hi).1;exact aqJ h1 h2 fun h=>ec (ok.inj hw hi h)
theorem IT:lY (agy a.bv-1) a.bv (a.aq.set (Ev.n a.bv[i]!) (-1)):=by
 have c:=ok.cells;refine ⟨by omega,c.hb,fun w hw=>?_⟩
 rw [v6];exact c.ev w (by omega)
theorem Wh (dM:i<agy a.bv-1):A5 (agy a.bv-1) a.bv[agy a.bv-1]! (fun e=> ∃w,w<agy a.bv-1/\w≠i/\a.bv[w]! =e) a.bv (a.aq.set (Ev.n a.bv[i]!) (-1)) i:=by
 obtain ⟨b1,b2,b3,b4,b5⟩:=ok.back (show (agy a.bv)-1<(agy a.bv) by omega)
 refine ⟨dM,by omega,fun w hw Kw=>?_,b1,by rw [v6,ok.wl];exact b2,fun e=>ae5⟩
 obtain ⟨c1,c2,c3,c4,c5⟩:=ok.back (show w<(agy a.bv) by omega)
 refine ⟨c1,by rw [v6,ok.wl];exact c2,?_,fun h=>?_⟩
 · rw [aX,rc (fun h=>vZ ok hi (show w<(agy a.bv) by omega) Kw h.1)]
   exact c5
 have:=ok.inj (show w<(agy a.bv) by omega) (show (agy a.bv)-1<(agy a.bv) by omega) h
 omega
theorem aeC:Ord (agy a.bv-1) a.bv i:=
 ⟨fun w hw=>(ok.ev w (by omega)).den,fun k k0 hk _ _=>ok.ord k k0 (by omega),fun i0 k k0 hk hp=>ok.MY i0 k0 (by omega) hp⟩
theorem D2 (dM:i<agy a.bv-1):
 zD (agy a.bv-1) a.bv[agy a.bv-1]! (fun e=> ∃w,w<agy a.bv-1/\w≠i/\a.bv[w]! =e) (fun k=>k≠Ev.n a.bv[agy a.bv-1]!/\ ∀w,w<agy a.bv-1->w≠i->Ev.n a.bv[w]!≠k) a.bv (a.aq.set (Ev.n a.bv[i]!) (-1))
  (cK (agy a.bv-1) a.bv[agy a.bv-1]! i a.bv (a.aq.set (Ev.n a.bv[i]!) (-1))).1 (cK (agy a.bv-1) a.bv[agy a.bv-1]! i a.bv (a.aq.set (Ev.n a.bv[i]!) (-1))).2:=
 yH (ok.ev (agy a.bv-1) (by omega)).den (Wh ok hi dM) (aeC ok hi)
theorem IU:eO (fy a.ai (a.bv[i]!).2.2.2):=V7 ok.so (ok.handle hi).1
theorem yL {j:Nat} (hj:j<agy a.ai.aA):(fy a.ai (a.bv[i]!).2.2.2).be[j]! =if j=Ev.n a.bv[i]! then agE else a.ai.be[j]!:=by
 have _:=hi;show (a.ai.be.set (Ev.n a.bv[i]!) agE)[j]! =_;rw [aX]
 have:=ok.so.ul
 by_cases e:j=Ev.n a.bv[i]!
 · rw [pp ⟨e,by omega⟩,pp e]
 rw [rc (fun k=>e k.1),rc e]
theorem Dp:eT (dK a i):=by
 have hb:=ok.back hi;have hl:(agy a.bv)-1+(fy a.ai (a.bv[i]!).2.2.2).bi.length=(agy a.ai.aA):=by
  show (agy a.bv)-1+(a.ai.bi++[_]).length=_;rw [ae1]
  have:=ok.hl
  simp only [afy,afJ];omega
 have un: ∀j,j<agy a.ai.aA->(fy a.ai (a.bv[i]!).2.2.2).be[j]! =agE->(a.aq.set (Ev.n a.bv[i]!) (-1))[j]! = -1:=by
  intro j hj hu;rw [yL ok hi hj] at hu;rw [aX]
  by_cases e:j=Ev.n a.bv[i]!
  · rw [pp ⟨e.symm▸rfl,by rw [ok.wl];omega⟩]
  rw [rc e] at hu
  rw [rc (fun k=>e k.1)]
  exact ok.un j hj hu
 unfold dK
 by_cases dM:i<agy a.bv-1
 · rw [pp dM]
   have st:=D2 ok hi dM;refine vd (IU ok hi) st (by omega) (by rw [v6];exact ok.wl) hl (fun j hj hu=>?_) (fun j hj hu=>⟨⟨?_,fun w hw Kw=>?_⟩,un j hj hu⟩) ?_ ?_
   · change j<(agy a.ai.aA) at hj
     rw [yL ok hi hj] at hu
     by_cases e:j=Ev.n a.bv[i]!
     · rw [pp e] at hu;cases hu
     rw [rc e] at hu
     obtain ⟨w,hw,e1,e2⟩:=ok.EK hj hu;refine ⟨a.bv[w]!,?_,e1,e2⟩
     by_cases mC:w=agy a.bv-1
     · left;rw [mC]
     refine .inr ⟨w,by omega,fun h=>e ?_,rfl⟩
     rw [<- h];show j=(Ev.ix a.bv[w]!).toNat;omega
   · change j<(agy a.ai.aA) at hj
     rw [yL ok hi hj] at hu
     by_cases e:j=Ev.n a.bv[i]!
     · rw [e];exact (vZ ok hi (by omega) (by omega)).symm
     rw [rc e] at hu
     exact (ok.IN hu (by omega)).symm
   · change j<(agy a.ai.aA) at hj
     rw [yL ok hi hj] at hu
     by_cases e:j=Ev.n a.bv[i]!
     · rw [e];exact vZ ok hi (by omega) Kw
     rw [rc e] at hu
     exact ok.IN hu (by omega)
   · rintro e (rfl|⟨w,hw,_,rfl⟩)
     · exact ok.ev _ (by omega)
     exact ok.ev w (by omega)
   rintro e f (rfl|⟨v,hv,hvi,rfl⟩) (rfl|⟨w,hw,Kw,rfl⟩) he
   · rfl
   · rw [ok.A7 (by omega) (by omega) he]
   · rw [ok.A7 (by omega) (by omega) he]
   rw [ok.A7 (by omega) (by omega) he]
 rw [rc dM]
 have hie:i=agy a.bv-1:=by omega
 refine afS (IU ok hi) (fun e=> ∃w,w<agy a.bv-1/\a.bv[w]! =e) (by omega) (by rw [v6];exact ok.wl) hl (fun w hw=>?_) (fun e=>ae5) (fun k k0 hk=>ok.ord k k0 (by omega)) (fun j hj hu=>?_) un ?_ ?_
 · obtain ⟨c1,c2,c3,c4,c5⟩:=ok.back (show w<(agy a.bv) by omega)
   refine ⟨c1,by rw [v6,ok.wl];exact c2,?_⟩
   rw [aX,rc (fun h=>vZ ok hi (show w<(agy a.bv) by omega) (by omega) h.1)]
   exact c5
 · change j<(agy a.ai.aA) at hj
   rw [yL ok hi hj] at hu
   by_cases e:j=Ev.n a.bv[i]!
   · rw [pp e] at hu;cases hu
   rw [rc e] at hu
   obtain ⟨w,hw,e1,e2⟩:=ok.EK hj hu;refine ⟨a.bv[w]!,⟨w,?_,rfl⟩,e1,e2⟩
   have:w≠i:=fun h=>e (by rw [<- h];show j=(Ev.ix a.bv[w]!).toNat;omega)
   omega
 · rintro e ⟨w,hw,rfl⟩
   exact ok.ev w (by omega)
 rintro e f ⟨v,hv,rfl⟩ ⟨w,hw,rfl⟩ he
 rw [ok.A7 (by omega) (by omega) he]
theorem GJ (e:Ev):e∈(dK a i).bv↔(e∈a.bv/\e≠a.bv[i]!):=by
 have other: ∀w,w<agy a.bv->(a.bv[w]!≠a.bv[i]!↔w≠i):=fun w hw=>⟨fun h k=>h (by rw [k]),fun h k=>h (ok.inj hw hi (by rw [k]))⟩
 unfold dK
 by_cases dM:i<agy a.bv-1
 · rw [pp dM]
   have st:=D2 ok hi dM;show e∈(_:List Ev).take _↔_;rw [Al (by rw [st.hl];omega)]
   refine (st.mem e).trans ?_;constructor
   · rintro (h|⟨w,hw,Kw,rfl⟩)
     · rw [h];exact ⟨aW (by omega),(other _ (by omega)).2 (by omega)⟩
     exact ⟨aW (by omega),(other _ (by omega)).2 Kw⟩
   rintro ⟨h,ec⟩
   obtain ⟨w,hw,rfl⟩:=aS.1 h
   by_cases c:w=agy a.bv-1
   · left;rw [c]
   exact .inr ⟨w,by omega,(other w hw).1 ec,rfl⟩
 rw [rc dM]
 show e∈a.bv.take _↔_;rw [Al (by omega)]
 constructor
 · rintro ⟨w,hw,rfl⟩
   exact ⟨aW (by omega),(other _ (by omega)).2 (by omega)⟩
 rintro ⟨h,ec⟩
 obtain ⟨w,hw,rfl⟩:=aS.1 h
 have:=(other w hw).1 ec
 exact ⟨w,by omega,rfl⟩
theorem Dq:p5 a (i:Int)=agz (dK a i,a.bv[i]!,0):=by
 have bd:=ok.bd;obtain ⟨b1,b2,b3,b4,b5⟩:=ok.back hi;obtain ⟨c1,c2,c3,c4,c5⟩:=ok.back (show (agy a.bv)-1<(agy a.bv) by omega)
 unfold p5;have e1:aa .i64 (((agy a.bv):Int) -1)=((agy a.bv-1:Nat):Int):=mV (by omega) (by omega)
 have g1:aJ a.aq (a.bv[i]!).2.2.2.1=agz a.aq[(a.bv[i]!).2.2.2.1.toNat]!:=dJ b1 (by rw [ok.wl];exact b2)
 have ws:cj a.aq (a.bv[i]!).2.2.2.1 (-1)=a.aq.set (Ev.n a.bv[i]!) (-1):=rfl
 simp only [ar a.bv i hi,aj,Ku ok.so (ok.handle hi).1,show ((0:Int) !=0)=agE from rfl,ol,ba (show (agy a.bv)<=1048576 by omega),ba (show (agy a.aq)<=1048576 by omega),az,e1,ar a.bv (agy a.bv-1) (by omega),jR a.bv (agy a.bv-1) (by omega),g1,ws,AC]
 unfold dK
 by_cases dM:i<agy a.bv-1
 · rw [aE (by omega),pp dM]
   have se:=Pw (cap:=agy a.bv) (u:=(fy a.ai (a.bv[i]!).2.2.2).aA) (us:=(fy a.ai (a.bv[i]!).2.2.2).be) (fr:=(fy a.ai (a.bv[i]!).2.2.2).bi) (ok.ev (agy a.bv-1) (by omega)) (show 0<=Ev.ix a.bv[agy a.bv-1]! from c1) (IT ok hi) dM (show Ev.ix a.bv[agy a.bv-1]!<_ by rw [v6,ok.wl];exact c2)
   rw [se];rfl
 rw [aC (by omega),rc dM]
 rfl
theorem pF (fit:yJ a) {h:Int×Int} (hh:(a.bv[i]!).2.2.2=h):kY a h=agz (dK a i,a.bv[i]!,0):=by
 unfold kY;rw [M6 ok fit hi hh];simp only [aj,show ((0:Int) !=0)=agE from rfl,ol,Dq ok hi]
theorem v7 {h:Int×Int} (hh:(a.bv[i]!).2.2.2=h):jf a h=agz (dK a i):=by
 have bd:=ok.bd;subst hh;obtain ⟨b1,b2,b3,b4,b5⟩:=ok.back hi;obtain ⟨c1,c2,c3,c4,c5⟩:=ok.back (show (agy a.bv)-1<(agy a.bv) by omega)
 unfold jf;rw [qd ok];have e1:aa .i64 (((agy a.bv):Int) -1)=((agy a.bv-1:Nat):Int):=mV (by omega) (by omega)
 have g1:aJ a.aq (a.bv[i]!).2.2.2.1=agz (i:Int):=by
  rw [dJ (l:=a.aq) b1 (by rw [ok.wl];exact b2)]
  exact congrArg agz b5
 have gv:=Gr ok.so (ok.handle hi).1;simp only [aj,g1,az,e1,AC];unfold dK
 by_cases dM:i<agy a.bv-1
 · rw [cz (show (i:Int)≠((agy a.bv-1:Nat):Int) by omega),pp dM]
   have ec:(agy a.bv)-1≠i:=by omega
   have nn:Ev.n a.bv[agy a.bv-1]!≠Ev.n a.bv[i]!:=vZ ok hi (by omega) ec
   have sw:=Cb (n:=agy a.bv) (x:=a.bv[i]!) (u:=a.ai.aA) (us:=a.ai.be) (fr:=a.ai.bi) (H:=a.bv) (W:=a.aq) hi (show (agy a.bv)-1<(agy a.bv) by omega) ec rfl b1 (by rw [ok.wl];exact b2) c1 (by rw [ok.wl];exact c2)
   rw [eX (l:=a.bv) rfl,eX (l:=a.aq) b5] at sw;have hs:(a.bv.set i a.bv[agy a.bv-1]!).set (agy a.bv-1) a.bv[i]! =(a.bv.set (agy a.bv-1) a.bv[i]!).set i a.bv[agy a.bv-1]!:=afZ _ _ (by omega)
   have ws:cj ((a.aq.set (Ev.n a.bv[agy a.bv-1]!) (i:Int)).set (Ev.n a.bv[i]!) ((agy a.bv-1:Nat):Int)) (a.bv[i]!).2.2.2.1 (-1)=(a.aq.set (Ev.n a.bv[i]!) (-1)).set (Ev.n a.bv[agy a.bv-1]!) (i:Int):=by
    show ((a.aq.set (Ev.n a.bv[agy a.bv-1]!) (i:Int)).set (Ev.n a.bv[i]!) ((agy a.bv-1:Nat):Int)).set (Ev.n a.bv[i]!) (-1)=_;rw [List.set_set,afZ _ _ nn]
   have g2:aJ ((a.aq.set (Ev.n a.bv[agy a.bv-1]!) (i:Int)).set (Ev.n a.bv[i]!) ((agy a.bv-1:Nat):Int)) (a.bv[i]!).2.2.2.1=agz _:=dJ b1 (by rw [v6,v6,ok.wl];exact b2)
   have cells:lY (agy a.bv-1) (a.bv.set (agy a.bv-1) a.bv[i]!) (a.aq.set (Ev.n a.bv[i]!) (-1)):=by
    refine ⟨by rw [v6];omega,by rw [v6];omega,fun w hw=>?_⟩
    rw [aX,rc (by omega)]
    exact (IT ok hi).ev w hw
   have x1:Ev.ix a.bv[agy a.bv-1]!<(a.aq.set (Ev.n a.bv[i]!) (-1)).length:=by rw [v6,ok.wl];exact c2
   have hx:=ok.ev (agy a.bv-1) (by omega)
   have gv':nK (bg.mk a.ai.aA a.ai.be a.ai.bi) (a.bv[i]!).2.2.2=agz (fy a.ai (a.bv[i]!).2.2.2):=gv;have tk:(a.bv.set (agy a.bv-1) a.bv[i]!).take (agy a.bv-1)=a.bv.take (agy a.bv-1):=by rw [uE];exact ae3 (by rw [F0s];omega)
   have U:lL ((fy a.ai (a.bv[i]!).2.2.2).aA,(fy a.ai (a.bv[i]!).2.2.2).be,(fy a.ai (a.bv[i]!).2.2.2).bi,agy a.bv-1,((a.bv.set (agy a.bv-1) a.bv[i]!).set i a.bv[agy a.bv-1]!).length,(i:Int),(a.bv.set (agy a.bv-1) a.bv[i]!).set i a.bv[agy a.bv-1]!,(a.aq.set (Ev.n a.bv[i]!) (-1)).set (Ev.n a.bv[agy a.bv-1]!) (i:Int))=
    agz (((iD a.bv[agy a.bv-1]! i (a.bv.set (agy a.bv-1) a.bv[i]!) (a.aq.set (Ev.n a.bv[i]!) (-1))).1:Int),(iD a.bv[agy a.bv-1]! i (a.bv.set (agy a.bv-1) a.bv[i]!) (a.aq.set (Ev.n a.bv[i]!) (-1))).2.1.set (iD a.bv[agy a.bv-1]! i (a.bv.set (agy a.bv-1) a.bv[i]!) (a.aq.set (Ev.n a.bv[i]!) (-1))).1 a.bv[agy a.bv-1]!,(iD a.bv[agy a.bv-1]! i (a.bv.set (agy a.bv-1) a.bv[i]!) (a.aq.set (Ev.n a.bv[i]!) (-1))).2.2.set (Ev.n a.bv[agy a.bv-1]!) ((iD a.bv[agy a.bv-1]! i (a.bv.set (agy a.bv-1) a.bv[i]!) (a.aq.set (Ev.n a.bv[i]!) (-1))).1:Int)):=by
    unfold lL
    exact V' (n:=agy a.bv-1) (c0:=((fy a.ai (a.bv[i]!).2.2.2).aA,(fy a.ai (a.bv[i]!).2.2.2).be,(fy a.ai (a.bv[i]!).2.2.2).bi,agy a.bv-1,((a.bv.set (agy a.bv-1) a.bv[i]!).set i a.bv[agy a.bv-1]!).length,(i:Int),(a.bv.set (agy a.bv-1) a.bv[i]!).set i a.bv[agy a.bv-1]!,(a.aq.set (Ev.n a.bv[i]!) (-1)).set (Ev.n a.bv[agy a.bv-1]!) (i:Int))) hx c1 i _ _ cells dM x1 v6 v6
   have ul:=Wg (x:=a.bv[agy a.bv-1]!) i (a.bv.set (agy a.bv-1) a.bv[i]!) (a.aq.set (Ev.n a.bv[i]!) (-1));have un:=Rs (x:=a.bv[agy a.bv-1]!) i (a.bv.set (agy a.bv-1) a.bv[i]!) (a.aq.set (Ev.n a.bv[i]!) (-1));have uc:=fun w hw=>yI (x:=a.bv[agy a.bv-1]!) cells dM (i:=i) rfl w hw
   have Pz:lY (agy a.bv-1) (iD a.bv[agy a.bv-1]! i (a.bv.set (agy a.bv-1) a.bv[i]!) (a.aq.set (Ev.n a.bv[i]!) (-1))).2.1 (iD a.bv[agy a.bv-1]! i (a.bv.set (agy a.bv-1) a.bv[i]!) (a.aq.set (Ev.n a.bv[i]!) (-1))).2.2:=by
    refine ⟨by rw [un.1,v6];omega,by rw [un.1,v6];omega,fun w hw=>?_⟩
    rw [un.2];exact uc w hw
   have D:jI ((fy a.ai (a.bv[i]!).2.2.2).aA,(fy a.ai (a.bv[i]!).2.2.2).be,(fy a.ai (a.bv[i]!).2.2.2).bi,agy a.bv-1,((a.bv.set (agy a.bv-1) a.bv[i]!).set i a.bv[agy a.bv-1]!).length,((iD a.bv[agy a.bv-1]! i (a.bv.set (agy a.bv-1) a.bv[i]!) (a.aq.set (Ev.n a.bv[i]!) (-1))).1:Int),(iD a.bv[agy a.bv-1]! i (a.bv.set (agy a.bv-1) a.bv[i]!) (a.aq.set (Ev.n a.bv[i]!) (-1))).2.1.set (iD a.bv[agy a.bv-1]! i (a.bv.set (agy a.bv-1) a.bv[i]!) (a.aq.set (Ev.n a.bv[i]!) (-1))).1 a.bv[agy a.bv-1]!,(iD a.bv[agy a.bv-1]! i (a.bv.set (agy a.bv-1) a.bv[i]!) (a.aq.set (Ev.n a.bv[i]!) (-1))).2.2.set (Ev.n a.bv[agy a.bv-1]!) ((iD a.bv[agy a.bv-1]! i (a.bv.set (agy a.bv-1) a.bv[i]!) (a.aq.set (Ev.n a.bv[i]!) (-1))).1:Int))=
    agz (cK (agy a.bv-1) a.bv[agy a.bv-1]! i (a.bv.set (agy a.bv-1) a.bv[i]!) (a.aq.set (Ev.n a.bv[i]!) (-1))):=by
    unfold jI
    exact M0 (n:=agy a.bv-1) (c0:=((fy a.ai (a.bv[i]!).2.2.2).aA,(fy a.ai (a.bv[i]!).2.2.2).be,(fy a.ai (a.bv[i]!).2.2.2).bi,agy a.bv-1,((a.bv.set (agy a.bv-1) a.bv[i]!).set i a.bv[agy a.bv-1]!).length,((iD a.bv[agy a.bv-1]! i (a.bv.set (agy a.bv-1) a.bv[i]!) (a.aq.set (Ev.n a.bv[i]!) (-1))).1:Int),(iD a.bv[agy a.bv-1]! i (a.bv.set (agy a.bv-1) a.bv[i]!) (a.aq.set (Ev.n a.bv[i]!) (-1))).2.1.set (iD a.bv[agy a.bv-1]! i (a.bv.set (agy a.bv-1) a.bv[i]!) (a.aq.set (Ev.n a.bv[i]!) (-1))).1 a.bv[agy a.bv-1]!,(iD a.bv[agy a.bv-1]! i (a.bv.set (agy a.bv-1) a.bv[i]!) (a.aq.set (Ev.n a.bv[i]!) (-1))).2.2.set (Ev.n a.bv[agy a.bv-1]!) ((iD a.bv[agy a.bv-1]! i (a.bv.set (agy a.bv-1) a.bv[i]!) (a.aq.set (Ev.n a.bv[i]!) (-1))).1:Int))) hx c1 (agy a.bv) (iD a.bv[agy a.bv-1]! i (a.bv.set (agy a.bv-1) a.bv[i]!) (a.aq.set (Ev.n a.bv[i]!) (-1))).1 (iD a.bv[agy a.bv-1]! i (a.bv.set (agy a.bv-1) a.bv[i]!) (a.aq.set (Ev.n a.bv[i]!) (-1))).2.1 (iD a.bv[agy a.bv-1]! i (a.bv.set (agy a.bv-1) a.bv[i]!) (a.aq.set (Ev.n a.bv[i]!) (-1))).2.2 (by omega) Pz (by omega) (by rw [un.2];exact x1) v6 v6
   have st:=Cf (n:=(agy a.bv-1)) (x:=a.bv[agy a.bv-1]!) (i:=i) (H:=(a.bv.set (agy a.bv-1) a.bv[i]!)) (W:=(a.aq.set (Ev.n a.bv[i]!) (-1))) dM;have D':=Cf (n:=(agy a.bv-1)) (x:=a.bv[agy a.bv-1]!) (i:=i) (H:=a.bv) (W:=(a.aq.set (Ev.n a.bv[i]!) (-1))) dM;rw [tk,D'] at st;injection st with ob OI
   simp only [lw,sw,aj,jR _ (agy a.bv-1) (show (agy a.bv)-1<=((a.bv.set (agy a.bv-1) a.bv[i]!).set i a.bv[agy a.bv-1]!).length by rw [v6,v6];omega),g2,gv',ws,hs,U,D,<- ob,<- OI]
 rw [bu (show (i:Int)=((agy a.bv-1:Nat):Int) by omega),rc dM]
 have ws:cj a.aq (a.bv[i]!).2.2.2.1 (-1)=a.aq.set (Ev.n a.bv[i]!) (-1):=rfl;simp only [ol,jR a.bv (agy a.bv-1) (by omega),aj,gv,ws]
end
abbrev ry:=Int×Int×Int
theorem eT.fit {a:aL} (ok:eT a):yJ a:=by
 have bd:=ok.bd
 have:=ok.so.fl
 have:=ok.so.n2
 exact ⟨by omega,by omega,by omega,fun w hw=>(ok.ev w hw).2.1⟩
theorem qe (l:List ry) (id:Int) (hl:(agy l)<=1000000) (hs: ∀i j,i<j->j<agy l->(l[i]!).1<(l[j]!).1):
 (∀k,k<agy l->(l[k]!).1=id->aQ l id ()=agz ((k:Int),agB))/\
 ((∀k,k<agy l->(l[k]!).1≠id)-> ∃m,m<=agy l/\(∀i,i<m->(l[i]!).1<id)/\(∀i,m<=i->i<agy l->id<(l[i]!).1)/\aQ l id ()=agz ((m:Int),agE)):=by
 obtain ⟨m,m1,m2,m3⟩:=MX (fun i=>(l[i]!).1) id (agy l) hs
 have run:aQ l id ()=ay aR (l,id,((agy l):Int),(m:Int),(m:Int)):=by
  unfold aQ;refine Dj (body:=aR) (fun lo hi=>(l,id,((agy l):Int),(lo:Int),(hi:Int))) (agy l) m (fun i=>(l[i]!).1<id) (fun lo hi h1 h2=>?_) m2 (fun i h1 h2 h3=>by have:=m3 i h1 h2;omega) (agy l) 0 (agy l) (by omega) (by omega) m1 (Do _)
  have e1:agG ((lo:Int)<(hi:Int))=agB:=aE (by omega)
  have hh:=aex (a:=lo) (b:=hi) (by omega) (by omega)
  unfold aR qL;simp only [e1,lw,hh,ar l ((lo+hi) / 2) (by omega),jQ,aj,aT (show (lo+hi) / 2<1000000000 by omega)]
  constructor
  · intro h
    have:agG (js (l[(lo+hi) / 2]!).1 id<0)=agB:=by
     rcases fw (l[(lo+hi) / 2]!).1 id with ⟨a,e⟩|⟨a,e⟩|⟨a,e⟩<;>rw [e]<;>first|rfl|omega
    rw [this];rfl
  intro h
  have:agG (js (l[(lo+hi) / 2]!).1 id<0)=agE:=by
   rcases fw (l[(lo+hi) / 2]!).1 id with ⟨a,e⟩|⟨a,e⟩|⟨a,e⟩<;>rw [e]<;>first|rfl|omega
  rw [this];rfl
 have fin:ay aR (l,id,((agy l):Int),(m:Int),(m:Int))=if m<agy l/\(l[m]!).1=id then agz ((m:Int),agB) else agz ((m:Int),agE):=by
  have e1:agG ((m:Int)<(m:Int))=agE:=aC (by omega)
  by_cases hm:m<agy l
  · have e2:agG ((m:Int)<((agy l):Int))=agB:=aE (by omega)
    have body:aR (l,id,((agy l):Int),(m:Int),(m:Int))=agz (.done ((m:Int),js (l[m]!).1 id==0)):=by
     unfold aR qL;simp only [e1,e2,lw,ol,ar l m hm,jQ,aj]
    rw [aH body];rcases fw (l[m]!).1 id with ⟨a,e⟩|⟨a,e⟩|⟨a,e⟩
    · rw [e,rc (fun h=>by omega)];rfl
    · rw [e,pp ⟨hm,a⟩];rfl
    rw [e,rc (fun h=>by omega)];rfl
  have e2:agG ((m:Int)<((agy l):Int))=agE:=aC (by omega)
  have body:aR (l,id,((agy l):Int),(m:Int),(m:Int))=agz (.done ((m:Int),agE)):=by
   unfold aR;simp only [e1,e2,ol]
  rw [aH body,rc (fun h=>hm h.1)]
 rw [run,fin];constructor
 · intro k hk he
   have hkm:k=m:=by
    rcases ae2 k m with h|h|h
    · have:=m2 k h;omega
    · exact h
    have h1:=m3 m (Do _) (by omega)
    have h2:=hs m k h hk;omega
   subst hkm;rw [pp ⟨hk,he⟩]
 intro h
 refine ⟨m,m1,m2,fun i h1 h2=>?_,?_⟩
 · have:=m3 i h1 h2
   have:=h i h2
   omega
 rw [rc (fun k=>h m k.1 k.2)]
theorem amn:df=aQ:=rfl
theorem Wi:c9=aQ:=rfl
theorem Cg:dd=aQ:=rfl
theorem s9 {α:Type} (l:List α) (k:Nat):l.eraseIdx k=l.take k++l.drop (k+1):=List.eraseIdx_eq_take_drop_succ l k
theorem uF (l:List ry) (k:Nat) (hk:k<agy l): ∃L:List ry,eh ((k:Int),((k+1:Nat):Int),l)=agz (agy l-1,agy l,L)/\L.take (agy l-1)=l.eraseIdx k:=by
 unfold eh;have e1:agG ((0:Int)<=(k:Int))=agB:=aE (by omega)
 have e2:agG ((k:Int)<=((k+1:Nat):Int))=agB:=aE (by omega)
 have e3:agG (((k+1:Nat):Int)<=((agy l):Int))=agB:=aE (by omega)
 have e4:agG (((agy l):Int)<=((agy l):Int))=agB:=aE (by omega)
 have e5:((k:Int)==((k+1:Nat):Int))=agE:=dX (by omega)
 have e6:agG ((0:Int)<=((k+1:Nat):Int))=agB:=aE (by omega)
 have e7:agG ((k:Int)<=((agy l):Int))=agB:=aE (by omega)
 have dr:(l.drop (k+1)).take (agy l- (k+1))=l.drop (k+1):=IR (by rw [ae4];exact Do _)
 have dl:(l.drop (k+1)).length=agy l- (k+1):=ae4;simp only [az,e1,e2,e3,e4,e5,e6,e7,agd,lw,ol,jR l k (by omega),aj,AC,Nat.zero_add,dr,dl,UV,Bool.and_true]
 by_cases h:k+1=agy l
 · have em:(l.drop (k+1)).isEmpty=agB:=by rw [afB,adm];omega
   have n1:agl (agy l-k) 0=agE:=by
    cases hb:agl (agy l-k) 0 with
    |false=>rfl
    |true=>have:=af4 hb;omega
   have n2:Nat.ble (k+(agy l-k)) (agy l)=agB:=acl (by omega)
   have ll:(fk l k (afN (agy l-k) ((0:Int),(0:Int),(0:Int)))).length=(agy l):=by
    unfold fk;simp;omega
   simp only [em,lw,n1,ol,n2,ll,beq_self_eq_true];refine ⟨_,by rw [show k=agy l-1 by omega],?_⟩
   rw [s9,show (agy l)-1=k by omega]
   unfold fk;rw [WF,M2 (by rw [F0s];omega),afW,agp]
   rw [ae9 (by omega),afK]
 have em:(l.drop (k+1)).isEmpty=agE:=by
  cases hb:(l.drop (k+1)).isEmpty with
  |false=>rfl
  |true=>rw [afB,adm] at hb;omega
 have n1:Nat.ble (k+(agy l- (k+1))) (agy l)=agB:=acl (by omega)
 have n2:agG ((0:Int)<=((k+(agy l- (k+1)):Nat):Int))=agB:=aE (by omega)
 have n3:agG (((k+(agy l- (k+1)):Nat):Int)<=((agy l):Int))=agB:=aE (by omega)
 have n4:agl (agy l- (k+(agy l- (k+1)))) 0=agE:=by
  cases hb:agl (agy l- (k+(agy l- (k+1)))) 0 with
  |false=>rfl
  |true=>have:=af4 hb;omega
 have l1:(fk l k (l.drop (k+1))).length=(agy l):=by
  unfold fk;simp;omega
 have n5:Nat.ble (k+(agy l- (k+1))+(agy l- (k+(agy l- (k+1))))) (agy l)=agB:=acl (by omega)
 have l2:(fk (fk l k (l.drop (k+1))) (k+(agy l- (k+1))) (afN (agy l- (k+(agy l- (k+1)))) ((0:Int),(0:Int),(0:Int)))).length=(agy l):=by
  unfold fk;simp;omega
 simp only [em,ol,n1,lw,n2,n3,agd,n4,l1,n5,l2,beq_self_eq_true];refine ⟨_,by rw [show k+(agy l- (k+1))=agy l-1 by omega],?_⟩
 rw [s9]
 have:k+(agy l- (k+1))=agy l-1:=by omega
 unfold fk;rw [WF,M2 (by simp;omega),afW,agp,WF]
 rw [show (l.take k++(l.drop (k+1)++l.drop (k+(l.drop (k+1)).length)))=(l.take k++l.drop (k+1))++l.drop (k+(l.drop (k+1)).length) by rw [WF]]
 rw [M2 (by simp;omega),IR (by simp;omega)]
theorem GK:gZ=eh:=rfl
theorem xn {α:Type} [Inhabited α] {l:List α} {k i:Nat}:(l.eraseIdx k)[i]! =if i<k then l[i]! else l[i+1]!:=by
 rw [s9]
 by_cases hk:k<agy l
 · by_cases h:i<k
   · rw [pp h,ck (by rw [F0s];omega),iO h]
   rw [rc h,dB (by rw [F0s];omega),kZ,F0s]
   congr 1;omega
 have e1:l.take k=l:=IR (by omega)
 have e2:l.drop (k+1)=[]:=ae9 (by omega)
 rw [e1,e2,afK];split
 · rfl
 rw [getElem!_neg l i (by omega),getElem!_neg l (i+1) (by omega)]
def fC (x:Int×Int):Prop:=0<=x.1/\x.1<=65535/\0<=x.2/\x.2<=65535/\x.1≠x.2
theorem Am (x:Int×Int):sQ x=agz (agG (fC x)):=by
 obtain ⟨a,b⟩:=x;unfold sQ;dsimp only
 by_cases h1:0<=a
 · by_cases h3:0<=b
   · have e1:agG (0<=if b<a then b else a)=agB:=aE (by split<;>omega)
     rw [e1]
     by_cases h2:a<=65535
     · by_cases h4:b<=65535
       · have e2:agG ((if b>a then b else a)<=65535)=agB:=aE (by split<;>omega)
         rw [e2]
         by_cases h5:a=b
         · rw [bu h5,aC (p:=fC (a,b)) (fun h=>h.2.2.2.2 h5)];rfl
         rw [cz h5,aE (p:=fC (a,b)) ⟨h1,h2,h3,h4,h5⟩];rfl
       have e2:agG ((if b>a then b else a)<=65535)=agE:=aC (by split<;>omega)
       rw [e2,aC (p:=fC (a,b)) (fun h=>h4 h.2.2.2.1)];rfl
     have e2:agG ((if b>a then b else a)<=65535)=agE:=aC (by split<;>omega)
     rw [e2,aC (p:=fC (a,b)) (fun h=>h2 h.2.1)];rfl
   have e1:agG (0<=if b<a then b else a)=agE:=aC (by split<;>omega)
   rw [e1,aC (p:=fC (a,b)) (fun h=>h3 h.2.2.1)];rfl
 have e1:agG (0<=if b<a then b else a)=agE:=aC (by split<;>omega)
 rw [e1,aC (p:=fC (a,b)) (fun h=>h1 h.1)];rfl
theorem Ao (x:Int×Int):sP x=agz (agG (fC x)):=by
 obtain ⟨a,b⟩:=x;unfold sP;dsimp only
 by_cases h1:0<=a
 · by_cases h2:a<=65535
   · by_cases h3:0<=b
     · by_cases h4:b<=65535
       · by_cases h5:a=b
         · rw [bu h5,aE h1,aE h2,aE h3,aE h4,aC (p:=fC (a,b)) (fun h=>h.2.2.2.2 h5)];rfl
         rw [cz h5,aE h1,aE h2,aE h3,aE h4,aE (p:=fC (a,b)) ⟨h1,h2,h3,h4,h5⟩];rfl
       rw [aE h1,aE h2,aE h3,aC h4,aC (p:=fC (a,b)) (fun h=>h4 h.2.2.2.1)];rfl
     rw [aE h1,aE h2,aC h3,aC (p:=fC (a,b)) (fun h=>h3 h.2.2.1)];rfl
   rw [aE h1,aC h2,aC (p:=fC (a,b)) (fun h=>h2 h.2.1)];rfl
 rw [aC h1,aC (p:=fC (a,b)) (fun h=>h1 h.1)];rfl
structure eQ (c:bF):Prop where
 len:(agy c.ce)<=200
 n0:0<=c.aN
 n1:c.aN<=1000000
 cv: ∀i,i<agy c.ce->fC (c.ce[i]!).2
 nr: ∀i,i<agy c.ce->0<=(c.ce[i]!).1/\(c.ce[i]!).1<c.aN
 up: ∀i j,i<j->j<agy c.ce->(c.ce[i]!).1<(c.ce[j]!).1
 nd: ∀i j,i<j->j<agy c.ce->(c.ce[i]!).2≠(c.ce[j]!).2
def yM (l:List ry) (i:Nat):Int:=if i=0 then -1 else (l[i-1]!).1
def PA (c:bF) (i:Nat):Prop:=fC (c.ce[i]!).2/\(∀j,j<i->(c.ce[j]!).2≠(c.ce[i]!).2)/\yM c.ce i<(c.ce[i]!).1/\(c.ce[i]!).1<c.aN
theorem eQ.iff {c:bF} (h1:(agy c.ce)<=200) (h2:0<=c.aN) (h3:c.aN<=1000000):eQ c↔ ∀i,i<agy c.ce->PA c i:=by
 constructor
 · intro ok i hi
   refine ⟨ok.cv i hi,fun j hj=>ok.nd j i hj hi,?_,(ok.nr i hi).2⟩
   unfold yM;split
   · have:=(ok.nr i hi).1;omega
   exact ok.up (i-1) i (by omega) hi
 intro h
 have low: ∀i,i<agy c.ce->0<=(c.ce[i]!).1:=by
  intro i
  induction i with
  |zero=>
   intro hi
   have:=(h 0 hi).2.2.1
   unfold yM at this;rw [pp rfl] at this;omega
  |succ i ih=>
   intro hi;have h1:=(h (i+1) hi).2.2.1;unfold yM at h1;rw [rc (by omega),show i+1-1=i by omega] at h1
   have:=ih (by omega)
   omega
 have up: ∀i j,i<j->j<agy c.ce->(c.ce[i]!).1<(c.ce[j]!).1:=by
  intro i j
  induction j with
  |zero=>intro h;omega
  |succ j ih=>
   intro lq hj;have h1:=(h (j+1) hj).2.2.1;unfold yM at h1;rw [rc (by omega),show j+1-1=j by omega] at h1
   by_cases e:i=j
   · subst e;exact h1
   have:=ih (by omega) (by omega)
   omega
 exact ⟨h1,h2,h3,fun i hi=>(h i hi).1,fun i hi=>⟨low i hi,(h i hi).2.2.2⟩,up,fun i j lq hj=>(h j hj).2.1 i lq⟩
theorem GL (l:List ry) (k:Nat) (a b:Int):om [a,b] ((l.take k).map fun x=>[x.2.1,x.2.2])=agB:=by
 unfold om;rw [List.all_eq_true];intro x hx;obtain ⟨y,hy,rfl⟩:=PP.1 hx;rfl
theorem GM (l:List ry) (k:Nat) (x:Int×Int):Ed ((l.take k).map fun y=>[y.2.1,y.2.2]) [x.1,x.2]=agG (∃j,j<k/\j<agy l/\(l[j]!).2=x):=by
 unfold Ed;rw [af3,List.any_eq_true,decide_eq_true_iff];constructor
 · rintro ⟨y,hy,he⟩
   obtain ⟨z,hz,rfl⟩:=PP.1 hy;obtain ⟨j,h1,h2,rfl⟩:=cm.1 hz
   have:[x.1,x.2]=[(l[j]!).2.1,(l[j]!).2.2]:=by simpa using he
   injection this with e1 e2;injection e2 with e2 _;exact ⟨j,h1,h2,NE e1.symm e2.symm⟩
 rintro ⟨j,h1,h2,h3⟩
 refine ⟨[(l[j]!).2.1,(l[j]!).2.2],PP.2 ⟨l[j]!,cm.2 ⟨j,h1,h2,rfl⟩,rfl⟩,?_⟩;rw [h3];simp
theorem ve (c:bF):px c=agz (if eQ c then 0 else 8):=by
 unfold px;simp only [az]
 by_cases h1:200<agy c.ce
 · rw [aE (show (200:Int)<((agy c.ce):Int) by omega),rc (fun h=>by have:=h.len;omega)];rfl
 rw [aC (show¬(200:Int)<((agy c.ce):Int) by omega)]
 by_cases h2:c.aN<0
 · rw [aE h2,rc (fun h=>by have:=h.n0;omega)];rfl
 rw [aC h2]
 by_cases h3:1000000<c.aN
 · rw [aE h3,rc (fun h=>by have:=h.n1;omega)];rfl
 rw [aC h3];simp only [ol];have key:=di (body:=pX) (fun i=>(yM c.ce i,c.ce,((agy c.ce):Int),(i:Int),c.aN,c.ce,(c.ce.take i).map fun x=>[x.2.1,x.2.2])) (agy c.ce) (fun i=> ¬PA c i) (r:=8) (e:=0) (fun i hi=>by
  have e1:agG ((i:Int)<((agy c.ce):Int))=agB:=aE (by omega)
  have has:LN ((c.ce.take i).map fun x=>[x.2.1,x.2.2]) [(c.ce[i]!).2.1,(c.ce[i]!).2.2]=agz (agG (∃j,j<i/\j<agy c.ce/\(c.ce[j]!).2=(c.ce[i]!).2)):=by
   unfold LN;rw [GL,GM];rfl
  have nx:(c.ce.take (i+1)).map (fun x=>[x.2.1,x.2.2])=((c.ce.take i).map fun x=>[x.2.1,x.2.2])++[[(c.ce[i]!).2.1,(c.ce[i]!).2.2]]:=by
   rw [dC hi,List.map_append];rfl
  have ln:yM c.ce (i+1)=(c.ce[i]!).1:=by unfold yM;rw [rc (by omega),show i+1-1=i by omega]
  unfold pX;simp only [e1,lw,ar c.ce i hi,aj,Am,has,nx,ln,aT (show i<1000000000 by omega)]
  unfold PA
  by_cases b1:fC (c.ce[i]!).2
  case neg=>
   rw [aC b1];exact ⟨fun _=>rfl,fun h=>absurd (ut.1 h).1 b1⟩
  rw [aE b1]
  by_cases b2: ∃j,j<i/\j<agy c.ce/\(c.ce[j]!).2=(c.ce[i]!).2
  · rw [aE b2]
    refine ⟨fun _=>rfl,fun h=>?_⟩
    obtain ⟨j,j1,j2,j3⟩:=b2;exact absurd j3 ((ut.1 h).2.1 j j1)
  rw [aC b2];have b2': ∀j,j<i->(c.ce[j]!).2≠(c.ce[i]!).2:=fun j hj he=>b2 ⟨j,hj,by omega,he⟩
  by_cases b3:(c.ce[i]!).1<=yM c.ce i
  · rw [aE b3]
    exact ⟨fun _=>rfl,fun h=>absurd (ut.1 h).2.2.1 (by omega)⟩
  rw [aC b3]
  by_cases b4:c.aN<=(c.ce[i]!).1
  · rw [aE b4]
    exact ⟨fun _=>rfl,fun h=>absurd (ut.1 h).2.2.2 (by omega)⟩
  rw [aC b4];have ins:LO ((c.ce.take i).map fun x=>[x.2.1,x.2.2]) [(c.ce[i]!).2.1,(c.ce[i]!).2.2]=agz (((c.ce.take i).map fun x=>[x.2.1,x.2.2])++[[(c.ce[i]!).2.1,(c.ce[i]!).2.2]]):=by
   unfold LO Ox;rw [GL,GM,aC b2];rfl
  rw [ins];exact ⟨fun h=>absurd ⟨b1,b2',by omega,by omega⟩ h,fun _=>rfl⟩) (by
  unfold pX
  have:agG (((agy c.ce):Int)<((agy c.ce):Int))=agE:=aC (by omega)
  simp only [this,ol])
 have h0:yM c.ce 0= -1:=rfl;rw [h0] at key
 by_cases ok:eQ c
 · rw [pp ok]
   exact key.2 fun i hi=>ut.2 ((eQ.iff (by omega) (by omega) (by omega)).1 ok i hi)
 rw [rc ok]
 rw [eQ.iff (by omega) (by omega) (by omega)] at ok
 obtain ⟨i,h⟩:=EQ.1 ok;obtain ⟨hi,hx⟩:=If.1 h;exact key.1 ⟨i,hi,hx⟩
theorem Na (c:bF) (i:Nat) (hi:i<agy c.ce) (hl:(agy c.ce)<=200):
 ((∃j,j<i/\(c.ce[j]!).2=(c.ce[i]!).2)->ay fM ((i:Int),0,c.aN,c.ce,c.ce[i]!)=agz (.done 8))/\
 ((∀j,j<i-> ¬(c.ce[j]!).2=(c.ce[i]!).2)->ay fM ((i:Int),0,c.aN,c.ce,c.ce[i]!)=agz (.next (((i+1:Nat):Int),c.aN,c.ce))):=by
 refine di (body:=fM) (fun j=>((i:Int),(j:Int),c.aN,c.ce,c.ce[i]!)) i (fun j=>(c.ce[j]!).2=(c.ce[i]!).2) (r:= .done 8) (e:= .next (((i+1:Nat):Int),c.aN,c.ce)) (fun j hj=>?_) ?_
 · have e1:agG ((j:Int)<(i:Int))=agB:=aE (by omega)
   unfold fM;simp only [e1,lw,ar c.ce j (by omega),aj,aT (show j<1000000000 by omega)]
   generalize c.ce[j]! =x;generalize c.ce[i]! =y;constructor
   · intro h;rw [eI (congrArg afX h),eI (congrArg afY h)];rfl
   intro h
   by_cases h1:x.2.1=y.2.1
   · rw [eI h1,dX (fun h2=>h (NE h1 h2))];rfl
   rw [dX h1];rfl
 unfold fM
 have:agG ((i:Int)<(i:Int))=agE:=aC (by omega)
 simp only [this,ol,aT (show i<1000000000 by omega)]
theorem yN (c:bF):qI c=agz (if eQ c then 0 else 8):=by
 unfold qI;simp only [az]
 by_cases h1:200<agy c.ce
 · rw [aE (show (200:Int)<((agy c.ce):Int) by omega),rc (fun h=>by have:=h.len;omega)];rfl
 rw [aC (show¬(200:Int)<((agy c.ce):Int) by omega)]
 by_cases h2:c.aN<0
 · rw [aE h2,rc (fun h=>by have:=h.n0;omega)];rfl
 rw [aC h2]
 by_cases h3:1000000<c.aN
 · rw [aE h3,rc (fun h=>by have:=h.n1;omega)];rfl
 rw [aC h3];simp only [ol];have key:=di (body:=oz) (fun i=>((i:Int),c.aN,c.ce)) (agy c.ce) (fun i=> ¬(fC (c.ce[i]!).2/\0<=(c.ce[i]!).1/\(c.ce[i]!).1<c.aN/\(0<i->(c.ce[i-1]!).1<(c.ce[i]!).1)/\ ∀j,j<i-> ¬(c.ce[j]!).2=(c.ce[i]!).2)) (r:=8) (e:=0) (fun i hi=>by
  have e1:agG ((i:Int)<((agy c.ce):Int))=agB:=aE (by omega)
  have l1:=Na c i hi (by omega)
  unfold oz;simp only [az,e1,lw,ar c.ce i hi,aj,Ao]
  by_cases b1:fC (c.ce[i]!).2
  case neg=>
   rw [aC b1];exact ⟨fun _=>rfl,fun h=>absurd (ut.1 h).1 b1⟩
  rw [aE b1]
  by_cases b2:(c.ce[i]!).1<0
  · rw [aE b2]
    exact ⟨fun _=>rfl,fun h=>absurd (ut.1 h).2.1 (by omega)⟩
  rw [aC b2]
  by_cases b3:c.aN<=(c.ce[i]!).1
  · rw [aE b3]
    exact ⟨fun _=>rfl,fun h=>absurd (ut.1 h).2.2.1 (by omega)⟩
  rw [aC b3];simp only [ww,ol];have go:(0<i->(c.ce[i-1]!).1<(c.ce[i]!).1)->(¬(fC (c.ce[i]!).2/\0<=(c.ce[i]!).1/\(c.ce[i]!).1<c.aN/\(0<i->(c.ce[i-1]!).1<(c.ce[i]!).1)/\ ∀j,j<i-> ¬(c.ce[j]!).2=(c.ce[i]!).2)->ay fM ((i:Int),0,c.aN,c.ce,c.ce[i]!)=agz (.done 8))/\
   (¬¬(fC (c.ce[i]!).2/\0<=(c.ce[i]!).1/\(c.ce[i]!).1<c.aN/\(0<i->(c.ce[i-1]!).1<(c.ce[i]!).1)/\ ∀j,j<i-> ¬(c.ce[j]!).2=(c.ce[i]!).2)->ay fM ((i:Int),0,c.aN,c.ce,c.ce[i]!)=agz (.next (((i+1:Nat):Int),c.aN,c.ce))):=by
   intro hp;constructor
   · intro h
     refine l1.1 (Classical.byContradiction fun hx=>h ⟨b1,by omega,by omega,hp,fun j hj he=>hx ⟨j,hj,he⟩⟩)
   intro h
   exact l1.2 (ut.1 h).2.2.2.2
  by_cases b4:0<i
  · have f1:agG ((0:Int)<(i:Int))=agB:=aE (by omega)
    simp only [f1,lw,mV (show i<1000000000 by omega) b4,ar c.ce (i-1) (by omega),aj]
    by_cases b5:(c.ce[i]!).1<=(c.ce[i-1]!).1
    · rw [aE b5]
      exact ⟨fun _=>rfl,fun h=>absurd ((ut.1 h).2.2.2.1 b4) (by omega)⟩
    rw [aC b5]
    exact go fun _=>by omega
  · have f1:agG ((0:Int)<(i:Int))=agE:=aC (by omega)
    rw [f1];exact go fun h=>absurd h b4) (by
  unfold oz
  have:agG (((agy c.ce):Int)<((agy c.ce):Int))=agE:=aC (by omega)
  simp only [az,this,ol])
 have same:eQ c↔ ∀i,i<agy c.ce->(fC (c.ce[i]!).2/\0<=(c.ce[i]!).1/\(c.ce[i]!).1<c.aN/\(0<i->(c.ce[i-1]!).1<(c.ce[i]!).1)/\ ∀j,j<i-> ¬(c.ce[j]!).2=(c.ce[i]!).2):=by
  constructor
  · intro ok i hi
    exact ⟨ok.cv i hi,(ok.nr i hi).1,(ok.nr i hi).2,fun h=>ok.up (i-1) i (by omega) hi,fun j hj=>ok.nd j i hj hi⟩
  intro h
  rw [eQ.iff (by omega) (by omega) (by omega)]
  intro i hi;obtain ⟨a1,a2,a3,a4,a5⟩:=h i hi;refine ⟨a1,a5,?_,a3⟩;unfold yM;split
  · omega
  exact a4 (by omega)
 by_cases ok:eQ c
 · rw [pp ok]
   exact key.2 fun i hi=>ut.2 (same.1 ok i hi)
 rw [rc ok]
 rw [same] at ok;obtain ⟨i,h⟩:=EQ.1 ok;obtain ⟨hi,hx⟩:=If.1 h;exact key.1 ⟨i,hi,hx⟩
def tG (l:List ry) (x:Int×Int):Prop:= ∃i,i<agy l/\(l[i]!).2=x
theorem GN (l:List ry) (x:Int×Int) (hl:(agy l)<=1000000):cE l x=agz (agG (tG l x)):=by
 unfold cE fG;have key:=hO (body:=dv) (fun i=>(l,x.1,x.2,((agy l):Int),(i:Int))) (agy l) (fun i=>(l[i]!).2=x) (fun i=>(i:Int)) (e:= -1) (fun i hi=>by
  have e1:agG ((i:Int)<((agy l):Int))=agB:=aE (by omega)
  unfold dv A3;simp only [e1,lw,ar l i hi,aj,aT (show i<1000000000 by omega)]
  generalize l[i]! =y;constructor
  · intro h;rw [eI (congrArg afX h),eI (congrArg afY h)];rfl
  · intro h
    by_cases h1:y.2.1=x.1
    · rw [eI h1,dX (fun h2=>h (NE h1 h2))];rfl
    rw [dX h1];rfl) (by
  unfold dv
  have:agG (((agy l):Int)<((agy l):Int))=agE:=aC (by omega)
  simp only [this,ol])
 rw [az]
 by_cases hx:tG l x
 · obtain ⟨k,h1,h2,h3⟩:=least hx
   have:=key.1 k h1 h2 h3
   rw [show ((0:Nat):Int)=0 from rfl] at this;rw [this,aE hx];simp only [aj,aE (show (0:Int)<=(k:Int) by omega)]
 have:=key.2 fun i hi he=>hx ⟨i,hi,he⟩
 rw [show ((0:Nat):Int)=0 from rfl] at this;rw [this,aC hx];rfl
theorem v8:eb=cE:=rfl
theorem xo (c:bF) (x:Int×Int) (hl:(agy c.ce)<=1000000):ss c x=agz (agG (tG c.ce x)):=by
 unfold ss;have key:=di (body:=rR) (fun i=>((i:Int),c.aN,c.ce,x)) (agy c.ce) (fun i=>(c.ce[i]!).2=x) (r:=agB) (e:=agE) (fun i hi=>by
  have e1:agG ((i:Int)<((agy c.ce):Int))=agB:=aE (by omega)
  unfold rR;simp only [az,e1,lw,ar c.ce i hi,aj,aT (show i<1000000000 by omega)]
  generalize c.ce[i]! =y;constructor
  · intro h;rw [eI (congrArg afX h),eI (congrArg afY h)];rfl
  · intro h
    by_cases h1:y.2.1=x.1
    · rw [eI h1,dX (fun h2=>h (NE h1 h2))];rfl
    rw [dX h1];rfl) (by
  unfold rR
  have:agG (((agy c.ce):Int)<((agy c.ce):Int))=agE:=aC (by omega)
  simp only [az,this,ol])
 by_cases hx:tG c.ce x
 · rw [aE hx];exact key.1 hx
 rw [aC hx];exact key.2 fun i hi he=>hx ⟨i,hi,he⟩
def mX (c:bF) (x:Int×Int):bF:=⟨c.aN+1,c.ce++[(c.aN,x)]⟩
def Ap (c:bF):Prop:=agy c.ce=200\/c.aN=1000000
theorem Nb {c:bF} (ok:eQ c) {x:Int×Int} (hx:fC x):B7 c x=agz (if tG c.ce x then (⟨0,[]⟩,0,14) else if Ap c then (⟨0,[]⟩,0,18) else (mX c x,c.aN,0)):=by
 have:=ok.len;have:=ok.n0;have:=ok.n1
 unfold B7;rw [ve,pp ok,Am,aE hx,GN _ _ (by omega)]
 simp only [aj,show ((0:Int) !=0)=agE from rfl,ol,ww,az]
 by_cases h1:tG c.ce x
 · rw [aE h1,pp h1];rfl
 rw [aC h1,rc h1];unfold Ap
 by_cases h2:(agy c.ce)=200
 · rw [eI (show ((agy c.ce):Int)=200 by omega),pp (.inl h2)];rfl
 rw [dX (show¬((agy c.ce):Int)=200 by omega)]
 by_cases h3:c.aN=1000000
 · rw [eI h3,pp (.inr h3)];rfl
 rw [dX h3,rc (by omega)]
 have e:aa .i64 (c.aN+1)=c.aN+1:=by rw [wi];omega
 simp only [ol,ba (show (agy c.ce)<=1048576 by omega),aj,bR (show (agy c.ce)+[(c.aN,x)].length<=1048576 by simp;omega),e]
 rfl
theorem KD {c:bF} (ok:eQ c) {x:Int×Int} (hx:fC x):zq c x=agz (if tG c.ce x then (⟨0,[]⟩,0,14) else if Ap c then (⟨0,[]⟩,0,18) else (mX c x,c.aN,0)):=by
 have:=ok.len;have:=ok.n0;have:=ok.n1
 unfold zq pj;rw [yN,pp ok,Ao,aE hx,xo _ _ (by omega)]
 simp only [aj,show ((0:Int) !=0)=agE from rfl,ol,ww,az]
 by_cases h1:tG c.ce x
 · rw [aE h1,pp h1];rfl
 rw [aC h1,rc h1];unfold Ap
 by_cases h2:(agy c.ce)=200
 · rw [eI (show ((agy c.ce):Int)=200 by omega),pp (.inl h2)];rfl
 rw [dX (show¬((agy c.ce):Int)=200 by omega)]
 by_cases h3:c.aN=1000000
 · rw [eI h3,pp (.inr h3)];rfl
 rw [dX h3,rc (by omega)]
 have e:aa .i64 (c.aN+1)=c.aN+1:=by rw [wi];omega
 simp only [ol,ba (show (agy c.ce)<=1048576 by omega),aj,bR (show (agy c.ce)+[(c.aN,x)].length<=1048576 by simp;omega),e]
 rfl
theorem tc {c:bF} {x:Int×Int} {i:Nat}:(mX c x).ce[i]! =if i<(agy c.ce) then c.ce[i]! else if i=(agy c.ce) then (c.aN,x) else default:=by
 show (c.ce++[(c.aN,x)])[i]! =_
 by_cases h:i<agy c.ce
 · rw [pp h,ck h]
 rw [rc h,dB (by omega)]
 by_cases e:i=agy c.ce
 · rw [pp e,e,ae8];rfl
 rw [rc e,getElem!_neg _ _ (by simp;omega)]
theorem zG {c:bF} {x:Int×Int}:(mX c x).ce.length=agy c.ce+1:=by
 show (c.ce++[(c.aN,x)]).length=_;simp
theorem PB {c:bF} (ok:eQ c) {x:Int×Int} (hx:fC x) (hn: ¬tG c.ce x) (hf: ¬Ap c):eQ (mX c x):=by
 have h1:=ok.len;have h2:=ok.n0;have h3:=ok.n1;unfold Ap at hf;refine ⟨by rw [zG];omega,by show 0<=c.aN+1;omega,by show c.aN+1<=1000000;omega,?_,?_,?_,?_⟩
 · intro i hi
   rw [zG] at hi;rw [tc]
   by_cases h:i<agy c.ce
   · rw [pp h];exact ok.cv i h
   rw [rc h,pp (by omega)];exact hx
 · intro i hi
   rw [zG] at hi;rw [tc];show 0<=_/\_<c.aN+1
   by_cases h:i<agy c.ce
   · rw [pp h];have:=ok.nr i h;omega
   rw [rc h,pp (by omega)];dsimp only;omega
 · intro i j lq hj
   rw [zG] at hj;rw [tc,tc,pp (by omega)]
   by_cases h:j<agy c.ce
   · rw [pp h];exact ok.up i j lq h
   rw [rc h,pp (by omega)]
   exact (ok.nr i (by omega)).2
 intro i j lq hj
 rw [zG] at hj;rw [tc,tc,pp (by omega)]
 by_cases h:j<agy c.ce
 · rw [pp h];exact ok.nd i j lq h
 rw [rc h,pp (by omega)]
 exact fun he=>hn ⟨i,by omega,he⟩
def mY (c:bF) (k:Nat):bF:=⟨c.aN,c.ce.eraseIdx k⟩
theorem zH {α:Type} {l:List α} {k:Nat} (hk:k<agy l):(l.eraseIdx k).length=agy l-1:=by
 rw [List.length_eraseIdx,pp hk]
theorem GO {c:bF} (ok:eQ c) {k:Nat} (hk:k<agy c.ce):eQ (mY c k):=by
 have h1:=ok.len;have len:(mY c k).ce.length=agy c.ce-1:=zH hk;have cell: ∀i,∃j,i<=j/\j<=i+1/\(i<agy c.ce-1->j<agy c.ce)/\(mY c k).ce[i]! =c.ce[j]!/\(i<k->j=i)/\(k<=i->j=i+1):=by
  intro i
  by_cases h:i<k
  · exact ⟨i,by omega,by omega,by omega,by show (c.ce.eraseIdx k)[i]! =_;rw [xn,pp h],fun _=>rfl,by omega⟩
  exact ⟨i+1,by omega,by omega,by omega,by show (c.ce.eraseIdx k)[i]! =_;rw [xn,rc h],by omega,fun _=>rfl⟩
 refine ⟨by omega,ok.n0,ok.n1,?_,?_,?_,?_⟩
 · intro i hi
   obtain ⟨j,j1,j2,j3,j4,j5,j6⟩:=cell i;rw [j4];exact ok.cv j (j3 (by omega))
 · intro i hi
   obtain ⟨j,j1,j2,j3,j4,j5,j6⟩:=cell i;rw [j4];exact ok.nr j (j3 (by omega))
 · intro i i' lq hi
   obtain ⟨j,j1,j2,j3,j4,j5,j6⟩:=cell i;obtain ⟨m,m1,m2,m3,m4,m5,m6⟩:=cell i';rw [j4,m4];exact ok.up j m (by omega) (m3 (by omega))
 intro i i' lq hi
 obtain ⟨j,j1,j2,j3,j4,j5,j6⟩:=cell i;obtain ⟨m,m1,m2,m3,m4,m5,m6⟩:=cell i';rw [j4,m4];exact ok.nd j m (by omega) (m3 (by omega))
theorem yO {c:bF} (ok:eQ c) {k:Nat} (hk:k<agy c.ce) {n:Int} (hn:(c.ce[k]!).1=n):uu c n=agz (mY c k,(c.ce[k]!).2,0):=by
 have h1:=ok.len;unfold uu Df;obtain ⟨L,d1,d2⟩:=uF c.ce k hk;rw [ve,pp ok,(qe c.ce n (by omega) ok.up).1 k hk hn]
 simp only [aj,show ((0:Int) !=0)=agE from rfl,ol,ww,ba (show (agy c.ce)<=1048576 by omega),aT (show k<1000000000 by omega),d1,ar c.ce k hk,d2]
 rfl
theorem Ch {l:List ry} {k:Nat} (hk:k<agy l) (hs: ∀i j,i<j->j<agy l->(l[i]!).1<(l[j]!).1) {n:Int} (hn:(l[k]!).1=n):l.filter (fun x=>x.1 !=n)=l.eraseIdx k:=by
 rw [s9];have e:l.filter (fun x=>x.1 !=n)=(l.take k++l[k]!::l.drop (k+1)).filter (fun x=>x.1 !=n):=congrArg _ (MS hk)
 rw [e,afg,List.filter_cons_of_neg (by rw [hn];simp)]
 congr 1
 · rw [afa]
   intro x hx;obtain ⟨i,h1,h2,rfl⟩:=cm.1 hx
   have:=hs i k h1 hk
   exact cz (by omega)
 rw [afa]
 intro x hx;obtain ⟨i,h1,rfl⟩:=aS.1 hx;rw [ae4] at h1;rw [kZ]
 have:=hs k (k+1+i) (by omega) (by omega)
 exact cz (by omega)
theorem Dr {c:bF} (ok:eQ c) {k:Nat} (hk:k<agy c.ce) {n:Int} (hn:(c.ce[k]!).1=n):pS c n=agz (mY c k):=by
 have h1:=ok.len;unfold pS;have key:=bS (body:=jH) (fun i=>(n,(i:Int),c.aN,c.ce,0,c.aN,(c.ce.take i).filter (fun x=>x.1 !=n))) (agy c.ce) (fun i hi=>by
  have e1:agG ((i:Int)<((agy c.ce):Int))=agB:=aE (by omega)
  have nx:(c.ce.take (i+1)).filter (fun x=>x.1 !=n)=(c.ce.take i).filter (fun x=>x.1 !=n)++(if (c.ce[i]!).1 !=n then [c.ce[i]!] else []):=by
   rw [dC hi,afg,List.filter_cons,List.filter_nil]
  have fl:((c.ce.take i).filter (fun x=>x.1 !=n)).length<=200:=agj (List.length_filter_le _ _) (by rw [F0s];omega)
  unfold jH;simp only [az,e1,lw,ar c.ce i hi,aj,aT (show i<1000000000 by omega),nx]
  by_cases h:(c.ce[i]!).1=n
  · rw [bu h];simp
  rw [cz h]
  simp only [lw,if_true,bR (show ((c.ce.take i).filter (fun x=>x.1 !=n)).length+[c.ce[i]!].length<=1048576 by simp only [afy,afJ];omega),aj])
 have fin:jH (n,((agy c.ce):Int),c.aN,c.ce,0,c.aN,(c.ce.take (agy c.ce)).filter (fun x=>x.1 !=n))=agz (.done (mY c k)):=by
  unfold jH
  have:agG (((agy c.ce):Int)<((agy c.ce):Int))=agE:=aC (by omega)
  simp only [az,this,ol,List.take_length];rw [Ch hk ok.up hn];rfl
 refine Eq.trans ?_ (aH fin);exact key
def ft (l:List Pt) (id:Int):Prop:= ∃k,k<agy l/\(l[k]!).1=id
noncomputable def fR (l:List Pt) (id:Int):Pt:=if h:ft l id then l[h.choose]! else (-1,0,0)
theorem Ci {l:List Pt} (hs:fx l) {k:Nat} (hk:k<agy l) {id:Int} (h:(l[k]!).1=id):fR l id=l[k]!:=by
 have hp:ft l id:=⟨k,hk,h⟩;unfold fR;rw [dif_pos hp]
 have:=hp.choose_spec
 rw [xh hs this.1 hk (by rw [this.2,h])]
theorem dW {l:List Pt} (ok:bm l) {id:Int} (h:ft l id):fq (fR l id)/\(fR l id).1=id:=by
 obtain ⟨k,hk,he⟩:=h;rw [Ci ok.2.2 hk he];exact ⟨ok.2.1 _ (aW hk),he⟩
theorem Ds {l:List Pt} {id:Int} (h: ¬ft l id):fR l id=(-1,0,0):=by unfold fR;rw [dif_neg h]
theorem jS {l:List Pt} (ok:bm l) (id:Int):iX ⟨l⟩ id=agz (fR l id):=by
 have h1:=ok.1;have bs:=qe l id (by omega) (fun i j=>ej ok.2.2)
 unfold iX;dsimp only;rw [Wi]
 by_cases h:ft l id
 · obtain ⟨k,hk,he⟩:=h
   rw [bs.1 k hk he];simp only [aj,ww,ol,ar l k hk,Ci ok.2.2 hk he]
 obtain ⟨m,m1,m2,m3,e⟩:=bs.2 (fun k hk he=>h ⟨k,hk,he⟩)
 rw [e,Ds h];rfl
theorem xp {l:List Pt} (ok:bm l) {id:Int} (h:ft l id): ∃k,k<agy l/\fL ⟨l⟩ id=agz (k:Int)/\l[k]! =fR l id:=by
 have h1:=ok.1;obtain ⟨k,hk,he⟩:=h;exact ⟨k,hk,Dk ok.2.2 (by omega) hk he,(Ci ok.2.2 hk he).symm⟩
theorem Dt {l:List Pt} (ok:bm l) {id:Int} (h: ¬ft l id):fL ⟨l⟩ id=agz (-1):=by
 have h1:=ok.1;exact aeB (by omega) fun k hk he=>h ⟨k,hk,he⟩
def iJ (l:List Pt) (x:Int×Int):Prop:=ft l x.1/\ft l x.2
noncomputable def bw (l:List Pt) (x t:Int×Int):(Int×Int)×Bool:=yG (fR l x.2) (fR l x.1) t
theorem qf {l:List Pt} (ok:bm l) {x t:Int×Int} (hx:fC x) (ht:bX t) (h64:nm t):
 pA ⟨l⟩ x t=agz (if iJ l x then ((bw l x t).1,(bw l x t).2,0) else ((0,0),agE,8)):=by
 unfold pA;rw [jS ok,jS ok];simp only [aj,Eh h64];have bad: ¬fq (-1,0,0):=by unfold fq;dsimp only;omega
 by_cases h1:ft l x.1
 · by_cases h2:ft l x.2
   · obtain ⟨p1,p2⟩:=dW ok h1
     obtain ⟨q1,q2⟩:=dW ok h2;rw [pp ⟨q1,p1,ht,by rw [p2,q2];exact fun h=>hx.2.2.2.2 h.symm⟩,pp ⟨h1,h2⟩]
     rfl
   rw [Ds h2,rc (fun h=>bad h.1),rc (fun h=>bad h.1),rc (fun h=>h2 h.2)]
 rw [Ds h1,rc (fun h=>bad h.2.1),rc (fun h=>bad h.2.1),rc (fun h=>h1 h.1)]
theorem vf {l:List Pt} (ok:bm l) {x t:Int×Int} (h64:nm t) (hb:iJ l x):pt ⟨l⟩ x t=agz (bw l x t):=by
 obtain ⟨h1,h2⟩:=hb;obtain ⟨j,j1,j2,j3⟩:=xp ok h1;obtain ⟨k,k1,k2,k3⟩:=xp ok h2;unfold pt;simp only [j2,k2,aj,ar l j j1,ar l k k1,j3,k3,Pp (dW ok h2).1 (dW ok h1).1 h64];rfl
theorem Wj (c:bF) {l:List Pt} (ok:bm l) (hl:(agy c.ce)<=200):uv c ⟨l⟩=agz (agG (∀i,i<agy c.ce->iJ l (c.ce[i]!).2)):=by
 unfold uv;have key:=di (body:=oH) (fun i=>((i:Int),c.aN,c.ce,l)) (agy c.ce) (fun i=> ¬iJ l (c.ce[i]!).2) (r:=agE) (e:=agB) (fun i hi=>by
  have e1:agG ((i:Int)<((agy c.ce):Int))=agB:=aE (by omega)
  unfold oH iJ;simp only [az,e1,lw,ar c.ce i hi,aj,aT (show i<1000000000 by omega)]
  by_cases h1:ft l (c.ce[i]!).2.1
  · obtain ⟨k,k1,k2,_⟩:=xp ok h1
    rw [k2];simp only [aj,aC (show¬(k:Int)<0 by omega),ol]
    by_cases h2:ft l (c.ce[i]!).2.2
    · obtain ⟨j,j1,j2,_⟩:=xp ok h2
      rw [j2];simp only [aj,aC (show¬(j:Int)<0 by omega),ol]
      exact ⟨fun h=>absurd ⟨h1,h2⟩ h,fun _=>trivial⟩
    rw [Dt ok h2]
    exact ⟨fun _=>rfl,fun h=>absurd (ut.1 h).2 h2⟩
  · rw [Dt ok h1]
    exact ⟨fun _=>rfl,fun h=>absurd (ut.1 h).1 h1⟩) (by
  unfold oH
  have:agG (((agy c.ce):Int)<((agy c.ce):Int))=agE:=aC (by omega)
  simp only [az,this,ol])
 by_cases hx: ∀i,i<agy c.ce->iJ l (c.ce[i]!).2
 · rw [aE hx];exact key.2 fun i hi=>ut.2 (hx i hi)
 rw [aC hx]
 obtain ⟨i,h⟩:=EQ.1 hx;obtain ⟨hi,hx⟩:=If.1 h;exact key.1 ⟨i,hi,hx⟩
def bc (l:List Pt) (t:Int×Int) (H:List Ev):List ry->List ry->Prop
 | [],ds=>ds=[]
 |x::cs,ds=>((bw l x.2 t).2=agB-> ∃d zO,ds=d::zO/\d.1=x.1/\((bw l x.2 t).1.1,(bw l x.2 t).1.2,x.1,d.2)∈H/\bc l t H cs zO)/\((bw l x.2 t).2=agE->bc l t H cs ds)
structure aZ (c:aM):Prop where
 nT:bX c.ci
 fP:nm c.ci
 iK:bm c.ii.am
 tu:eQ c.af
 mb:eT c.ae
 GP:(agy c.ae.aq)=200
 hd:(agy c.ae.bv)=agy c.io
 known: ∀i,i<agy c.af.ce->iJ c.ii.am (c.af.ce[i]!).2
 Bi:bc c.ii.am c.ci c.ae.bv c.af.ce c.io
structure qP (c:aM):Prop where
 fP:nm c.ci
 ag:yJ c.ae
 du:(agy c.io)<=1000000
theorem afT {a:aL} (ok:eT a) (w2:(agy a.aq)=200) (t:Int×Int) (n:Int) (h:Int×Int):
 (0<=h.1/\h.1<200/\0<=a.aq[h.1.toNat]!/\a.bv[(a.aq[h.1.toNat]!).toNat]! =(t.1,t.2,n,h))↔((t.1,t.2,n,h):Ev)∈a.bv:=by
 have wl:=ok.wl;have hu:=ok.so.ul;constructor
 · rintro ⟨h1,h2,h3,h4⟩
   cases hb:a.ai.be[h.1.toNat]! with
   |false=>
    have:=ok.un h.1.toNat (by omega) hb
    omega
   |true=>
    have:=ok.fwd h.1.toNat (by omega) hb
    rw [<- h4];exact aW (by omega)
 intro hm
 obtain ⟨w,hw,he⟩:=aS.1 hm;obtain ⟨b1,b2,b3,b4,b5⟩:=ok.back hw;have e:Ev.ix a.bv[w]! =h.1:=by rw [he]
 have e2:Ev.n a.bv[w]! =h.1.toNat:=by rw [he]
 rw [e] at b1 b2;rw [e2] at b5;refine ⟨b1,by omega,by omega,?_⟩
 rw [b5,AC,he]
theorem Wk {a:aL} (ok:eT a) {i:Nat} (hi:i<agy a.ai.aA) (h:0<=a.aq[i]!):a.aq[i]!<(agy a.bv):=by
 cases hb:a.ai.be[i]! with
 |false=>have:=ok.un i hi hb;omega
 |true=>exact (ok.fwd i hi hb).2.1
theorem pG {α:Type} [Inhabited α] {l:List α} {i:Nat} (h:i<agy l):l.drop i=l[i]!::l.drop (i+1):=by
 rw [getElem!_pos l i h];exact List.drop_eq_getElem_cons h
theorem Nc {c:aM} (nT:bX c.ci) (fP:nm c.ci) (iK:bm c.ii.am) (tu:eQ c.af) (mb:eT c.ae) (w2:(agy c.ae.aq)=200):
 ∀(d i:Nat) (ds:List ry),agy c.af.ce-i<=d->i<=agy c.af.ce->agy ds<=1000000->
  ay cS (ds,c.af.ce,((agy c.af.ce):Int),(i:Int),c.ci.1,c.ci.2,c.ii.am,c.af.aN,c.af.ce,c.ae.ai.aA,c.ae.ai.be,c.ae.ai.bi,c.ae.bv,c.ae.aq,c.io)=
   agz (.done (if (∀j,i<=j->j<agy c.af.ce->iJ c.ii.am (c.af.ce[j]!).2)/\bc c.ii.am c.ci c.ae.bv (c.af.ce.drop i) ds then 0 else 8)):=by
 have hl:=tu.len;have wl:=mb.wl;have fin: ∀(ds:List ry),ay cS (ds,c.af.ce,((agy c.af.ce):Int),((agy c.af.ce):Int),c.ci.1,c.ci.2,c.ii.am,c.af.aN,c.af.ce,c.ae.ai.aA,c.ae.ai.be,c.ae.ai.bi,c.ae.bv,c.ae.aq,c.io)=agz (.done (if ds=[] then 0 else 8)):=by
  intro ds;refine aH ?_;unfold cS;have e1:agG (((agy c.af.ce):Int)<((agy c.af.ce):Int))=agE:=aC (by omega)
  simp only [az,e1,ol];cases ds with
  |nil=>rw [aC (by simp),pp rfl];rfl
  |cons d ds=>rw [aE (by simp),rc (by simp)];rfl
 intro d
 induction d with
 |zero=>
  intro i ds hd hi Xf
  have:i=(agy c.af.ce):=by omega
  subst this;rw [fin ds,adc]
  have:((∀j,agy c.af.ce<=j->j<agy c.af.ce->iJ c.ii.am (c.af.ce[j]!).2)/\bc c.ii.am c.ci c.ae.bv [] ds)↔ds=[]:=⟨fun h=>h.2,fun h=>⟨fun j h1 h2=>by omega,h⟩⟩
  by_cases h:ds=[]
  · rw [pp h,pp (this.2 h)]
  rw [rc h,rc (fun k=>h (this.1 k))]
 |succ d ih=>
  intro i ds hd hi Xf
  by_cases he:i=agy c.af.ce
  · subst he
    rw [fin ds,adc]
    have:((∀j,agy c.af.ce<=j->j<agy c.af.ce->iJ c.ii.am (c.af.ce[j]!).2)/\bc c.ii.am c.ci c.ae.bv [] ds)↔ds=[]:=⟨fun h=>h.2,fun h=>⟨fun j h1 h2=>by omega,h⟩⟩
    by_cases h:ds=[]
    · rw [pp h,pp (this.2 h)]
    rw [rc h,rc (fun k=>h (this.1 k))]
  have q8:i<(agy c.af.ce):=by omega
  have e1:agG ((i:Int)<((agy c.af.ce):Int))=agB:=aE (by omega)
  have hw:=qf iK (x:=(c.af.ce[i]!).2) (t:=(c.ci.1,c.ci.2)) (tu.cv i q8) nT fP;have dr:=pG q8;have all:(∀j,i<=j->j<agy c.af.ce->iJ c.ii.am (c.af.ce[j]!).2)↔(iJ c.ii.am (c.af.ce[i]!).2/\ ∀j,i+1<=j->j<agy c.af.ce->iJ c.ii.am (c.af.ce[j]!).2):=by
   constructor
   · intro h;exact ⟨h i (Do _) q8,fun j h1 h2=>h j (by omega) h2⟩
   rintro ⟨h1,h2⟩ j h3 h4
   by_cases e:j=i
   · rw [e];exact h1
   exact h2 j (by omega) h4
  have sc:=aT (show i<1000000000 by omega)
  by_cases hb:iJ c.ii.am (c.af.ce[i]!).2
  case neg=>
   rw [rc (fun h=>hb (all.1 h.1).1)]
   refine aH ?_;unfold cS;simp only [e1,lw,ar c.af.ce i q8,aj,hw,rc hb];rfl
  rw [pp hb] at hw
  by_cases is:(bw c.ii.am (c.af.ce[i]!).2 c.ci).2=agB
  case neg=>
   have is':(bw c.ii.am (c.af.ce[i]!).2 c.ci).2=agE:=by simpa using is
   rw [aV (y:=(ds,c.af.ce,((agy c.af.ce):Int),((i+1:Nat):Int),c.ci.1,c.ci.2,c.ii.am,c.af.aN,c.af.ce,c.ae.ai.aA,c.ae.ai.be,c.ae.ai.bi,c.ae.bv,c.ae.aq,c.io)) (by
    unfold cS;simp only [e1,lw,ar c.af.ce i q8,aj,hw,sc,is',show ((0:Int) !=0)=agE from rfl,ol,UV]),ih (i+1) ds (by omega) (by omega) Xf]
   have same:((∀j,i<=j->j<agy c.af.ce->iJ c.ii.am (c.af.ce[j]!).2)/\bc c.ii.am c.ci c.ae.bv (c.af.ce.drop i) ds)↔((∀j,i+1<=j->j<agy c.af.ce->iJ c.ii.am (c.af.ce[j]!).2)/\bc c.ii.am c.ci c.ae.bv (c.af.ce.drop (i+1)) ds):=by
    rw [dr,all];constructor
    · rintro ⟨⟨_,h1⟩,h2⟩;exact ⟨h1,h2.2 is'⟩
    rintro ⟨h1,h2⟩;exact ⟨⟨hb,h1⟩,fun h=>absurd h is,fun _=>h2⟩
   simp only [same]
  have stop:(¬((∀j,i<=j->j<agy c.af.ce->iJ c.ii.am (c.af.ce[j]!).2)/\bc c.ii.am c.ci c.ae.bv (c.af.ce.drop i) ds))->cS (ds,c.af.ce,((agy c.af.ce):Int),(i:Int),c.ci.1,c.ci.2,c.ii.am,c.af.aN,c.af.ce,c.ae.ai.aA,c.ae.ai.be,c.ae.ai.bi,c.ae.bv,c.ae.aq,c.io)=agz (.done (.done 8))->ay cS (ds,c.af.ce,((agy c.af.ce):Int),(i:Int),c.ci.1,c.ci.2,c.ii.am,c.af.aN,c.af.ce,c.ae.ai.aA,c.ae.ai.be,c.ae.ai.bi,c.ae.bv,c.ae.aq,c.io)=
   agz (.done (if (∀j,i<=j->j<agy c.af.ce->iJ c.ii.am (c.af.ce[j]!).2)/\bc c.ii.am c.ci c.ae.bv (c.af.ce.drop i) ds then 0 else 8)):=by
   intro h1 h2;rw [rc h1];exact aH h2
  cases ds with
  |nil=>
   refine stop (fun h=>?_) ?_
   · rw [dr] at h
     obtain ⟨d,zO,h1,_⟩:=h.2.1 is;cases h1
   unfold cS
   simp only [e1,lw,ar c.af.ce i q8,aj,hw,is,show ((0:Int) !=0)=agE from rfl,ol,ww];rfl
  |cons d0 ds=>
   have l0:((((d0::ds).length:Nat):Int)==0)=agE:=dX (by simp;omega)
   have g0:aJ (d0::ds) 0=agz d0:=rfl
   have Bi: ∀P:Prop,(P↔d0.1=(c.af.ce[i]!).1/\(((bw c.ii.am (c.af.ce[i]!).2 c.ci).1.1,(bw c.ii.am (c.af.ce[i]!).2 c.ci).1.2,(c.af.ce[i]!).1,d0.2):Ev)∈c.ae.bv)-> ¬P-> ¬((∀j,i<=j->j<agy c.af.ce->iJ c.ii.am (c.af.ce[j]!).2)/\bc c.ii.am c.ci c.ae.bv (c.af.ce.drop i) (d0::ds)):=by
    intro P hP hn h;rw [dr] at h;obtain ⟨d,zO,h1,h2,h3,_⟩:=h.2.1 is;injection h1 with h1 _;subst h1;exact hn (hP.2 ⟨h2,h3⟩)
   by_cases b1:d0.1=(c.af.ce[i]!).1
   case neg=>
    refine stop (Bi (d0.1=(c.af.ce[i]!).1/\_) ae5 (fun h=>b1 h.1)) ?_
    unfold cS;simp only [az,e1,lw,ar c.af.ce i q8,aj,hw,is,show ((0:Int) !=0)=agE from rfl,ol,ww,l0,g0,cz b1]
   have ea:=afT mb w2 (bw c.ii.am (c.af.ce[i]!).2 c.ci).1 (c.af.ce[i]!).1 d0.2
   by_cases b2:d0.2.1<0
   · refine stop (Bi (d0.1=(c.af.ce[i]!).1/\_) ae5 (fun h=>by have:=(ea.2 h.2).1;omega)) ?_
     unfold cS;simp only [az,e1,lw,ar c.af.ce i q8,aj,hw,is,show ((0:Int) !=0)=agE from rfl,ol,ww,l0,g0,bu b1,aE b2]
   by_cases b3:200<=d0.2.1
   · refine stop (Bi (d0.1=(c.af.ce[i]!).1/\_) ae5 (fun h=>by have:=(ea.2 h.2).2.1;omega)) ?_
     unfold cS;simp only [az,e1,lw,ar c.af.ce i q8,aj,hw,is,show ((0:Int) !=0)=agE from rfl,ol,ww,l0,g0,bu b1,aC b2,aE b3]
   have gw:=dJ (l:=c.ae.aq) (i:=d0.2.1) (by omega) (by omega)
   by_cases b4:c.ae.aq[d0.2.1.toNat]!<0
   · refine stop (Bi (d0.1=(c.af.ce[i]!).1/\_) ae5 (fun h=>by have:=(ea.2 h.2).2.2.1;omega)) ?_
     unfold cS;simp only [az,e1,lw,ar c.af.ce i q8,aj,hw,is,show ((0:Int) !=0)=agE from rfl,ol,ww,l0,g0,bu b1,aC b2,aC b3,gw,aE b4]
   have gh:=dJ (l:=c.ae.bv) (i:=c.ae.aq[d0.2.1.toNat]!) (by omega) (Wk mb (by omega) (by omega))
   have sl:fW (d0::ds) 1 ((((d0::ds).length:Nat):Int))=agz ds:=by
    unfold fW;rw [pp ⟨by omega,by simp;omega,by omega⟩]
    simp
   have evq: ∀(e:Ev) (p:Int×Int) (n:Int) (h:Int×Int),((e.1==p.1)&&((e.2.1==p.2)&&((e.2.2.1==n)&&((e.2.2.2.1==h.1)&&(e.2.2.2.2==h.2)))))=agG (e=(p.1,p.2,n,h)):=by
    intro e p n h;rw [af3,decide_eq_true_iff];simp only [afI,beq_iff_eq];constructor
    · rintro ⟨h1,h2,h3,h4,h5⟩
      exact NE h1 (NE h2 (NE h3 (NE h4 h5)))
    intro h;rw [h];exact ⟨rfl,rfl,rfl,rfl,rfl⟩
   have aqM:=evq c.ae.bv[(c.ae.aq[d0.2.1.toNat]!).toNat]! (bw c.ii.am (c.af.ce[i]!).2 c.ci).1 (c.af.ce[i]!).1 d0.2
   by_cases b5:c.ae.bv[(c.ae.aq[d0.2.1.toNat]!).toNat]! =((bw c.ii.am (c.af.ce[i]!).2 c.ci).1.1,(bw c.ii.am (c.af.ce[i]!).2 c.ci).1.2,(c.af.ce[i]!).1,d0.2)
   case neg=>
    refine stop (Bi (d0.1=(c.af.ce[i]!).1/\_) ae5 (fun h=>b5 (ea.2 h.2).2.2.2)) ?_
    unfold cS;simp only [az,e1,lw,ar c.af.ce i q8,aj,hw,is,show ((0:Int) !=0)=agE from rfl,ol,ww,l0,g0,bu b1,aC b2,aC b3,gw,aC b4,gh];rw [aqM,aC b5];rfl
   have zM:=ea.1 ⟨by omega,by omega,by omega,b5⟩
   rw [aV (y:=(ds,c.af.ce,((agy c.af.ce):Int),((i+1:Nat):Int),c.ci.1,c.ci.2,c.ii.am,c.af.aN,c.af.ce,c.ae.ai.aA,c.ae.ai.be,c.ae.ai.bi,c.ae.bv,c.ae.aq,c.io)) (by
    unfold cS;simp only [az,e1,lw,ar c.af.ce i q8,aj,hw,is,show ((0:Int) !=0)=agE from rfl,ol,ww,l0,g0,bu b1,aC b2,aC b3,gw,aC b4,gh,sl,sc];rw [aqM,aE b5]
    rfl),ih (i+1) ds (by omega) (by omega) (by simp at Xf;omega)]
   have same:((∀j,i<=j->j<agy c.af.ce->iJ c.ii.am (c.af.ce[j]!).2)/\bc c.ii.am c.ci c.ae.bv (c.af.ce.drop i) (d0::ds))↔((∀j,i+1<=j->j<agy c.af.ce->iJ c.ii.am (c.af.ce[j]!).2)/\bc c.ii.am c.ci c.ae.bv (c.af.ce.drop (i+1)) ds):=by
    rw [dr,all];constructor
    · rintro ⟨⟨_,h1⟩,h2⟩
      obtain ⟨d,zO,k1,k2,k3,k4⟩:=h2.1 is;injection k1 with k1 k5;subst k5;exact ⟨h1,k4⟩
    rintro ⟨h1,h2⟩
    exact ⟨⟨hb,h1⟩,fun _=>⟨d0,ds,rfl,b1,zM,h2⟩,fun h=>by rw [is] at h;cases h⟩
   simp only [same]
theorem aZ.iff {c:aM} (fit:qP c):aZ c↔bX c.ci/\bm c.ii.am/\eQ c.af/\eT c.ae/\agy c.ae.aq=200/\agy c.ae.bv=agy c.io/\(∀i,i<agy c.af.ce->iJ c.ii.am (c.af.ce[i]!).2)/\bc c.ii.am c.ci c.ae.bv c.af.ce c.io:=
 ⟨fun h=>⟨h.nT,h.iK,h.tu,h.mb,h.GP,h.hd,h.known,h.Bi⟩,fun ⟨h1,h2,h3,h4,h5,h6,h7,h8⟩=>⟨h1,fit.fP,h2,h3,h4,h5,h6,h7,h8⟩⟩
theorem aZ.fit {c:aM} (ok:aZ c):qP c:=⟨ok.fP,ok.mb.fit,by have:=ok.hd;have:=ok.mb.bd;omega⟩
theorem Nf {c:aM} {n0 n1 n2 n3:Int}:
 ay eZ (4,0,c.ci.1,c.ci.2,c.ii.am,c.af.aN,c.af.ce,c.ae.ai.aA,c.ae.ai.be,c.ae.ai.bi,c.ae.bv,c.ae.aq,c.io,[n0,n1,n2,n3])=
  if n0=0/\n1=0/\n2=0/\n3=0 then ay eZ (4,4,c.ci.1,c.ci.2,c.ii.am,c.af.aN,c.af.ce,c.ae.ai.aA,c.ae.ai.be,c.ae.ai.bi,c.ae.bv,c.ae.aq,c.io,[n0,n1,n2,n3]) else agz 8:=by
 have st: ∀(i:Nat) (n:Int),i<4->aJ [n0,n1,n2,n3] (i:Int)=agz n->ay eZ (4,(i:Int),c.ci.1,c.ci.2,c.ii.am,c.af.aN,c.af.ce,c.ae.ai.aA,c.ae.ai.be,c.ae.ai.bi,c.ae.bv,c.ae.aq,c.io,[n0,n1,n2,n3])=
  if n=0 then ay eZ (4,((i+1:Nat):Int),c.ci.1,c.ci.2,c.ii.am,c.af.aN,c.af.ce,c.ae.ai.aA,c.ae.ai.be,c.ae.ai.bi,c.ae.bv,c.ae.aq,c.io,[n0,n1,n2,n3]) else agz 8:=by
  intro i n hi hg;have e1:agG ((i:Int)<4)=agB:=aE (by omega)
  by_cases h:n=0
  · rw [pp h]
    refine aV ?_;unfold eZ;simp only [e1,lw,hg,aj,bu h,ol,aT (show i<1000000000 by omega)]
  rw [rc h]
  refine aH ?_;unfold eZ;simp only [e1,lw,hg,aj,cz h]
 have s0:=st 0 n0 (by omega) rfl
 have s1:=st 1 n1 (by omega) rfl
 have s2:=st 2 n2 (by omega) rfl
 have s3:=st 3 n3 (by omega) rfl
 have c0:((0:Nat):Int)=0:=rfl;have c4:((3+1:Nat):Int)=4:=rfl;rw [c0] at s0;rw [c4] at s3;rw [s0]
 by_cases h0:n0=0
 · rw [pp h0,show ((0+1:Nat):Int)=((1:Nat):Int) from rfl,s1]
   by_cases h1:n1=0
   · rw [pp h1,show ((1+1:Nat):Int)=((2:Nat):Int) from rfl,s2]
     by_cases h2:n2=0
     · rw [pp h2,show ((2+1:Nat):Int)=((3:Nat):Int) from rfl,s3]
       by_cases h3:n3=0
       · rw [pp h3,pp ⟨h0,h1,h2,h3⟩]
       rw [rc h3,rc (fun h=>h3 h.2.2.2)]
     rw [rc h2,rc (fun h=>h2 h.2.2.1)]
   rw [rc h1,rc (fun h=>h1 h.2.1)]
 rw [rc h0,rc (fun h=>h0 h.1)]
theorem jT {c:aM} (fit:qP c):fT c=agz (if aZ c then 0 else 8):=by
 unfold fT;rw [ff fit.fP,eE,ve,kT _ fit.ag];simp only [aj];have h4:Int.ofNat [if bX c.ci then (0:Int) else 8,iC c.ii.am,if eQ c.af then (0:Int) else 8,if eT c.ae then (0:Int) else 8].length=4:=rfl
 rw [h4,Nf];have z: ∀(p:Prop) [Decidable p],(if p then (0:Int) else 8)=0↔p:=fun p _=>by by_cases h:p<;>simp [h]
 simp only [z,dp];have f1:=aZ.iff fit
 by_cases ok:bX c.ci/\bm c.ii.am/\eQ c.af/\eT c.ae
 case neg=>rw [rc ok,rc (c:=aZ c) (fun h=>ok ⟨h.nT,h.iK,h.tu,h.mb⟩)]
 obtain ⟨nT,iK,tu,mb⟩:=ok;rw [pp ⟨nT,iK,tu,mb⟩]
 by_cases w2:(agy c.ae.aq)=200
 case neg=>
  rw [rc (c:=aZ c) (fun h=>w2 h.GP)]
  refine aH ?_;unfold eZ;simp only [az,aC (show¬(4:Int)<4 by omega),ol,cz (show¬((agy c.ae.aq):Int)=200 by omega),lw]
 by_cases hd:(agy c.ae.bv)=agy c.io
 case neg=>
  rw [rc (c:=aZ c) (fun h=>hd h.hd)]
  refine aH ?_;unfold eZ;simp only [az,aC (show¬(4:Int)<4 by omega),ol,bu (show ((agy c.ae.aq):Int)=200 by omega),cz (show¬((agy c.ae.bv):Int)=((agy c.io):Int) by omega),lw]
 have run:=Nc nT fit.fP iK tu mb w2 (agy c.af.ce) 0 c.io (by omega) (by omega) fit.du
 rw [af5] at run;have same:((∀j,0<=j->j<agy c.af.ce->iJ c.ii.am (c.af.ce[j]!).2)/\bc c.ii.am c.ci c.ae.bv c.af.ce c.io)↔aZ c:=by
  rw [f1];constructor
  · rintro ⟨h1,h2⟩;exact ⟨nT,iK,tu,mb,w2,hd,fun i hi=>h1 i (by omega) hi,h2⟩
  rintro ⟨_,_,_,_,_,_,h1,h2⟩;exact ⟨fun j _ hj=>h1 j hj,h2⟩
 simp only [same] at run;refine aH ?_;unfold eZ;simp only [az,aC (show¬(4:Int)<4 by omega),ol,bu (show ((agy c.ae.aq):Int)=200 by omega),bu (show ((agy c.ae.bv):Int)=((agy c.io):Int) by omega)]
 exact run
theorem aeD {a:aL} (ok:eT a) (h:Int×Int):sZ a h=agz (if uD a.ai h then (a.bv[(a.aq[h.1.toNat]!).toNat]!,0) else ((0,0,0,0,0),6)):=by
 unfold sZ;rw [yK a ok.fit,pp ok,Rq ok.so];simp only [aj,show ((0:Int) !=0)=agE from rfl,ol]
 by_cases lv:uD a.ai h
 · obtain ⟨i,hi,hw,hh⟩:=ok.live lv
   have:=lv.1;have:=lv.2.1;have:=ok.wl
   rw [aE lv,pp lv,dJ (l:=a.aq) lv.1 (by omega),hw]
   simp only [ww,ol,aj,ar a.bv i hi,AC]
 rw [aC lv,rc lv];rfl
theorem Ng {c:aM} (fP:nm c.ci) (iK:bm c.ii.am) (tu:eQ c.af) (mb:eT c.ae) (w2:(agy c.ae.aq)=200) (hdu:(agy c.io)<=1000000)
 (kn: ∀i,i<agy c.af.ce->iJ c.ii.am (c.af.ce[i]!).2):
 ∀(d i k:Nat),agy c.af.ce-i<=d->i<=agy c.af.ce->k<=agy c.io->
  ay dA ((k:Int),(i:Int),c.ci.1,c.ci.2,c.ii.am,c.af.aN,c.af.ce,c.ae.ai.aA,c.ae.ai.be,c.ae.ai.bi,c.ae.bv,c.ae.aq,c.io)=
   agz (if bc c.ii.am c.ci c.ae.bv (c.af.ce.drop i) (c.io.drop k) then 0 else 8):=by
 have hl:=tu.len;have wl:=mb.wl
 have fin: ∀k:Nat,k<=agy c.io->ay dA ((k:Int),((agy c.af.ce):Int),c.ci.1,c.ci.2,c.ii.am,c.af.aN,c.af.ce,c.ae.ai.aA,c.ae.ai.be,c.ae.ai.bi,c.ae.bv,c.ae.aq,c.io)=agz (if bc c.ii.am c.ci c.ae.bv (c.af.ce.drop (agy c.af.ce)) (c.io.drop k) then 0 else 8):=by
  intro k hk;rw [adc];refine aH ?_;unfold dA;have e1:agG (((agy c.af.ce):Int)<((agy c.af.ce):Int))=agE:=aC (by omega)
  simp only [az,e1,ol]
  have:bc c.ii.am c.ci c.ae.bv [] (c.io.drop k)↔k=(agy c.io):=by
   show c.io.drop k=[]↔_;rw [adm];omega
  by_cases h:k=agy c.io
  · rw [pp (this.2 h),bu (by omega)];rfl
  rw [rc (fun x=>h (this.1 x)),cz (by omega)];rfl
 intro d
 induction d with
 |zero=>
  intro i k hd hi hk
  have:i=(agy c.af.ce):=by omega
  subst this;exact fin k hk
 |succ d ih=>
  intro i k hd hi hk
  by_cases he:i=agy c.af.ce
  · subst he;exact fin k hk
  have q8:i<(agy c.af.ce):=by omega
  have e1:agG ((i:Int)<((agy c.af.ce):Int))=agB:=aE (by omega)
  have hw:=vf iK (x:=(c.af.ce[i]!).2) (t:=(c.ci.1,c.ci.2)) fP (kn i q8);have dr:=pG q8;have sc:=aT (show i<1000000000 by omega)
  have sk:=aT (show k<1000000000 by omega)
  by_cases is:(bw c.ii.am (c.af.ce[i]!).2 c.ci).2=agB
  case neg=>
   have is':(bw c.ii.am (c.af.ce[i]!).2 c.ci).2=agE:=by simpa using is
   rw [aV (y:=((k:Int),((i+1:Nat):Int),c.ci.1,c.ci.2,c.ii.am,c.af.aN,c.af.ce,c.ae.ai.aA,c.ae.ai.be,c.ae.ai.bi,c.ae.bv,c.ae.aq,c.io)) (by
    unfold dA;simp only [az,e1,lw,ar c.af.ce i q8,aj,hw,sc,is',UV]),ih (i+1) k (by omega) (by omega) hk]
   have same:bc c.ii.am c.ci c.ae.bv (c.af.ce.drop i) (c.io.drop k)↔bc c.ii.am c.ci c.ae.bv (c.af.ce.drop (i+1)) (c.io.drop k):=by
    rw [dr];exact ⟨fun h=>h.2 is',fun h=>⟨fun h'=>absurd h' is,fun _=>h⟩⟩
   simp only [same]
  have stop:(¬bc c.ii.am c.ci c.ae.bv (c.af.ce.drop i) (c.io.drop k))->dA ((k:Int),(i:Int),c.ci.1,c.ci.2,c.ii.am,c.af.aN,c.af.ce,c.ae.ai.aA,c.ae.ai.be,c.ae.ai.bi,c.ae.bv,c.ae.aq,c.io)=agz (.done 8)->
   ay dA ((k:Int),(i:Int),c.ci.1,c.ci.2,c.ii.am,c.af.aN,c.af.ce,c.ae.ai.aA,c.ae.ai.be,c.ae.ai.bi,c.ae.bv,c.ae.aq,c.io)=agz (if bc c.ii.am c.ci c.ae.bv (c.af.ce.drop i) (c.io.drop k) then 0 else 8):=by
   intro h1 h2;rw [rc h1];exact aH h2
  by_cases To:k=agy c.io
  · refine stop (fun h=>?_) ?_
    · rw [dr] at h
      obtain ⟨d,zO,h1,_⟩:=h.1 is;rw [To,adc] at h1;cases h1
    unfold dA
    simp only [az,e1,lw,ar c.af.ce i q8,aj,hw,is,ww,ol,aE (show ((agy c.io):Int)<=(k:Int) by omega)]
  have LF:k<(agy c.io):=by omega
  have dk:=pG LF;have e2:agG (((agy c.io):Int)<=(k:Int))=agE:=aC (by omega)
  have Bi: ¬((c.io[k]!).1=(c.af.ce[i]!).1/\(((bw c.ii.am (c.af.ce[i]!).2 c.ci).1.1,(bw c.ii.am (c.af.ce[i]!).2 c.ci).1.2,(c.af.ce[i]!).1,(c.io[k]!).2):Ev)∈c.ae.bv)-> ¬bc c.ii.am c.ci c.ae.bv (c.af.ce.drop i) (c.io.drop k):=by
   intro hn h;rw [dr,dk] at h;obtain ⟨d,zO,h1,h2,h3,_⟩:=h.1 is;injection h1 with h1 _;subst h1;exact hn ⟨h2,h3⟩
  by_cases b1:(c.io[k]!).1=(c.af.ce[i]!).1
  case neg=>
   refine stop (Bi (fun h=>b1 h.1)) ?_
   unfold dA;simp only [az,e1,lw,ar c.af.ce i q8,aj,hw,is,ww,ol,e2,ar c.io k LF,cz b1]
  have fi:=aeD mb (c.io[k]!).2;have ea:=afT mb w2 (bw c.ii.am (c.af.ce[i]!).2 c.ci).1 (c.af.ce[i]!).1 (c.io[k]!).2;have fi':sZ (aL.mk (bg.mk c.ae.ai.aA c.ae.ai.be c.ae.ai.bi) c.ae.bv c.ae.aq) (c.io[k]!).2=_:=fi
  by_cases lv:uD c.ae.ai (c.io[k]!).2
  case neg=>
   rw [rc lv] at fi';refine stop (Bi (fun h=>lv ?_)) ?_
   · obtain ⟨w,WV,gx⟩:=aS.1 h.2
     have:=(mb.handle WV).1
     rwa [gx] at this
   unfold dA
   simp only [az,e1,lw,ar c.af.ce i q8,aj,hw,is,ww,ol,e2,ar c.io k LF,bu b1,fi',show ((6:Int) !=0)=agB from rfl]
  rw [pp lv] at fi';obtain ⟨w,hw1,Xg,hw3⟩:=mb.live lv;rw [Xg,AC] at fi';have q1:(0<=(c.io[k]!).2.1/\(c.io[k]!).2.1<200/\0<=c.ae.aq[(c.io[k]!).2.1.toNat]!):=⟨lv.1,by have:=lv.2.1;omega,by rw [Xg];omega⟩
  by_cases b2:(c.ae.bv[w]!).2.2.1=(c.af.ce[i]!).1
  case neg=>
   refine stop (Bi (fun h=>b2 ?_)) ?_
   · have:=(ea.2 h.2).2.2.2
     rw [Xg,AC] at this;rw [this]
   unfold dA
   simp only [az,e1,lw,ar c.af.ce i q8,aj,hw,is,ww,ol,e2,ar c.io k LF,bu b1,fi',show ((0:Int) !=0)=agE from rfl,cz b2]
  have teq:((c.ae.bv[w]!).1==(bw c.ii.am (c.af.ce[i]!).2 c.ci).1.1&&(c.ae.bv[w]!).2.1==(bw c.ii.am (c.af.ce[i]!).2 c.ci).1.2)=agG (((c.ae.bv[w]!).1,(c.ae.bv[w]!).2.1)=(bw c.ii.am (c.af.ce[i]!).2 c.ci).1):=by
   rw [af3,decide_eq_true_iff];simp only [afI,beq_iff_eq];constructor
   · rintro ⟨h1,h2⟩;exact NE h1 h2
   intro h;rw [<- h];exact ⟨rfl,rfl⟩
  by_cases b3:((c.ae.bv[w]!).1,(c.ae.bv[w]!).2.1)=(bw c.ii.am (c.af.ce[i]!).2 c.ci).1
  case neg=>
   refine stop (Bi (fun h=>b3 ?_)) ?_
   · have:=(ea.2 h.2).2.2.2
     rw [Xg,AC] at this;rw [this]
   unfold dA
   simp only [az,e1,lw,ar c.af.ce i q8,aj,hw,is,ww,ol,e2,ar c.io k LF,bu b1,fi',show ((0:Int) !=0)=agE from rfl,bu b2];rw [teq,aC b3];rfl
  have zM:=ea.1 ⟨q1.1,q1.2.1,q1.2.2,by
   rw [Xg,AC];have t1:=congrArg afX b3;have t2:=congrArg afY b3;exact NE t1 (NE t2 (NE b2 hw3))⟩
  rw [aV (y:=(((k+1:Nat):Int),((i+1:Nat):Int),c.ci.1,c.ci.2,c.ii.am,c.af.aN,c.af.ce,c.ae.ai.aA,c.ae.ai.be,c.ae.ai.bi,c.ae.bv,c.ae.aq,c.io)) (by
   unfold dA;simp only [az,e1,lw,ar c.af.ce i q8,aj,hw,is,ww,ol,e2,ar c.io k LF,bu b1,fi',show ((0:Int) !=0)=agE from rfl,bu b2,sc,sk];rw [teq,aE b3]
   rfl),ih (i+1) (k+1) (by omega) (by omega) (by omega)]
  have same:bc c.ii.am c.ci c.ae.bv (c.af.ce.drop i) (c.io.drop k)↔bc c.ii.am c.ci c.ae.bv (c.af.ce.drop (i+1)) (c.io.drop (k+1)):=by
   rw [dr,dk];constructor
   · intro h2
     obtain ⟨d,zO,k1,k2,k3,k4⟩:=h2.1 is;injection k1 with k1 k5;subst k5;exact k4
   intro h2
   exact ⟨fun _=>⟨_,_,rfl,b1,zM,h2⟩,fun h=>by rw [is] at h;cases h⟩
  simp only [same]
theorem GQ {c:aM} (fit:qP c):uy c=agz (if aZ c then 0 else 8):=by
 unfold uy;rw [lW fit.fP,gp,yN,yK _ fit.ag];simp only [aj]
 by_cases nT:bX c.ci
 case neg=>rw [rc nT,rc (c:=aZ c) (fun h=>nT h.nT)];rfl
 rw [pp nT]
 by_cases iK:bm c.ii.am
 case neg=>rw [cz (fun h=>iK (dp.1 h)),rc (c:=aZ c) (fun h=>iK h.iK)];rfl
 rw [bu (dp.2 iK)]
 by_cases tu:eQ c.af
 case neg=>rw [rc tu,rc (c:=aZ c) (fun h=>tu h.tu)];rfl
 rw [pp tu];have kn:=Wj c.af iK tu.len;simp only [show ((0:Int) !=0)=agE from rfl,ol,kn,aj]
 by_cases known: ∀i,i<agy c.af.ce->iJ c.ii.am (c.af.ce[i]!).2
 case neg=>rw [aC known,rc (c:=aZ c) (fun h=>known h.known)];rfl
 rw [aE known]
 by_cases mb:eT c.ae
 case neg=>rw [rc mb,rc (c:=aZ c) (fun h=>mb h.mb)];rfl
 rw [pp mb];simp only [az,show ((0:Int) !=0)=agE from rfl,ol,ww]
 by_cases w2:(agy c.ae.aq)=200
 case neg=>rw [cz (by omega),rc (c:=aZ c) (fun h=>w2 h.GP)];rfl
 rw [bu (by omega)]
 by_cases hd:(agy c.ae.bv)=agy c.io
 case neg=>rw [cz (by omega),rc (c:=aZ c) (fun h=>hd h.hd)];rfl
 rw [bu (by omega)]
 have run:=Ng fit.fP iK tu mb w2 fit.du known (agy c.af.ce) 0 0 (by omega) (by omega) (by omega)
 rw [af5,af5] at run;have same:bc c.ii.am c.ci c.ae.bv c.af.ce c.io↔aZ c:=by
  rw [aZ.iff fit];exact ⟨fun h=>⟨nT,iK,tu,mb,w2,hd,known,h⟩,fun h=>h.2.2.2.2.2.2.2⟩
 simp only [same] at run;simp only [ol];exact run
section
variable {l : List Pt} {t : Int × Int}
theorem bc.ie {H:List Ev} {x:ry} {cs ds:List ry} (h:(bw l x.2 t).2=agB):bc l t H (x::cs) ds↔ ∃d zO,ds=d::zO/\d.1=x.1/\(((bw l x.2 t).1.1,(bw l x.2 t).1.2,x.1,d.2):Ev)∈H/\bc l t H cs zO:=
 ⟨fun k=>k.1 h,fun k=>⟨fun _=>k,fun k'=>(by rw [h] at k';cases k')⟩⟩
theorem bc.gb {H:List Ev} {x:ry} {cs ds:List ry} (h:(bw l x.2 t).2=agE):bc l t H (x::cs) ds↔bc l t H cs ds:=
 ⟨fun k=>k.2 h,fun k=>⟨fun k'=>(by rw [h] at k';cases k'),fun _=>k⟩⟩
theorem bc.mono {H H':List Ev}: ∀{cs ds:List ry},(∀x∈cs,∀e:Ev,e.num=x.1->e∈H->e∈H')->bc l t H cs ds->bc l t H' cs ds
 | [],_,_,h=>h
 |x::cs,ds,hm,h=>by
  have CU: ∀y∈cs,∀e:Ev,e.num=y.1->e∈H->e∈H':=fun y hy=>hm y (by simp [hy])
  cases hx:(bw l x.2 t).2 with
  |true=>
   rw [bc.ie hx] at h ⊢;obtain ⟨d,zO,h1,h2,h3,h4⟩:=h;exact ⟨d,zO,h1,h2,hm x (by simp) _ rfl h3,bc.mono CU h4⟩
  |false=>
   rw [bc.gb hx] at h ⊢;exact bc.mono CU h
theorem bc.io {H:List Ev}: ∀{cs ds:List ry},bc l t H cs ds-> ∀d∈ds,∃x∈cs,d.1=x.1/\(bw l x.2 t).2=agB/\(((bw l x.2 t).1.1,(bw l x.2 t).1.2,x.1,d.2):Ev)∈H
 | [],ds,h,d,hd=>by
  have:ds=[]:=h
  subst this;cases hd
 |x::cs,ds,h,d,hd=>by
  cases hx:(bw l x.2 t).2 with
  |true=>
   rw [bc.ie hx] at h;obtain ⟨e,zO,h1,h2,h3,h4⟩:=h;subst h1;rcases afc.1 hd with rfl|hd
   · exact ⟨x,by simp,h2,hx,h3⟩
   obtain ⟨y,hy,k⟩:=bc.io h4 d hd
   exact ⟨y,by simp [hy],k⟩
  |false=>
   rw [bc.gb hx] at h;obtain ⟨y,hy,k⟩:=bc.io h d hd;exact ⟨y,by simp [hy],k⟩
theorem bc.has {H:List Ev}: ∀{cs ds:List ry},bc l t H cs ds-> ∀x∈cs,(bw l x.2 t).2=agB-> ∃d∈ds,d.1=x.1/\(((bw l x.2 t).1.1,(bw l x.2 t).1.2,x.1,d.2):Ev)∈H
 | [],_,_,x,hx,_=>by cases hx
 |y::cs,ds,h,x,hx,hf=>by
  cases hy:(bw l y.2 t).2 with
  |true=>
   rw [bc.ie hy] at h;obtain ⟨e,zO,h1,h2,h3,h4⟩:=h;subst h1;rcases afc.1 hx with rfl|hx
   · exact ⟨e,by simp,h2,h3⟩
   obtain ⟨d,hd,k⟩:=bc.has h4 x hx hf
   exact ⟨d,by simp [hd],k⟩
  |false=>
   rw [bc.gb hy] at h;rcases afc.1 hx with rfl|hx
   · rw [hf] at hy;cases hy
   exact bc.has h x hx hf
def Up (cs:List ry):Prop:=cs.Pairwise fun x y=>x.1<y.1
theorem qg {cs:List ry}:Up cs↔ ∀i j,i<j->j<agy cs->(cs[i]!).1<(cs[j]!).1:=by
 unfold Up;rw [List.pairwise_iff_getElem];constructor
 · intro h i j lq hj
   rw [getElem!_pos cs i (by omega),getElem!_pos cs j hj]
   exact h i j (by omega) hj lq
 intro h i j hi hj lq
 have:=h i j lq hj
 rwa [getElem!_pos cs i hi,getElem!_pos cs j hj] at this
theorem bc.up {H:List Ev}: ∀{cs ds:List ry},bc l t H cs ds->Up cs->Up ds
 | [],ds,h,_=>by
  have:ds=[]:=h
  subst this;exact List.Pairwise.nil
 |x::cs,ds,h,hu=>by
  have Cy:=afj.1 hu;cases hx:(bw l x.2 t).2 with
  |true=>
   rw [bc.ie hx] at h;obtain ⟨e,zO,h1,h2,h3,h4⟩:=h;subst h1;refine afj.2 ⟨fun d hd=>?_,bc.up h4 Cy.2⟩
   obtain ⟨y,hy,k,_⟩:=bc.io h4 d hd
   have:=Cy.1 y hy
   omega
  |false=>
   rw [bc.gb hx] at h;exact bc.up h Cy.2
theorem bc.snoc {H:List Ev}: ∀{cs ds:List ry} {x:ry},bc l t H cs ds->((bw l x.2 t).2=agE->bc l t H (cs++[x]) ds)/\
 (∀d:ry,(bw l x.2 t).2=agB->d.1=x.1->(((bw l x.2 t).1.1,(bw l x.2 t).1.2,x.1,d.2):Ev)∈H->bc l t H (cs++[x]) (ds++[d]))
 | [],ds,x,h=>by
  have:ds=[]:=h
  subst this;refine ⟨fun hx=>(bc.gb hx).2 rfl,fun d hx h1 h2=>(bc.ie hx).2 ⟨d,[],rfl,h1,h2,rfl⟩⟩
 |y::cs,ds,x,h=>by
  cases hy:(bw l y.2 t).2 with
  |true=>
   rw [bc.ie hy] at h;obtain ⟨e,zO,h1,h2,h3,h4⟩:=h;subst h1;have ih:=bc.snoc (x:=x) h4;refine ⟨fun hx=>(bc.ie hy).2 ⟨e,zO,rfl,h2,h3,ih.1 hx⟩,fun d hx k1 k2=>(bc.ie hy).2 ⟨e,zO++[d],rfl,h2,h3,ih.2 d hx k1 k2⟩⟩
  |false=>
   rw [bc.gb hy] at h;have ih:=bc.snoc (x:=x) h;exact ⟨fun hx=>(bc.gb hy).2 (ih.1 hx),fun d hx k1 k2=>(bc.gb hy).2 (ih.2 d hx k1 k2)⟩
theorem bc.erase {H:List Ev}: ∀{cs ds:List ry} {i:Nat},bc l t H cs ds->i<agy cs->((bw l (cs[i]!).2 t).2=agE->bc l t H (cs.eraseIdx i) ds)/\
 ((bw l (cs[i]!).2 t).2=agB-> ∃k,k<agy ds/\(ds[k]!).1=(cs[i]!).1/\(((bw l (cs[i]!).2 t).1.1,(bw l (cs[i]!).2 t).1.2,(cs[i]!).1,(ds[k]!).2):Ev)∈H/\bc l t H (cs.eraseIdx i) (ds.eraseIdx k))
 | [],_,i,_,hi=>by cases hi
 |y::cs,ds,0,h,_=>by
  show ((bw l y.2 t).2=agE->bc l t H cs ds)/\((bw l y.2 t).2=agB-> ∃k,k<agy ds/\(ds[k]!).1=y.1/\(((bw l y.2 t).1.1,(bw l y.2 t).1.2,y.1,(ds[k]!).2):Ev)∈H/\bc l t H cs (ds.eraseIdx k));refine ⟨fun hy=>(bc.gb hy).1 h,fun hy=>?_⟩
  obtain ⟨e,zO,h1,h2,h3,h4⟩:=(bc.ie hy).1 h;subst h1;exact ⟨0,by simp,h2,h3,h4⟩
 |y::cs,ds,i+1,h,hi=>by
  have q8:i<(agy cs):=by simpa using hi
  show ((bw l (cs[i]!).2 t).2=agE->bc l t H (y::cs.eraseIdx i) ds)/\((bw l (cs[i]!).2 t).2=agB-> ∃k,k<agy ds/\(ds[k]!).1=(cs[i]!).1/\(((bw l (cs[i]!).2 t).1.1,(bw l (cs[i]!).2 t).1.2,(cs[i]!).1,(ds[k]!).2):Ev)∈H/\bc l t H (y::cs.eraseIdx i) (ds.eraseIdx k));cases hy:(bw l y.2 t).2 with
  |true=>
   obtain ⟨e,zO,h1,h2,h3,h4⟩:=(bc.ie hy).1 h;subst h1;have ih:=bc.erase (i:=i) h4 q8;refine ⟨fun hx=>(bc.ie hy).2 ⟨e,zO,rfl,h2,h3,ih.1 hx⟩,fun hx=>?_⟩
   obtain ⟨k,k1,k2,k3,k4⟩:=ih.2 hx;exact ⟨k+1,by simp;omega,k2,k3,(bc.ie hy).2 ⟨e,zO.eraseIdx k,rfl,h2,h3,k4⟩⟩
  |false=>
   have h:=(bc.gb hy).1 h;have ih:=bc.erase (i:=i) h q8;refine ⟨fun hx=>(bc.gb hy).2 (ih.1 hx),fun hx=>?_⟩
   obtain ⟨k,k1,k2,k3,k4⟩:=ih.2 hx;exact ⟨k,k1,k2,k3,(bc.gb hy).2 k4⟩
end
theorem D3 {H:List Ev} {ns:List Int} (hd:ns.Nodup) (hl:(agy H)<=agy ns) (he: ∀n∈ns,∃e∈H,Ev.num e=n): ∀e∈H,Ev.num e∈ns:=by
 have pos: ∀n,n∈ns-> ∃w,w<agy H/\Ev.num H[w]! =n:=fun n hn=>by
  obtain ⟨e,he,h2⟩:=he n hn;obtain ⟨w,hw,rfl⟩:=aS.1 he;exact ⟨w,hw,h2⟩
 let f:Int->Nat:=fun n=>if h: ∃w,w<agy H/\Ev.num H[w]! =n then h.choose else 0
 have hf: ∀n∈ns,f n<agy H/\Ev.num H[f n]! =n:=fun n hn=>by
  have h:=pos n hn;show (if h: ∃w,w<agy H/\Ev.num H[w]! =n then h.choose else 0)<_/\Ev.num H[(if h: ∃w,w<agy H/\Ev.num H[w]! =n then h.choose else 0)]! =n
  rw [dif_pos h];exact h.choose_spec
 have full:=DY (n:=agy H) (l:=ns.map f) (zF hd fun x hx y hy h=>by
  have h1:=(hf x hx).2;have h2:=(hf y hy).2;rw [h] at h1
  omega) (fun x hx=>by
  obtain ⟨n,hn,rfl⟩:=PP.1 hx;exact (hf n hn).1) (by rw [afM];exact hl)
 intro e hm;obtain ⟨w,hw,rfl⟩:=aS.1 hm;obtain ⟨n,hn,h⟩:=PP.1 (full w hw);rw [<- h,(hf n hn).2];exact hn
theorem Nh {cs:List ry} (h:Up cs):(cs.map fun x=>x.1).Nodup:=by
 refine zF ?_ ?_
 · unfold Up at h
   exact h.imp fun RN he=>by rw [he] at RN;omega
 intro x hx y hy he
 obtain ⟨i,hi,rfl⟩:=aS.1 hx;obtain ⟨j,hj,rfl⟩:=aS.1 hy;rcases ae2 i j with h1|h1|h1
 · have:=qg.1 h i j h1 hj;omega
 · rw [h1]
 have:=qg.1 h j i h1 hi;omega
theorem aZ.rz {c:aM} (ok:aZ c):Up c.af.ce:=qg.2 ok.tu.up
theorem aZ.A8 {c:aM} (ok:aZ c):Up c.io:=ok.Bi.up ok.rz
theorem aZ.A7 {c:aM} (ok:aZ c): ∀e∈c.ae.bv,∃d∈c.io,d.1=Ev.num e:=by
 have:=D3 (H:=c.ae.bv) (Nh ok.A8) (by rw [afM,ok.hd];exact Do _) (fun n hn=>by
  obtain ⟨d,hd,rfl⟩:=PP.1 hn;obtain ⟨x,hx,h1,h2,h3⟩:=ok.Bi.io d hd;exact ⟨_,h3,h1.symm⟩)
 intro e he;obtain ⟨d,hd,h⟩:=PP.1 (this e he);exact ⟨d,hd,h⟩
end Go.Proofs.YtbgoiokedpjgbaaGreat
