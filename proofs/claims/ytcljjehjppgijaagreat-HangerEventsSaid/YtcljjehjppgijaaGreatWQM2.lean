/- Plain laws (2). -/
import Derived.Test.YtcljjehjppgijaaGreatWQM1
open Classical renaming not_not->lw,not_forall->AC,not_imp->EQ
open List renaming length_set->pp,length_take->Do,take_of_length_le->If,take_append_of_le_length->IR,mem_map->PP,append_assoc->aa1,drop_length->aa3,drop_eq_nil_iff->aa4,length_append->aa5,set_eq_of_length_le->aa9,length_drop->aak,drop_eq_nil_of_le->ab2,drop_zero->ab9,filter_eq_self->aba,mem_cons->abc,getElem?_take->abd,filter_append->abe,pairwise_cons->abg,getElem?_set->abi,length_cons->abm,isEmpty_iff->abn,length_nil->abD,append_nil->abF,length_map->abK,replicate->abO,take_take->abR,set_comm->ac2,length->acp
open Bool renaming not_true->ut,not_false->UV,eq_iff_iff->ab7,and_eq_true->abB,and_self->ac7,true->acy,false->acF
open Int renaming toNat_natCast->v6,lt_irrefl->abb
open Nat renaming le_refl->ww,ble_eq_true_of_le->aa2,lt_trichotomy->aa8,sub_self->aaI,eq_of_beq_eq_true->ab8,le_trans->ace,beq->ack,min_self->acl
open Prod renaming ext->NE,fst->abU,snd->ac0
open Iff renaming rfl->aaH
open Option renaming some->acr
open Decidable renaming decide->acI
namespace Go.Proofs.YtcljjehjppgijaaGreat
open Go.Vm Classical
theorem I3 (a:aJ) (fit:yA a) (so:ek a.ae) (wl:(acp a.aj)=acp a.ae.ar):
 aB kA (a.aj,((acp a.aj):Int),0,a.ae.ar,a.ae.be,a.ae.bi,a.bv,a.aj)=acr (if (∀i,i<acp a.ae.ar->F9 a i)/\(∀k,k<acp a.bv->GW a.bv k) then 0 else 8):=by
 have hu:=so.ul;have hn:=so.n2;have hh:=fit.hp;have F0:=I2 a.bv a.ae.ar a.ae.bi a.aj a.ae.be fit.hp fit.Nf;have key:=cN (body:=kA) (fun i=>(a.aj,((acp a.aj):Int),(i:Int),a.ae.ar,a.ae.be,a.ae.bi,a.bv,a.aj)) (acp a.aj) (fun i=> ¬F9 a i) (r:=8) (e:=if (∀k,k<acp a.bv->GW a.bv k) then 0 else 8) (fun i hi=>by
  have e1:acI ((i:Int)<((acp a.aj):Int))=acy:=aI (by omega);unfold kA;simp only [ay,e1,kw,aq a.aj i hi,aq a.ae.be i (by omega),aq a.ae.ar i (by omega),ao,aT (show i<1000000000 by omega)];unfold F9;generalize a.aj[i]! =w at*;cases hb:a.ae.be[i]! with
  |false=>
   simp only [UV,kw]
   by_cases hw:w= -1
   · rw [bL hw]
     exact ⟨fun h=>absurd ⟨fun h=>(by cases h),fun _=>hw⟩ h,fun _=>rfl⟩
   rw [dd hw]
   exact ⟨fun _=>rfl,fun h=>absurd ((lw.1 h).2 trivial) hw⟩
  |true=>
   simp only [ut,lc]
   by_cases b1:w<0
   · rw [aI b1]
     exact ⟨fun _=>rfl,fun h=>absurd ((lw.1 h).1 trivial).1 (by omega)⟩
   by_cases b2:((acp a.bv):Int)<=w
   · rw [aD b1,aI b2]
     exact ⟨fun _=>rfl,fun h=>absurd ((lw.1 h).1 trivial).2.1 (by omega)⟩
   rw [aD b1,aD b2];simp only [lc,de (l:=a.bv) (i:=w) (by omega) (by omega),ao]
   by_cases b3:(a.bv[w.toNat]!).2.2.2.1=i
   · by_cases b4:(a.bv[w.toNat]!).2.2.2.2=a.ae.ar[i]!
     · rw [dL b3,dL b4]
       exact ⟨fun h=>absurd ⟨fun _=>⟨by omega,by omega,b3,b4⟩,fun h=>(by cases h)⟩ h,fun _=>rfl⟩
     rw [dL b3,dB b4]
     exact ⟨fun _=>rfl,fun h=>absurd ((lw.1 h).1 trivial).2.2.2 b4⟩
   rw [dB b3]
   exact ⟨fun _=>rfl,fun h=>absurd ((lw.1 h).1 trivial).2.2.1 b3⟩) (by
  unfold kA;have:acI (((acp a.aj):Int)<((acp a.aj):Int))=acF:=aD (by omega);simp only [ay,this,lc]
  by_cases hx: ∀k,k<acp a.bv->GW a.bv k
  · rw [lm hx];exact F0.1 hx
  rw [ls hx];exact F0.2 hx)
 by_cases hw: ∀i,i<acp a.ae.ar->F9 a i
 · refine (key.2 fun i hi=>lw.2 (hw i (by omega))).trans ?_
   by_cases hx: ∀k,k<acp a.bv->GW a.bv k
   · rw [lm hx,lm ⟨hw,hx⟩]
   rw [ls hx,ls (fun h=>hx h.2)]
 rw [ls (fun h=>hw h.1)]
 obtain ⟨i,h⟩:=AC.1 hw;obtain ⟨hi,hx⟩:=EQ.1 h;exact key.1 ⟨i,by omega,hx⟩
theorem iO (a:aJ) (fit:yA a):iW a=acr (if dZ a then 0 else 8):=by
 have hh:=fit.hp;unfold iW;rw [uy _ fit.fr];simp only [ay]
 by_cases so:ek a.ae
 case neg=>rw [ls so,ls (fun h=>so h.so)];rfl
 have hu:=so.ul;have hn:=so.n2;have hf:=so.fl;rw [lm so];simp only [ao,show ((0:Int) !=0)=acF from rfl,lc]
 by_cases wl:(acp a.aj)=acp a.ae.ar
 case neg=>rw [dd (by omega),ls (fun h=>wl h.wl)];rfl
 rw [bL (by omega)];have e:ai .i64 (((acp a.ae.be):Int) - ((acp a.ae.bi):Int))=((acp a.ae.ar-(acp a.ae.bi):Nat):Int):=by rw [wi];omega
 rw [e]
 by_cases hl:(acp a.bv)+acp a.ae.bi=acp a.ae.ar
 case neg=>rw [dd (by omega),ls (fun h=>hl h.hl)];rfl
 rw [bL (by omega)];simp only [lc];rw [I3 a fit so wl]
 by_cases ok:dZ a
 · rw [lm ok,lm ok.to]
 rw [ls ok,ls]
 intro h;exact ok (dZ.of fit so wl hl h.1 h.2)
theorem TQ {x y:Ev} (hx:iI (x.1,x.2.1)) (hy:iI (y.1,y.2.1)):dR x y=acr (acI (less x y)):=by
 unfold dR less;rw [wQ hx hy];simp only [ao];generalize dH (x.1,x.2.1) (y.1,y.2.1)=c
 by_cases h1:c<0
 · simp [h1]
 by_cases h2:c=0
 · subst h2;simp
 simp only [h1,dB h2,h2,decide_false,lc,false_or,false_and]
theorem OR {s:aS} (ok:ek s) (h:Int×Int):sC s h=acr (acI (tQ s h)):=by
 have hu:=ok.ul;unfold sC tQ;simp only [ay]
 by_cases a1:0<=h.1
 · by_cases a2:h.1<acp s.ar
   · simp only [a1,a2,decide_true,kw,de (l:=s.be) a1 (by omega),de (l:=s.ar) a1 a2,ao,true_and]
     generalize s.ar[h.1.toNat]! =u;cases s.be[h.1.toNat]!<;>simp [OL]
   simp [a1,a2]
 simp [a1]
theorem Qu (a:aJ) (so:ek a.ae):rE a=acr (acI (acp a.aj=acp a.ae.ar/\acp a.bv+acp a.ae.bi=acp a.ae.ar/\ ∀i,i<acp a.ae.ar->F9 a i)):=by
 have hu:=so.ul;have hn:=so.n2;have hf:=so.fl;unfold rE;simp only [ay]
 by_cases wl:(acp a.aj)=acp a.ae.ar
 case neg=>rw [dd (by omega),aD (fun h=>wl h.1)];rfl
 rw [bL (by omega)];have e:ai .i64 (((acp a.ae.ar):Int) - ((acp a.ae.bi):Int))=((acp a.ae.ar-(acp a.ae.bi):Nat):Int):=by rw [wi];omega
 rw [e]
 by_cases hl:(acp a.bv)+acp a.ae.bi=acp a.ae.ar
 case neg=>rw [dd (by omega),aD (fun h=>hl h.2.1)];rfl
 rw [bL (by omega)];simp only [lc];have key:=cN (body:=mR) (fun i=>(((acp a.ae.ar):Int),(i:Int),a.ae.ar,a.ae.be,a.ae.bi,a.bv,a.aj)) (acp a.ae.ar) (fun i=> ¬F9 a i) (r:=acF) (e:=acy) (fun i hi=>by
  have e1:acI ((i:Int)<((acp a.ae.ar):Int))=acy:=aI (by omega);unfold mR;simp only [ay,e1,kw,aq a.aj i (by omega),aq a.ae.be i (by omega),ao,aT (show i<1000000000 by omega)];unfold F9;generalize a.aj[i]! =w at*;cases hb:a.ae.be[i]! with
  |false=>
   simp only [UV,kw]
   by_cases hw:w= -1
   · rw [bL hw]
     exact ⟨fun h=>absurd ⟨fun h=>(by cases h),fun _=>hw⟩ h,fun _=>rfl⟩
   rw [dd hw]
   exact ⟨fun _=>rfl,fun h=>absurd ((lw.1 h).2 trivial) hw⟩
  |true=>
   simp only [ut,lc]
   by_cases b1:w<0
   · rw [aI b1]
     exact ⟨fun _=>rfl,fun h=>absurd ((lw.1 h).1 trivial).1 (by omega)⟩
   by_cases b2:((acp a.bv):Int)<=w
   · rw [aD b1,aI b2]
     exact ⟨fun _=>rfl,fun h=>absurd ((lw.1 h).1 trivial).2.1 (by omega)⟩
   rw [aD b1,aD b2];simp only [lc,de (l:=a.bv) (i:=w) (by omega) (by omega),ao]
   by_cases b3:(a.bv[w.toNat]!).2.2.2.1=i
   · rw [bL b3]
     simp only [lc];rw [OR (s:=⟨a.ae.ar,a.ae.be,a.ae.bi⟩) so];have lv:tQ ⟨a.ae.ar,a.ae.be,a.ae.bi⟩ (a.bv[w.toNat]!).2.2.2↔(a.bv[w.toNat]!).2.2.2.2=a.ae.ar[i]!:=by
      unfold tQ;dsimp only;rw [b3];constructor
      · intro h;exact h.2.2.2.symm
      intro h;exact ⟨by omega,by omega,by rw [v6];exact hb,by rw [v6];exact h.symm⟩
     simp only [ao,lv]
     by_cases b4:(a.bv[w.toNat]!).2.2.2.2=a.ae.ar[i]!
     · rw [aI b4]
       exact ⟨fun h=>absurd ⟨fun _=>⟨by omega,by omega,b3,b4⟩,fun h=>(by cases h)⟩ h,fun _=>rfl⟩
     rw [aD b4]
     exact ⟨fun _=>rfl,fun h=>absurd ((lw.1 h).1 trivial).2.2.2 b4⟩
   rw [dd b3]
   exact ⟨fun _=>rfl,fun h=>absurd ((lw.1 h).1 trivial).2.2.1 b3⟩) (by
  unfold mR;have:acI (((acp a.ae.ar):Int)<((acp a.ae.ar):Int))=acF:=aD (by omega);simp only [this,lc])
 by_cases hw: ∀i,i<acp a.ae.ar->F9 a i
 · rw [aI ⟨wl,hl,hw⟩]
   exact key.2 fun i hi=>lw.2 (hw i hi)
 rw [aD (fun h=>hw h.2.2)]
 obtain ⟨i,h⟩:=AC.1 hw;obtain ⟨hi,hx⟩:=EQ.1 h;exact key.1 ⟨i,hi,hx⟩
theorem K5 (H:List Ev) (u fr W:List Int) (us:List Bool) (k:Nat) (hk:k<acp H) (hl:(acp H)<=1000000) (x:Ev):
 ((∃j,j<k/\(H[j]!).2.2.1=x.2.2.1)->aB jH ((k:Int),0,u,us,fr,H,W,x)=acr (.done 8))/\
 ((∀j,j<k-> ¬(H[j]!).2.2.1=x.2.2.1)->aB jH ((k:Int),0,u,us,fr,H,W,x)=acr (.next (((k+1:Nat):Int),u,us,fr,H,W))):=by
 refine cN (body:=jH) (fun j=>((k:Int),(j:Int),u,us,fr,H,W,x)) k (fun j=>(H[j]!).2.2.1=x.2.2.1) (r:= .done 8) (e:= .next (((k+1:Nat):Int),u,us,fr,H,W)) (fun j hj=>?_) ?_
 · have e1:acI ((j:Int)<(k:Int))=acy:=aI (by omega)
   unfold jH;simp only [e1,kw,aq H j (by omega),ao,aT (show j<1000000000 by omega)];constructor
   · intro h;rw [dL h];rfl
   intro h;rw [dB h];rfl
 unfold jH
 have:acI ((k:Int)<(k:Int))=acF:=aD (by omega);simp only [this,lc,aT (show k<1000000000 by omega)]
theorem K6 (H:List Ev) (u fr W:List Int) (us:List Bool) (hl:(acp H)<=1000000) (lg: ∀w,w<acp H->iI ((H[w]!).1,(H[w]!).2.1)):
 aB jI (1,u,us,fr,H,W)=acr (.done (if∀k,0<k->k<acp H-> ¬less H[k]! H[(k-1) / 2]! then 0 else 8)):=by
 by_cases h0:(acp H)=0
 · rw [lm (fun k _ hk=>by omega)]
   refine aC ?_;unfold jI;have:acI ((1:Int)<((acp H):Int))=acF:=aD (by omega);simp only [ay,this,lc]
 have key:=cN (body:=jI) (fun i=>(((i+1:Nat):Int),u,us,fr,H,W)) (acp H-1) (fun i=>less H[i+1]! H[i / 2]!) (r:= .done 8) (e:= .done 0) (fun i hi=>by
  have e1:acI (((i+1:Nat):Int)<((acp H):Int))=acy:=aI (by omega);unfold jI;simp only [ay,e1,kw,qO (show i<1000000000 by omega),aq H (i+1) (by omega),aq H (i / 2) (by omega),ao,TQ (lg (i+1) (by omega)) (lg (i / 2) (by omega)),aT (show i+1<1000000000 by omega)];constructor
  · intro h;rw [aI h];rfl
  · intro h;rw [aD h];rfl) (by
  unfold jI;have:acI (((acp H-1+1:Nat):Int)<((acp H):Int))=acF:=aD (by omega);simp only [ay,this,lc])
 by_cases ho: ∀k,0<k->k<acp H-> ¬less H[k]! H[(k-1) / 2]!
 · rw [lm ho]
   refine key.2 fun i hi hc=>ho (i+1) (by omega) (by omega) ?_
   rwa [show (i+1-1) / 2=i / 2 by omega]
 rw [ls ho]
 obtain ⟨k,h⟩:=AC.1 ho;obtain ⟨k0,h⟩:=EQ.1 h;obtain ⟨hk,hx⟩:=EQ.1 h;refine key.1 ⟨k-1,by omega,?_⟩;rw [show k-1+1=k by omega];exact lw.1 hx
def I4 (H:List Ev) (k:Nat):Prop:=aW ((H[k]!).1,(H[k]!).2.1)/\0<=(H[k]!).2.2.1/\(H[k]!).2.2.1<=1000000/\(∀j,j<k-> ¬(H[j]!).2.2.1=(H[k]!).2.2.1)
theorem yB (a:aJ) (fit:yA a):qx a=acr (if dZ a then 0 else 8):=by
 have hh:=fit.hp;unfold qx;rw [F8 _ fit.fr]
 by_cases so:ek a.ae
 case neg=>rw [ls so,ls (fun h=>so h.so)];rfl
 rw [lm so];simp only [ao,show ((0:Int) !=0)=acF from rfl,lc,Qu a so]
 by_cases pl:(acp a.aj)=acp a.ae.ar/\acp a.bv+acp a.ae.bi=acp a.ae.ar/\ ∀i,i<acp a.ae.ar->F9 a i
 case neg=>rw [aD pl,ls (fun h=>pl ⟨h.wl,h.hl,h.to.1⟩)];rfl
 rw [aI pl];obtain ⟨wl,hl,hw⟩:=pl;simp only [ut,lc];have key:=cN (body:=ot) (fun k=>((k:Int),a.ae.ar,a.ae.be,a.ae.bi,a.bv,a.aj)) (acp a.bv) (fun k=> ¬I4 a.bv k) (r:=8) (e:=if∀k,0<k->k<acp a.bv-> ¬less a.bv[k]! a.bv[(k-1) / 2]! then 0 else 8) (fun k hk=>by
  have e1:acI ((k:Int)<((acp a.bv):Int))=acy:=aI (by omega);have l1:=K5 a.bv a.ae.ar a.ae.bi a.aj a.ae.be k hk hh a.bv[k]!;unfold ot;simp only [ay,e1,kw,aq a.bv k hk,ao,lM (fit.Nf k hk)];unfold I4
  by_cases b1:aW ((a.bv[k]!).1,(a.bv[k]!).2.1)
  case neg=>rw [ls b1];exact ⟨fun _=>rfl,fun h=>absurd (lw.1 h).1 b1⟩
  rw [lm b1]
  by_cases b2:(a.bv[k]!).2.2.1<0
  · rw [aI b2]
    exact ⟨fun _=>rfl,fun h=>absurd (lw.1 h).2.1 (by omega)⟩
  by_cases b3:1000000<(a.bv[k]!).2.2.1
  · rw [aD b2,aI b3]
    exact ⟨fun _=>rfl,fun h=>absurd (lw.1 h).2.2.1 (by omega)⟩
  rw [aD b2,aD b3];simp only [show ((0:Int) !=0)=acF from rfl,lc]
  by_cases b4: ∃j,j<k/\(a.bv[j]!).2.2.1=(a.bv[k]!).2.2.1
  · refine ⟨fun _=>l1.1 b4,fun h=>?_⟩
    obtain ⟨j,j1,j2⟩:=b4;exact absurd j2 ((lw.1 h).2.2.2 j j1)
  · have b4': ∀j,j<k-> ¬(a.bv[j]!).2.2.1=(a.bv[k]!).2.2.1:=fun j h1 h2=>b4 ⟨j,h1,h2⟩
    exact ⟨fun h=>absurd ⟨b1,by omega,by omega,b4'⟩ h,fun _=>l1.2 b4'⟩) (by
  unfold ot;have:acI (((acp a.bv):Int)<((acp a.bv):Int))=acF:=aD (by omega);simp only [ay,this,lc];exact K6 a.bv _ _ _ _ hh fit.Nf)
 have same:dZ a↔(∀k,k<acp a.bv->I4 a.bv k)/\ ∀k,0<k->k<acp a.bv-> ¬less a.bv[k]! a.bv[(k-1) / 2]!:=by
  constructor
  · intro ok
    refine ⟨fun k hk=>?_,ok.ord⟩;have:=ok.to.2 k hk;exact ⟨this.1,this.2.1,this.2.2.1,this.2.2.2.1⟩
  rintro ⟨h1,h2⟩
  refine dZ.of fit so wl hl hw fun k hk=>?_
  obtain ⟨c1,c2,c3,c4⟩:=h1 k hk;refine ⟨c1,c2,c3,c4,fun k0=>?_⟩;unfold Ng;rw [lm ⟨c1,(h1 ((k-1) / 2) (by omega)).1⟩,BK];exact h2 k k0 hk
 by_cases he: ∀k,k<acp a.bv->I4 a.bv k
 · refine (key.2 fun i hi=>lw.2 (he i hi)).trans ?_
   by_cases ho: ∀k,0<k->k<acp a.bv-> ¬less a.bv[k]! a.bv[(k-1) / 2]!
   · rw [lm ho,lm (same.2 ⟨he,ho⟩)]
   rw [ls ho,ls (fun h=>ho (same.1 h).2)]
 rw [ls (fun h=>he (same.1 h).1)]
 obtain ⟨i,h⟩:=AC.1 he;obtain ⟨hi,hx⟩:=EQ.1 h;exact key.1 ⟨i,hi,hx⟩
theorem zU {l:List Ev} {n:Nat} {e:Ev} (hn:n<=acp l):e∈l.take n↔ ∃w,w<n/\l[w]! =e:=by
 rw [bY];constructor
 · rintro ⟨i,h1,_,h3⟩;exact ⟨i,h1,h3⟩
 rintro ⟨i,h1,h3⟩;exact ⟨i,h1,by omega,h3⟩
theorem abV {s:aS} (so:ek s) {n:Nat} {H:List Ev} {W:List Int} (E:Ev->Prop) (hn:n<=acp H) (wl:(acp W)=acp s.ar) (hl:n+acp s.bi=acp s.ar)
 (ix: ∀w,w<n->0<=(H[w]!).ix/\(H[w]!).ix<acp W/\W[(H[w]!).n]! =(w:Int)) (mem: ∀e,(∃w,w<n/\H[w]! =e)↔E e) (ord: ∀k,0<k->k<n-> ¬less H[k]! H[(k-1) / 2]!)
 (ue: ∀i,i<acp s.ar->s.be[i]! =acy-> ∃e:Ev,E e/\e.ix=i/\e.2.2.2.2=s.ar[i]!) (un: ∀i,i<acp s.ar->s.be[i]! =acF->W[i]! = -1)
 (ev: ∀e,E e->pq e) (zu: ∀e f:Ev,E e->E f->e.num=f.num->e.ix=f.ix):dZ ⟨s,H.take n,W⟩:=by
 have len:(H.take n).length=n:=by rw [Do];omega
 have cell: ∀w,w<n->(H.take n)[w]! =H[w]!:=fun w hw=>kM hw
 refine ⟨so,wl,by show (H.take n).length+_=_;rw [len];exact hl,?_,un,?_,?_,?_⟩
 · intro i hi hu
   dsimp only at hi hu ⊢;rw [len];obtain ⟨e,he,e1,e2⟩:=ue i hi hu;obtain ⟨w,hw,rfl⟩:=(mem e).2 he;obtain ⟨a1,a2,a3⟩:=ix w hw;have hn':(H[w]!).n=i:=by show ((H[w]!).ix).toNat=i;omega
   rw [hn'] at a3;rw [a3,v6,cell w hw];exact ⟨by omega,by omega,e1,e2⟩
 · intro w hw
   dsimp only at hw ⊢;rw [len] at hw;rw [cell w hw];exact ev _ ((mem _).1 ⟨w,hw,rfl⟩)
 · intro v w hv hw
   dsimp only at hw ⊢;rw [len] at hw;rw [cell v (by omega),cell w hw];intro hc;have:=zu _ _ ((mem _).1 ⟨v,by omega,rfl⟩) ((mem _).1 ⟨w,hw,rfl⟩) hc;obtain ⟨a1,a2,a3⟩:=ix v (by omega);obtain ⟨b1,b2,b3⟩:=ix w hw;have hn':(H[v]!).n=(H[w]!).n:=by show ((H[v]!).ix).toNat=((H[w]!).ix).toNat;rw [this]
   rw [hn'] at a3;omega
 intro k k0 hk
 dsimp only at hk ⊢;rw [len] at hk;rw [cell k hk,cell _ (by omega)];exact ord k k0 hk
theorem uB {s:aS} (so:ek s) {n:Nat} {x:Ev} {M:Ev->Prop} {K:Nat->Prop} {H H1:List Ev} {W W1:List Int} (st:ze n x M K H W H1 W1) (hn:n<=acp H) (wl:(acp W)=acp s.ar) (hl:n+acp s.bi=acp s.ar)
 (ue: ∀i,i<acp s.ar->s.be[i]! =acy-> ∃e:Ev,(e=x\/M e)/\e.ix=i/\e.2.2.2.2=s.ar[i]!) (un: ∀i,i<acp s.ar->s.be[i]! =acF->K i/\W[i]! = -1)
 (ev: ∀e,(e=x\/M e)->pq e) (zu: ∀e f:Ev,(e=x\/M e)->(f=x\/M f)->e.num=f.num->e.ix=f.ix):dZ ⟨s,H1.take n,W1⟩:=by
 refine abV so (fun e=>e=x\/M e) (by rw [st.hl];exact hn) (by rw [st.wl];exact wl) hl (by rw [st.wl];exact st.ix) st.mem st.ord ue ?_ ev zu;intro i hi hu;rw [st.out i (un i hi hu).1];exact (un i hi hu).2
theorem dZ.bd {a:aJ} (ok:dZ a):(acp a.bv)<=200/\acp a.aj<=200:=by have:=ok.hl;have:=ok.wl;have:=ok.so.n2;omega
theorem dZ.cells {a:aJ} (ok:dZ a):lP (acp a.bv) a.bv a.aj:=by have:=ok.bd;refine ⟨ww _,by omega,fun w hw=>?_⟩;obtain ⟨b1,b2,b3,b4,b5⟩:=ok.back hw;exact ⟨ok.ev w hw,b1,by rw [ok.wl];exact b2⟩
theorem dZ.inj {a:aJ} (ok:dZ a) {v w:Nat} (hv:v<acp a.bv) (hw:w<acp a.bv) (h:Ev.ix a.bv[v]! =Ev.ix a.bv[w]!):v=w:=by
 have h1:=(ok.back hv).2.2.2.2;have h2:=(ok.back hw).2.2.2.2;have:Ev.n a.bv[v]! =Ev.n a.bv[w]!:=by show (Ev.ix a.bv[v]!).toNat=(Ev.ix a.bv[w]!).toNat;rw [h]
 rw [this] at h1;omega
theorem dZ.K0 {a:aJ} (ok:dZ a) {i k:Nat} (i0:0<i) (k0:0<k) (hk:k<acp a.bv) (hp:(k-1) / 2=i): ¬less a.bv[k]! a.bv[(i-1) / 2]!:=by have h1:=ok.ord k k0 hk;rw [hp] at h1;exact vg (ok.ev _ (by omega)).den (ok.ev _ (by omega)).den (ok.ev _ hk).den (ok.ord i i0 (by omega)) h1
theorem dZ.live {a:aJ} (ok:dZ a) {h:Int×Int} (lv:tQ a.ae h): ∃i,i<acp a.bv/\a.aj[h.1.toNat]! =(i:Int)/\(a.bv[i]!).2.2.2=h:=by
 obtain ⟨l1,l2,l3,l4⟩:=lv;obtain ⟨f1,f2,f3,f4⟩:=ok.fwd h.1.toNat (by omega) l3;refine ⟨(a.aj[h.1.toNat]!).toNat,by omega,by omega,?_⟩;have e1:(a.bv[(a.aj[h.1.toNat]!).toNat]!).2.2.2.1=h.1:=by have:Ev.ix a.bv[(a.aj[h.1.toNat]!).toNat]! =(h.1.toNat:Int):=f3;have h2:Ev.ix a.bv[(a.aj[h.1.toNat]!).toNat]! =(a.bv[(a.aj[h.1.toNat]!).toNat]!).2.2.2.1:=rfl;omega
 exact NE e1 (by rw [f4,l4])
theorem dZ.handle {a:aJ} (ok:dZ a) {i:Nat} (hi:i<acp a.bv):tQ a.ae (a.bv[i]!).2.2.2/\a.aj[((a.bv[i]!).2.2.2.1).toNat]! =(i:Int):=by obtain ⟨b1,b2,b3,b4,b5⟩:=ok.back hi;exact ⟨⟨b1,b2,b3,b4⟩,b5⟩
theorem dZ.Eb {a:aJ} (ok:dZ a) {i:Nat} (hi:i<acp a.ae.ar) (hu:a.ae.be[i]! =acy): ∃w,w<acp a.bv/\Ev.ix a.bv[w]! =i/\(a.bv[w]!).2.2.2.2=a.ae.ar[i]!:=by obtain ⟨f1,f2,f3,f4⟩:=ok.fwd i hi hu;exact ⟨(a.aj[i]!).toNat,by omega,f3,f4⟩
theorem dZ.HN {a:aJ} (ok:dZ a) {i:Nat} (hu:a.ae.be[i]! =acF) {w:Nat} (hw:w<acp a.bv):Ev.n a.bv[w]!≠i:=by intro h;have:=(ok.back hw).2.2.1;rw [h,hu] at this;cases this
theorem dZ.zu {a:aJ} (ok:dZ a) {v w:Nat} (hv:v<acp a.bv) (hw:w<acp a.bv) (h:Ev.num a.bv[v]! =Ev.num a.bv[w]!):v=w:=by
 rcases aa8 v w with h1|h1|h1
 · exact absurd h (ok.nd v w h1 hw)
 · exact h1
 exact absurd h.symm (ok.nd w v h1 hv)
theorem eH {α:Type} [Inhabited α] {l:List α} {k:Nat} {v:α} (h:l[k]! =v):l.set k v=l:=by
 by_cases hk:k<acp l
 · apply qD (by rw [pp])
   intro i hi;rw [bg];split
   · rename_i e;rw [e.1];exact h.symm
   rfl
 exact aa9 (by omega)
def px (x:Ev) (t:Int×Int):Ev:=(t.1,t.2,x.2.2)
noncomputable def jz (a:aJ) (i:Nat) (t:Int×Int):aJ:=⟨a.ae,(bV (acp a.bv) (px a.bv[i]! t) i a.bv a.aj).1,(bV (acp a.bv) (px a.bv[i]! t) i a.bv a.aj).2⟩
theorem F' {a:aJ} (ok:dZ a) {i:Nat} (hi:i<acp a.bv) {t:Int×Int} (ht:aW t) (h64:iI t):pq (px a.bv[i]! t):=by have:=ok.ev i hi;exact ⟨ht,h64,this.2.2.1,this.2.2.2⟩
theorem Ga {a:aJ} (ok:dZ a) {i:Nat} (hi:i<acp a.bv) (t:Int×Int):AQ (acp a.bv) (px a.bv[i]! t) (fun e=> ∃w,w<acp a.bv/\w≠i/\a.bv[w]! =e) a.bv a.aj i:=by obtain ⟨b1,b2,b3,b4,b5⟩:=ok.back hi;refine ⟨hi,ww _,fun w hw IZ=>?_,b1,by rw [ok.wl];exact b2,fun e=>aaH⟩;obtain ⟨c1,c2,c3,c4,c5⟩:=ok.back hw;exact ⟨c1,by rw [ok.wl];exact c2,c5,fun h=>IZ (ok.inj hw hi h)⟩
theorem HO {a:aJ} (ok:dZ a) (i:Nat):Ord (acp a.bv) a.bv i:=
 ⟨fun w hw=>(ok.ev w hw).den,fun k k0 hk _ _=>ok.ord k k0 hk,fun i0 _k k0 hk hp=>ok.K0 i0 k0 hk hp⟩
theorem mK {a:aJ} (ok:dZ a) {i:Nat} (hi:i<acp a.bv) {t:Int×Int} (ht:aW t):
 ze (acp a.bv) (px a.bv[i]! t) (fun e=> ∃w,w<acp a.bv/\w≠i/\a.bv[w]! =e) (fun k=>k≠Ev.n (px a.bv[i]! t)/\ ∀w,w<acp a.bv->w≠i->Ev.n a.bv[w]!≠k) a.bv a.aj (jz a i t).bv (jz a i t).aj:=
 yx (x:=px a.bv[i]! t) ht.1 (Ga ok hi t) (HO ok i)
theorem CX {a:aJ} (ok:dZ a) {i:Nat} (hi:i<acp a.bv) {t:Int×Int} (ht:aW t):(jz a i t).bv.length=acp a.bv/\(jz a i t).aj.length=(acp a.aj):=
 ⟨(mK ok hi ht).hl,(mK ok hi ht).wl⟩
theorem Qv {a:aJ} (ok:dZ a) {i:Nat} (hi:i<acp a.bv) {t:Int×Int} (ht:aW t) (e:Ev):e∈(jz a i t).bv↔(e=px a.bv[i]! t\/(e∈a.bv/\e≠a.bv[i]!)):=by
 have st:=mK ok hi ht;have h1:e∈(jz a i t).bv↔ ∃w,w<acp a.bv/\((jz a i t).bv)[w]! =e:=by rw [aO,(CX ok hi ht).1]
 rw [h1];refine (st.mem e).trans ?_;constructor
 · rintro (h|⟨w,hw,IZ,rfl⟩)
   · exact .inl h
   exact .inr ⟨aQ hw,fun h=>IZ (ok.inj hw hi (by rw [h]))⟩
 rintro (h|⟨h,dM⟩)
 · exact .inl h
 obtain ⟨w,hw,rfl⟩:=aO.1 h
 exact .inr ⟨w,hw,fun h=>dM (by rw [h]),rfl⟩
theorem TR {a:aJ} (ok:dZ a) {i:Nat} (hi:i<acp a.bv) {t:Int×Int} (ht:aW t) (h64:iI t):dZ (jz a i t):=by
 have st:=mK ok hi ht;have len:=(CX ok hi ht).1;have hx:Ev.ix (px a.bv[i]! t)=Ev.ix a.bv[i]!:=rfl;have key:=uB ok.so st (ww _) ok.wl ok.hl (fun j hj hu=>by
  obtain ⟨w,hw,e1,e2⟩:=ok.Eb hj hu
  by_cases e:w=i
  · subst e;exact ⟨px a.bv[w]! t,.inl rfl,e1,e2⟩
  · exact ⟨a.bv[w]!,.inr ⟨w,hw,e,rfl⟩,e1,e2⟩) (fun j hj hu=>⟨⟨(ok.HN hu hi).symm,fun w hw _=>ok.HN hu hw⟩,ok.un j hj hu⟩) (by
  rintro e (rfl|⟨w,hw,_,rfl⟩)
  · exact F' ok hi ht h64
  · exact ok.ev w hw) (by
  rintro e f (rfl|⟨v,hv,hvi,rfl⟩) (rfl|⟨w,hw,IZ,rfl⟩) he
  · rfl
  · exact absurd (ok.zu hi hw he).symm IZ
  · exact absurd (ok.zu hv hi he) hvi
  rw [ok.zu hv hw he])
 have:(jz a i t).bv.take (acp a.bv)=(jz a i t).bv:=If (by rw [len];exact ww _);show dZ ⟨a.ae,(jz a i t).bv,(jz a i t).aj⟩;rw [<- this];exact key
theorem K7 {a:aJ} (ok:dZ a) (fit:yA a) {h:Int×Int} {i:Nat} (hi:i<acp a.bv) (hh:(a.bv[i]!).2.2.2=h):oh a h=acr ((i:Int),0):=by
 obtain ⟨lv,wv⟩:=ok.handle hi;rw [hh] at lv;unfold oh;rw [iO a fit,lm ok];simp only [ao,show ((0:Int) !=0)=acF from rfl,lc,Dv ok.so,aI lv,ut];have:=lv.2.1;have:=lv.1;have:=ok.wl;have e:(a.bv[i]!).2.2.2.1=h.1:=by rw [hh]
 rw [de (l:=a.aj) lv.1 (by omega),<- e,wv];rfl
theorem DT {a:aJ} (ok:dZ a) (fit:yA a) {h t:Int×Int} {i:Nat} (hi:i<acp a.bv) (hh:(a.bv[i]!).2.2.2=h) (ht:aW t) (h64:iI t):rD a h t=acr (jz a i t,0):=by
 have bd:=ok.bd;obtain ⟨b1,b2,b3,b4,b5⟩:=ok.back hi;unfold rD;rw [iO a fit,lm ok,dm h64,lm ht];have pl:=K7 ok fit hi hh;have se:=F5 (u:=a.ae.ar) (us:=a.ae.be) (fr:=a.ae.bi) (F' ok hi ht h64) (show 0<=Ev.ix (px a.bv[i]! t) from b1) ok.cells rfl hi (show Ev.ix (px a.bv[i]! t)<(acp a.aj) by rw [ok.wl];exact b2);have se':ec (a.ae.ar,a.ae.be,a.ae.bi,(i:Int),t.1,t.2,(a.bv[i]!).2.2.1,(a.bv[i]!).2.2.2.1,(a.bv[i]!).2.2.2.2,a.bv,a.aj)=acr (bV (acp a.bv) (px a.bv[i]! t) i a.bv a.aj):=se;simp only [ao,gt_iff_lt,abb,if_false,show ((0:Int) !=0)=acF from rfl,lc,pl,bj (show (acp a.bv)<=1048576 by omega),bj (show (acp a.aj)<=1048576 by omega),aq a.bv i hi,se'];rfl
theorem pY {a:aJ} (ok:dZ a):o7 a=acr a:=by have bd:=ok.bd;unfold o7;simp only [uz ok.so,ao,bj (show (acp a.bv)<=1048576 by omega),bj (show (acp a.aj)<=1048576 by omega)]
theorem CY {a:aJ} (ok:dZ a) {h t:Int×Int} {i:Nat} (hi:i<acp a.bv) (hh:(a.bv[i]!).2.2.2=h) (ht:aW t) (h64:iI t):uv a h t=acr (jz a i t):=by
 have bd:=ok.bd;obtain ⟨b1,b2,b3,b4,b5⟩:=ok.back hi;obtain ⟨lv,wv⟩:=ok.handle hi;have hx:=F' ok hi ht h64;have x1:Ev.ix (px a.bv[i]! t)<(acp a.aj):=by rw [ok.wl];exact b2
 have st:=mK ok hi ht;obtain ⟨j,H1,W1,e1,e3,e4,e5,e6,e7,e8,e9,e10⟩:=D9 (x:=px a.bv[i]! t) ht.1 i a.bv a.aj (Ga ok hi t) (HO ok i);have w1:a.aj.set (Ev.n (px a.bv[i]! t)) (i:Int)=a.aj:=eH b5;unfold uv;rw [pY ok];have g1:aG a.aj h.1=acr (i:Int):=by
  have e:(a.bv[i]!).2.2.2.1=h.1:=by rw [hh]
  rw [de (l:=a.aj) (i:=h.1) (by rw [<- e];exact b1) (by rw [<- e,ok.wl];exact b2),<- e,wv]
 have u1:sG ((i:Int),a.ae.ar,a.ae.be,a.ae.bi,a.bv.set i (px a.bv[i]! t),a.aj)=acr ((j:Int),a.ae.ar,a.ae.be,a.ae.bi,H1.set j (px a.bv[i]! t),W1.set (Ev.n (px a.bv[i]! t)) (j:Int)):=by unfold sG;have:=TM (c0:=((i:Int),a.ae.ar,a.ae.be,a.ae.bi,a.bv.set i (px a.bv[i]! t),a.aj)) (u:=a.ae.ar) (us:=a.ae.be) (fr:=a.ae.bi) hx b1 rfl rfl rfl i a.bv a.aj ok.cells hi rfl x1 pp rfl;rw [w1,e1] at this;exact this
 have Nh:lP (acp a.bv) H1 W1:=by refine ⟨by rw [e5];exact ww _,by omega,fun w hw=>?_⟩;exact ⟨(yz ok.cells hi e1 w hw).1,(yz ok.cells hi e1 w hw).2.1,by rw [e6];exact (yz ok.cells hi e1 w hw).2.2⟩
 have d1:pf ((j:Int),a.ae.ar,a.ae.be,a.ae.bi,H1.set j (px a.bv[i]! t),W1.set (Ev.n (px a.bv[i]! t)) (j:Int))=acr (a.ae.ar,a.ae.be,a.ae.bi,(bV (acp a.bv) (px a.bv[i]! t) i a.bv a.aj).1,(bV (acp a.bv) (px a.bv[i]! t) i a.bv a.aj).2):=by
  unfold pf;have:=K3 (c0:=((j:Int),a.ae.ar,a.ae.be,a.ae.bi,H1.set j (px a.bv[i]! t),W1.set (Ev.n (px a.bv[i]! t)) (j:Int))) (n:=acp a.bv) (u:=a.ae.ar) (us:=a.ae.be) (fr:=a.ae.bi) hx b1 rfl rfl rfl (acp a.bv) j H1 W1 (by omega) Nh e3.lt e5 (by rw [e6];exact x1) pp pp;rw [this];unfold bV;rw [e1]
 have s1:cj a.bv (i:Int) (t.1,t.2,(a.bv[i]!).2.2)=a.bv.set i (px a.bv[i]! t):=rfl;simp only [ao,g1,aq a.bv i hi,s1,u1,d1];rfl
theorem HP (H:List Ev) (n:Int) (hl:(acp H)<=1000000):cy H n=acr (acI (∃w,w<acp H/\(H[w]!).2.2.1=n)):=by
 unfold cy dW;have key:=lL (body:=cw) (fun i=>(H,n,((acp H):Int),(i:Int))) (acp H) (fun i=>(H[i]!).2.2.1=n) (fun i=>(i:Int)) (e:= -1) (fun i hi=>by
  have e1:acI ((i:Int)<((acp H):Int))=acy:=aI (by omega);unfold cw ur;simp only [e1,kw,aq H i hi,ao,aT (show i<1000000000 by omega)];constructor
  · intro h;rw [dL h];rfl
  · intro h;rw [dB h];rfl) (by
  unfold cw;have:acI (((acp H):Int)<((acp H):Int))=acF:=aD (by omega);simp only [this,lc])
 rw [ay]
 by_cases hx: ∃w,w<acp H/\(H[w]!).2.2.1=n
 · obtain ⟨k,h1,h2,h3⟩:=least hx
   have:=key.1 k h1 h2 h3;rw [show ((0:Nat):Int)=0 from rfl] at this;rw [this,aI hx];simp only [ao,aI (show (0:Int)<=(k:Int) by omega)]
 have:=key.2 fun i hi he=>hx ⟨i,hi,he⟩
 rw [show ((0:Nat):Int)=0 from rfl] at this;rw [this,aD hx];rfl
noncomputable def cP (a:aJ) (t:Int×Int) (n:Int):Ev:=(t.1,t.2,n,j9 a.ae)
noncomputable def kf (a:aJ) (t:Int×Int) (n:Int):aJ:=
 ⟨fY a.ae,(bV (acp a.bv+1) (cP a t n) (acp a.bv) (a.bv++[cP a t n]) a.aj).1,(bV (acp a.bv+1) (cP a t n) (acp a.bv) (a.bv++[cP a t n]) a.aj).2⟩
section
variable {a : aJ} (ok : dZ a) (op : xo a.ae) {t : Int × Int} (ht : aW t) (h64 : iI t) {n : Int} (n0 : 0 <= n) (n1 : n <= 1000000)
include ok op
theorem BM:Ev.ix (cP a t n)=(cH a.ae:Int)/\cH a.ae<acp a.ae.ar/\a.ae.be[cH a.ae]! =acF/\acp a.ae.bi=(fY a.ae).bi.length+1:=by
 obtain ⟨h1,h2,h3⟩:=zd ok.so op.1;refine ⟨rfl,h1,?_,?_⟩
 · have:=ok.so.uf (cH a.ae) h1
   cases h:a.ae.be[cH a.ae]! with
   |false=>rfl
   |true=>exact absurd h3 (this.1 h)
 show _=(a.ae.bi.take (acp a.ae.bi-1)).length+1
 have:=op.1;rw [Do];omega
theorem HQ:AQ (acp a.bv+1) (cP a t n) (fun e=>e∈a.bv) (a.bv++[cP a t n]) a.aj (acp a.bv):=by
 obtain ⟨h1,h2,h3,h4⟩:=BM (t:=t) (n:=n) ok op;have cell: ∀w,w<acp a.bv->(a.bv++[cP a t n])[w]! =a.bv[w]!:=fun w hw=>ji hw
 refine ⟨by omega,by simp,fun w hw IZ=>?_,by rw [h1];omega,by rw [h1,ok.wl];omega,fun e=>?_⟩
 · have Uy:w<(acp a.bv):=by omega
   rw [cell w Uy];obtain ⟨c1,c2,c3,c4,c5⟩:=ok.back Uy;refine ⟨c1,by rw [ok.wl];exact c2,c5,fun h=>?_⟩;rw [h1] at h;have:Ev.n a.bv[w]! =cH a.ae:=by show (Ev.ix a.bv[w]!).toNat=_;omega
   exact ok.HN h3 Uy this
 constructor
 · rintro ⟨w,hw,IZ,rfl⟩
   rw [cell w (by omega)];exact aQ (by omega)
 intro h
 obtain ⟨w,hw,rfl⟩:=aO.1 h;exact ⟨w,by omega,by omega,cell w hw⟩
theorem K8 (ht:aW t):Ord (acp a.bv+1) (a.bv++[cP a t n]) (acp a.bv):=by
 have _:=op;have cell: ∀w,w<acp a.bv->(a.bv++[cP a t n])[w]! =a.bv[w]!:=fun w hw=>ji hw
 refine ⟨fun w hw=>?_,fun k k0 hk k1 k2=>?_,fun i0 k k0 hk hp=>by omega⟩
 · by_cases h:w<acp a.bv
   · rw [cell w h];exact (ok.ev w h).den
   have:w=(acp a.bv):=by omega
   subst this;rw [jM (ww _),aaI];exact ht.1
 rw [cell k (by omega),cell _ (by omega)]
 exact ok.ord k k0 (by omega)
theorem wU (ht:aW t):ze (acp a.bv+1) (cP a t n) (fun e=>e∈a.bv) (fun k=>k≠Ev.n (cP a t n)/\ ∀w,w<acp a.bv+1->w≠acp a.bv->Ev.n (a.bv++[cP a t n])[w]!≠k) (a.bv++[cP a t n]) a.aj (kf a t n).bv (kf a t n).aj:=
 yx (x:=cP a t n) ht.1 (HQ ok op) (K8 ok op ht)
theorem BN (ht:aW t):(kf a t n).bv.length=acp a.bv+1:=by have:=(wU (n:=n) ok op ht).hl;rw [this];simp
theorem K9 (ht:aW t) (e:Ev):e∈(kf a t n).bv↔(e=cP a t n\/e∈a.bv):=by have st:=wU (n:=n) ok op ht;rw [aO,BN ok op ht];exact st.mem e
theorem I5 (ht:aW t) (h64:iI t) (n0:0<=n) (n1:n<=1000000):pq (cP a t n):=by have _:=ok;have _:=op;exact ⟨ht,h64,n0,n1⟩
theorem OS (ht:aW t) (h64:iI t) (n0:0<=n) (n1:n<=1000000) (nn: ∀e∈a.bv,Ev.num e≠n):dZ (kf a t n):=by
 have st:=wU (n:=n) ok op ht;have len:=BN (n:=n) ok op ht;obtain ⟨h1,h2,h3,h4⟩:=BM (t:=t) (n:=n) ok op;have hu:=ok.so.ul;have ul:(fY a.ae).ar.length=(acp a.ae.ar):=pp;have key:=uB (TI ok.so op) st (by simp) (by rw [ul];exact ok.wl) (by rw [ul];have:=ok.hl;omega) (fun j hj B8=>by
  rw [ul] at hj;change (a.ae.be.set (cH a.ae) acy)[j]! =acy at B8;rw [bg] at B8;show∃e:Ev,_/\_/\_=(a.ae.ar.set (cH a.ae) (a.ae.ar[cH a.ae]!+1))[j]!;rw [bg]
  by_cases e:j=cH a.ae
  · rw [lm ⟨e,h2⟩]
    exact ⟨cP a t n,.inl rfl,by rw [h1,e],rfl⟩
  · rw [ls (fun k=>e k.1)]
    rw [ls (fun k=>e k.1)] at B8;obtain ⟨w,hw,e1,e2⟩:=ok.Eb hj B8;exact ⟨a.bv[w]!,.inr (aQ hw),e1,e2⟩) (fun j hj B8=>by
  rw [ul] at hj;change (a.ae.be.set (cH a.ae) acy)[j]! =acF at B8;rw [bg] at B8
  by_cases e:j=cH a.ae
  · rw [lm ⟨e,by omega⟩] at B8;cases B8
  · rw [ls (fun k=>e k.1)] at B8
    refine ⟨⟨?_,fun w hw IZ=>?_⟩,ok.un j hj B8⟩
    · show j≠(Ev.ix (cP a t n)).toNat
      omega
    rw [ji (by omega)]
    exact ok.HN B8 (by omega)) (by
  rintro e (rfl|h)
  · exact I5 ok op ht h64 n0 n1
  · obtain ⟨w,hw,rfl⟩:=aO.1 h
    exact ok.ev w hw) (by
  rintro e f (rfl|he) (rfl|hf) hn
  · rfl
  · exact absurd hn.symm (nn f hf)
  · exact absurd hn (nn e he)
  obtain ⟨v,hv,rfl⟩:=aO.1 he
  obtain ⟨w,hw,rfl⟩:=aO.1 hf;rw [ok.zu hv hw hn])
 have:(kf a t n).bv.take (acp a.bv+1)=(kf a t n).bv:=If (by rw [len];exact ww _);show dZ ⟨fY a.ae,(kf a t n).bv,(kf a t n).aj⟩;rw [<- this];exact key
theorem Gb (ht:aW t) (h64:iI t) (n0:0<=n) (n1:n<=1000000):lP (acp a.bv+1) (a.bv++[cP a t n]) a.aj:=by
 have bd:=ok.bd;obtain ⟨h1,h2,h3,h4⟩:=BM (t:=t) (n:=n) ok op;refine ⟨by simp,by simp;omega,fun w hw=>?_⟩
 by_cases h:w<acp a.bv
 · rw [ji h];exact ok.cells.ev w h
 have:w=(acp a.bv):=by omega
 subst this;rw [jM (ww _),aaI];exact ⟨I5 ok op ht h64 n0 n1,by show 0<=Ev.ix (cP a t n);omega,by show Ev.ix (cP a t n)<_;rw [ok.wl];omega⟩
theorem vj (fit:yA a) (ht:aW t) (h64:iI t) (n0:0<=n) (n1:n<=1000000) (nn: ∀e∈a.bv,Ev.num e≠n):jU a t n=acr (kf a t n,j9 a.ae,0):=by
 have bd:=ok.bd;obtain ⟨h1,h2,h3,h4⟩:=BM (t:=t) (n:=n) ok op;have hn: ¬ ∃w,w<acp a.bv/\(a.bv[w]!).2.2.1=n:=by rintro ⟨w,hw,e⟩;exact nn _ (aQ hw) e
 unfold jU;rw [iO a fit,lm ok,dm h64,lm ht,HP _ _ (by omega),aD hn,BJ ok.so,lm op];have se:=F5 (u:=(fY a.ae).ar) (us:=(fY a.ae).be) (fr:=(fY a.ae).bi) (I5 ok op ht h64 n0 n1) (show 0<=Ev.ix (cP a t n) by omega) (Gb ok op ht h64 n0 n1) (by simp) (show (acp a.bv)<acp a.bv+1 by omega) (show Ev.ix (cP a t n)<(acp a.aj) by rw [ok.wl];omega);have e1:ai .i64 (((a.bv++[cP a t n]).length:Int) -1)=((acp a.bv):Int):=by rw [wi,aa5];simp;omega
 have ap:bm a.bv [(t.1,t.2,n,j9 a.ae)]=acr (a.bv++[cP a t n]):=cu (by simp;omega);have se':ec ((fY a.ae).ar,(fY a.ae).be,(fY a.ae).bi,((acp a.bv):Int),t.1,t.2,n,(j9 a.ae).1,(j9 a.ae).2,a.bv++[cP a t n],a.aj)=acr (bV (acp a.bv+1) (cP a t n) (acp a.bv) (a.bv++[cP a t n]) a.aj):=se;simp only [ao,gt_iff_lt,abb,if_false,show ((0:Int) !=0)=acF from rfl,lc,aD (show¬n<0 by omega),aD (show¬1000000<n by omega),bj (show (acp a.bv)<=1048576 by omega),bj (show (acp a.aj)<=1048576 by omega),ap,ay,e1,se'];rfl
theorem xp (ht:aW t) (h64:iI t) (n0:0<=n) (n1:n<=1000000):eC a t n=acr (kf a t n,j9 a.ae):=by
 have bd:=ok.bd;obtain ⟨h1,h2,h3,h4⟩:=BM (t:=t) (n:=n) ok op;unfold eC;rw [pY ok];have e1:ai .i64 (((a.bv++[cP a t n]).length:Int) -1)=((acp a.bv):Int):=by rw [wi,aa5];simp;omega
 have ap:bm a.bv [(t.1,t.2,n,j9 a.ae)]=acr (a.bv++[cP a t n]):=cu (by simp;omega);have hx:=I5 (n:=n) ok op ht h64 n0 n1;have last:bV (acp a.bv+1) (cP a t n) (acp a.bv) (a.bv++[cP a t n]) a.aj=_:=K1 (x:=cP a t n) ht.1 (HQ ok op) (K8 ok op ht) (fun k k0 hk hp=>by omega);have hs:(a.bv++[cP a t n]).set (acp a.bv) (cP a t n)=a.bv++[cP a t n]:=eH (by rw [jM (ww _),aaI];rfl);have ws:cj a.aj (j9 a.ae).1 ((acp a.bv):Int)=a.aj.set (Ev.n (cP a t n)) ((acp a.bv):Int):=rfl
 have u1:sH ((fY a.ae).ar,(fY a.ae).be,(fY a.ae).bi,((acp a.bv):Int),a.bv++[cP a t n],a.aj.set (Ev.n (cP a t n)) ((acp a.bv):Int))=acr (((iy (cP a t n) (acp a.bv) (a.bv++[cP a t n]) a.aj).1:Int),(iy (cP a t n) (acp a.bv) (a.bv++[cP a t n]) a.aj).2.1.set (iy (cP a t n) (acp a.bv) (a.bv++[cP a t n]) a.aj).1 (cP a t n),(iy (cP a t n) (acp a.bv) (a.bv++[cP a t n]) a.aj).2.2.set (Ev.n (cP a t n)) ((iy (cP a t n) (acp a.bv) (a.bv++[cP a t n]) a.aj).1:Int)):=by
  unfold sH;have:=TO (c0:=((fY a.ae).ar,(fY a.ae).be,(fY a.ae).bi,((acp a.bv):Int),a.bv++[cP a t n],a.aj.set (Ev.n (cP a t n)) ((acp a.bv):Int))) (u:=(fY a.ae).ar) (us:=(fY a.ae).be) (fr:=(fY a.ae).bi) hx (show 0<=Ev.ix (cP a t n) by omega) (acp a.bv) (a.bv++[cP a t n]) a.aj (Gb ok op ht h64 n0 n1) (by omega) (by simp) (by rw [ok.wl];omega) rfl pp;rw [hs] at this;exact this
 have g1:aG a.aj (j9 a.ae).1=acr a.aj[cH a.ae]!:=aq a.aj (cH a.ae) (by rw [ok.wl];exact h2);simp only [ao,F2 ok.so op,ap,g1,ay,e1,ws,u1];unfold kf;rw [last]
end
theorem vn {a:aJ} (ok:dZ a) (op: ¬xo a.ae) (fit:yA a) {t:Int×Int} (ht:aW t) (h64:iI t) {n:Int} (n0:0<=n) (n1:n<=1000000) (nn: ∀e∈a.bv,Ev.num e≠n):jU a t n=acr (⟨⟨[],[],[]⟩,[],[]⟩,(0,0),18):=by
 have bd:=ok.bd;have hn: ¬ ∃w,w<acp a.bv/\(a.bv[w]!).2.2.1=n:=by rintro ⟨w,hw,e⟩;exact nn _ (aQ hw) e
 unfold jU;rw [iO a fit,lm ok,dm h64,lm ht,HP _ _ (by omega),aD hn,BJ ok.so,ls op];simp only [ao,gt_iff_lt,abb,if_false,show ((0:Int) !=0)=acF from rfl,lc,aD (show¬n<0 by omega),aD (show¬1000000<n by omega),show ((18:Int) !=0)=acy from rfl,kw]
theorem tR {l:List Ev} {n i:Nat} {v:Ev}:(l.set i v).take n=(l.take n).set i v:=by
 apply List.ext_getElem?;intro j;rw [abd,abi,abi,abd,Do]
 by_cases h1:j<n
 · rw [lm h1]
   by_cases h2:i=j
   · subst h2
     by_cases h3:i<acp l
     · rw [lm rfl,lm h3,lm rfl,lm (by omega)]
     rw [lm rfl,ls h3,lm rfl,ls (by omega)]
   rw [ls h2,ls h2,lm h1]
 rw [ls h1]
 by_cases h2:i=j
 · rw [lm h2,ls (by omega)]
 rw [ls h2,ls h1]
theorem La {n:Nat} {x:Ev}: ∀(i:Nat) (H:List Ev) (W:List Int),i<n->iy x i (H.take n) W=((iy x i H W).1,(iy x i H W).2.1.take n,(iy x i H W).2.2)
 |0,H,W,hi=>by rw [iy,iy]
 |i+1,H,W,hi=>by
  have e:(H.take n)[i / 2]! =H[i / 2]!:=kM (by omega);rw [iy,iy,e]
  by_cases h:less x H[i / 2]!
  · rw [lm h,lm h,<- tR]
    exact La (i / 2) _ _ (by omega)
  rw [ls h,ls h]
termination_by i=>i
decreasing_by omega
theorem TS {x:Ev}: ∀(i:Nat) (H:List Ev) (W:List Int),(iy x i H W).1<=i
 |0,H,W=>by rw [iy];exact ww _
 |i+1,H,W=>by
  rw [iy];split
  · exact ace (TS (i / 2) _ _) (by omega)
  exact ww _
termination_by i=>i
decreasing_by omega
theorem Gc {n:Nat} {H:List Ev} {i:Nat} (hk:2*i+1<n):gI n (H.take n) i=gI n H i:=by
 unfold gI
 by_cases h:2*i+2<n
 · rw [kM h,kM (show 2*i+1<n by omega)]
 rw [ls (fun k=>h k.1),ls (fun k=>h k.1)]
theorem Lb {n:Nat} {x:Ev} {i:Nat} {H:List Ev} {W:List Int} (h:2*i+1<n) (hl:less H[gI n H i]! x):dv n x i H W=dv n x (gI n H i) (H.set i H[gI n H i]!) (W.set (H[gI n H i]!).n (i:Int)):=by rw [dv,dif_pos h,lm hl]
theorem wV {n:Nat} {x:Ev} {i:Nat} {H:List Ev} {W:List Int} (h: ¬(2*i+1<n/\less H[gI n H i]! x)):dv n x i H W=(i,H,W):=by
 rw [dv];split
 · rename_i h1;rw [ls (fun k=>h ⟨h1,k⟩)]
 rfl
theorem Gd {n : Nat} {x : Ev} : ∀ (d i : Nat) (H : List Ev) (W : List Int), n - i <= d -> dv n x i (H.take n) W = ((dv n x i H W).1, (dv n x i H W).2.1.take n, (dv n x i H W).2.2)
  | 0, i, H, W, hd => by
    rw [wV (fun h => by omega), wV (fun h => by omega)]
  | d + 1, i, H, W, hd => by
    have kc := nF n H i
    by_cases h : 2 * i + 1 < n /\ less H[gI n H i]! x
    · have e : (H.take n)[gI n (H.take n) i]! = H[gI n H i]! := by rw [Gc h.1, kM (by omega)]
      rw [Lb h.1 h.2, Lb (H := H.take n) h.1 (by rw [e]; exact h.2), e, Gc h.1, <- tR]
      exact Gd d _ _ _ (by omega)
    have h' : ¬ (2 * i + 1 < n /\ less (H.take n)[gI n (H.take n) i]! x) := by
      rintro ⟨k1, k2⟩
      rw [Gc k1, kM (by omega)] at k2
      exact h ⟨k1, k2⟩
    rw [wV h, wV h']
theorem OT {x:Ev}: ∀(i:Nat) (H:List Ev) (W:List Int),(iy x i H W).2.1.length=acp H/\(iy x i H W).2.2.length=acp W
 |0,H,W=>by rw [iy];exact ⟨rfl,rfl⟩
 |i+1,H,W=>by
  rw [iy];split
  · have:=OT (x:=x) (i / 2) (H.set (i+1) H[i / 2]!) (W.set (H[i / 2]!).n ((i+1:Nat):Int))
    rwa [pp,pp] at this
  exact ⟨rfl,rfl⟩
termination_by i=>i
decreasing_by omega
theorem BO {n:Nat} {x:Ev} {i:Nat} {H:List Ev} {W:List Int} (hi:i<n):bV n x i (H.take n) W=((bV n x i H W).1.take n,(bV n x i H W).2):=by unfold bV;rw [La i H W hi];dsimp only;rw [Gd n _ _ _ (by omega)];dsimp only;rw [tR]
noncomputable def dS (a:aJ) (i:Nat):aJ:=
 if i<acp a.bv-1 then ⟨fb a.ae (a.bv[i]!).2.2.2,(bV (acp a.bv-1) a.bv[acp a.bv-1]! i a.bv (a.aj.set (Ev.n a.bv[i]!) (-1))).1.take (acp a.bv-1),(bV (acp a.bv-1) a.bv[acp a.bv-1]! i a.bv (a.aj.set (Ev.n a.bv[i]!) (-1))).2⟩
 else ⟨fb a.ae (a.bv[i]!).2.2.2,a.bv.take (acp a.bv-1),a.aj.set (Ev.n a.bv[i]!) (-1)⟩
section
variable {a : aJ} (ok : dZ a) {i : Nat} (hi : i < (acp a.bv))
include ok hi
theorem vo {w:Nat} (hw:w<acp a.bv) (dM:w≠i):Ev.n a.bv[w]!≠Ev.n a.bv[i]!:=by have h1:=(ok.back hw).1;have h2:=(ok.back hi).1;exact akt h1 h2 fun h=>dM (ok.inj hw hi h)
theorem HR:lP (acp a.bv-1) a.bv (a.aj.set (Ev.n a.bv[i]!) (-1)):=by have c:=ok.cells;refine ⟨by omega,c.hb,fun w hw=>?_⟩;rw [pp];exact c.ev w (by omega)
theorem TU (c7:i<acp a.bv-1):AQ (acp a.bv-1) a.bv[acp a.bv-1]! (fun e=> ∃w,w<acp a.bv-1/\w≠i/\a.bv[w]! =e) a.bv (a.aj.set (Ev.n a.bv[i]!) (-1)) i:=by
 obtain ⟨b1,b2,b3,b4,b5⟩:=ok.back (show (acp a.bv)-1<(acp a.bv) by omega);refine ⟨c7,by omega,fun w hw IZ=>?_,b1,by rw [pp,ok.wl];exact b2,fun e=>aaH⟩;obtain ⟨c1,c2,c3,c4,c5⟩:=ok.back (show w<(acp a.bv) by omega);refine ⟨c1,by rw [pp,ok.wl];exact c2,?_,fun h=>?_⟩
 · rw [bg,ls (fun h=>vo ok hi (show w<(acp a.bv) by omega) IZ h.1)]
   exact c5
 have:=ok.inj (show w<(acp a.bv) by omega) (show (acp a.bv)-1<(acp a.bv) by omega) h
 omega
theorem aat:Ord (acp a.bv-1) a.bv i:=
 ⟨fun w hw=>(ok.ev w (by omega)).den,fun k k0 hk _ _=>ok.ord k k0 (by omega),fun i0 k k0 hk hp=>ok.K0 i0 k0 (by omega) hp⟩
theorem Dw (c7:i<acp a.bv-1):
 ze (acp a.bv-1) a.bv[acp a.bv-1]! (fun e=> ∃w,w<acp a.bv-1/\w≠i/\a.bv[w]! =e) (fun k=>k≠Ev.n a.bv[acp a.bv-1]!/\ ∀w,w<acp a.bv-1->w≠i->Ev.n a.bv[w]!≠k) a.bv (a.aj.set (Ev.n a.bv[i]!) (-1))
  (bV (acp a.bv-1) a.bv[acp a.bv-1]! i a.bv (a.aj.set (Ev.n a.bv[i]!) (-1))).1 (bV (acp a.bv-1) a.bv[acp a.bv-1]! i a.bv (a.aj.set (Ev.n a.bv[i]!) (-1))).2:=
 yx (ok.ev (acp a.bv-1) (by omega)).den (TU ok hi c7) (aat ok hi)
theorem HS:ek (fb a.ae (a.bv[i]!).2.2.2):=TH ok.so (ok.handle hi).1
theorem yC {j:Nat} (hj:j<acp a.ae.ar):(fb a.ae (a.bv[i]!).2.2.2).be[j]! =if j=Ev.n a.bv[i]! then acF else a.ae.be[j]!:=by
 have _:=hi;show (a.ae.be.set (Ev.n a.bv[i]!) acF)[j]! =_;rw [bg];have:=ok.so.ul
 by_cases e:j=Ev.n a.bv[i]!
 · rw [lm ⟨e,by omega⟩,lm e]
 rw [ls (fun k=>e k.1),ls e]
theorem CZ:dZ (dS a i):=by
 have hb:=ok.back hi;have hl:(acp a.bv)-1+(fb a.ae (a.bv[i]!).2.2.2).bi.length=(acp a.ae.ar):=by show (acp a.bv)-1+(a.ae.bi++[_]).length=_;rw [aa5];have:=ok.hl;simp only [abm,abD];omega
 have un: ∀j,j<acp a.ae.ar->(fb a.ae (a.bv[i]!).2.2.2).be[j]! =acF->(a.aj.set (Ev.n a.bv[i]!) (-1))[j]! = -1:=by
  intro j hj hu;rw [yC ok hi hj] at hu;rw [bg]
  by_cases e:j=Ev.n a.bv[i]!
  · rw [lm ⟨e.symm▸rfl,by rw [ok.wl];omega⟩]
  rw [ls e] at hu
  rw [ls (fun k=>e k.1)];exact ok.un j hj hu
 unfold dS
 by_cases c7:i<acp a.bv-1
 · rw [lm c7]
   have st:=Dw ok hi c7;refine uB (HS ok hi) st (by omega) (by rw [pp];exact ok.wl) hl (fun j hj hu=>?_) (fun j hj hu=>⟨⟨?_,fun w hw IZ=>?_⟩,un j hj hu⟩) ?_ ?_
   · change j<(acp a.ae.ar) at hj
     rw [yC ok hi hj] at hu
     by_cases e:j=Ev.n a.bv[i]!
     · rw [lm e] at hu;cases hu
     rw [ls e] at hu
     obtain ⟨w,hw,e1,e2⟩:=ok.Eb hj hu;refine ⟨a.bv[w]!,?_,e1,e2⟩
     by_cases kY:w=acp a.bv-1
     · left;rw [kY]
     refine .inr ⟨w,by omega,fun h=>e ?_,rfl⟩
     rw [<- h];show j=(Ev.ix a.bv[w]!).toNat;omega
   · change j<(acp a.ae.ar) at hj
     rw [yC ok hi hj] at hu
     by_cases e:j=Ev.n a.bv[i]!
     · rw [e];exact (vo ok hi (by omega) (by omega)).symm
     rw [ls e] at hu
     exact (ok.HN hu (by omega)).symm
   · change j<(acp a.ae.ar) at hj
     rw [yC ok hi hj] at hu
     by_cases e:j=Ev.n a.bv[i]!
     · rw [e];exact vo ok hi (by omega) IZ
     rw [ls e] at hu
     exact ok.HN hu (by omega)
   · rintro e (rfl|⟨w,hw,_,rfl⟩)
     · exact ok.ev _ (by omega)
     exact ok.ev w (by omega)
   rintro e f (rfl|⟨v,hv,hvi,rfl⟩) (rfl|⟨w,hw,IZ,rfl⟩) he
   · rfl
   · rw [ok.zu (by omega) (by omega) he]
   · rw [ok.zu (by omega) (by omega) he]
   rw [ok.zu (by omega) (by omega) he]
 rw [ls c7]
 have hie:i=acp a.bv-1:=by omega
 refine abV (HS ok hi) (fun e=> ∃w,w<acp a.bv-1/\a.bv[w]! =e) (by omega) (by rw [pp];exact ok.wl) hl (fun w hw=>?_) (fun e=>aaH) (fun k k0 hk=>ok.ord k k0 (by omega)) (fun j hj hu=>?_) un ?_ ?_
 · obtain ⟨c1,c2,c3,c4,c5⟩:=ok.back (show w<(acp a.bv) by omega)
   refine ⟨c1,by rw [pp,ok.wl];exact c2,?_⟩;rw [bg,ls (fun h=>vo ok hi (show w<(acp a.bv) by omega) (by omega) h.1)];exact c5
 · change j<(acp a.ae.ar) at hj
   rw [yC ok hi hj] at hu
   by_cases e:j=Ev.n a.bv[i]!
   · rw [lm e] at hu;cases hu
   rw [ls e] at hu
   obtain ⟨w,hw,e1,e2⟩:=ok.Eb hj hu;refine ⟨a.bv[w]!,⟨w,?_,rfl⟩,e1,e2⟩;have:w≠i:=fun h=>e (by rw [<- h];show j=(Ev.ix a.bv[w]!).toNat;omega)
   omega
 · rintro e ⟨w,hw,rfl⟩
   exact ok.ev w (by omega)
 rintro e f ⟨v,hv,rfl⟩ ⟨w,hw,rfl⟩ he
 rw [ok.zu (by omega) (by omega) he]
theorem Ge (e:Ev):e∈(dS a i).bv↔(e∈a.bv/\e≠a.bv[i]!):=by
 have other: ∀w,w<acp a.bv->(a.bv[w]!≠a.bv[i]!↔w≠i):=fun w hw=>⟨fun h k=>h (by rw [k]),fun h k=>h (ok.inj hw hi (by rw [k]))⟩
 unfold dS
 by_cases c7:i<acp a.bv-1
 · rw [lm c7]
   have st:=Dw ok hi c7;show e∈(_:List Ev).take _↔_;rw [zU (by rw [st.hl];omega)];refine (st.mem e).trans ?_;constructor
   · rintro (h|⟨w,hw,IZ,rfl⟩)
     · rw [h];exact ⟨aQ (by omega),(other _ (by omega)).2 (by omega)⟩
     exact ⟨aQ (by omega),(other _ (by omega)).2 IZ⟩
   rintro ⟨h,dM⟩
   obtain ⟨w,hw,rfl⟩:=aO.1 h
   by_cases c:w=acp a.bv-1
   · left;rw [c]
   exact .inr ⟨w,by omega,(other w hw).1 dM,rfl⟩
 rw [ls c7]
 show e∈a.bv.take _↔_;rw [zU (by omega)];constructor
 · rintro ⟨w,hw,rfl⟩
   exact ⟨aQ (by omega),(other _ (by omega)).2 (by omega)⟩
 rintro ⟨h,dM⟩
 obtain ⟨w,hw,rfl⟩:=aO.1 h;have:=(other w hw).1 dM;exact ⟨w,by omega,rfl⟩
theorem C0:pL a (i:Int)=acr (dS a i,a.bv[i]!,0):=by
 have bd:=ok.bd;obtain ⟨b1,b2,b3,b4,b5⟩:=ok.back hi;obtain ⟨c1,c2,c3,c4,c5⟩:=ok.back (show (acp a.bv)-1<(acp a.bv) by omega);unfold pL;have e1:ai .i64 (((acp a.bv):Int) -1)=((acp a.bv-1:Nat):Int):=wR (by omega) (by omega);have g1:aG a.aj (a.bv[i]!).2.2.2.1=acr a.aj[(a.bv[i]!).2.2.2.1.toNat]!:=de b1 (by rw [ok.wl];exact b2);have ws:cj a.aj (a.bv[i]!).2.2.2.1 (-1)=a.aj.set (Ev.n a.bv[i]!) (-1):=rfl;simp only [aq a.bv i hi,ao,IY ok.so (ok.handle hi).1,show ((0:Int) !=0)=acF from rfl,lc,bj (show (acp a.bv)<=1048576 by omega),bj (show (acp a.aj)<=1048576 by omega),ay,e1,aq a.bv (acp a.bv-1) (by omega),kN a.bv (acp a.bv-1) (by omega),g1,ws,v6];unfold dS
 by_cases c7:i<acp a.bv-1
 · rw [aI (by omega),lm c7]
   have se:=Nc (cap:=acp a.bv) (u:=(fb a.ae (a.bv[i]!).2.2.2).ar) (us:=(fb a.ae (a.bv[i]!).2.2.2).be) (fr:=(fb a.ae (a.bv[i]!).2.2.2).bi) (ok.ev (acp a.bv-1) (by omega)) (show 0<=Ev.ix a.bv[acp a.bv-1]! from c1) (HR ok hi) c7 (show Ev.ix a.bv[acp a.bv-1]!<_ by rw [pp,ok.wl];exact c2);rw [se];rfl
 rw [aD (by omega),ls c7]
 rfl
theorem vp (fit:yA a) {h:Int×Int} (hh:(a.bv[i]!).2.2.2=h):jf a h=acr (dS a i,a.bv[i]!,0):=by unfold jf;rw [K7 ok fit hi hh];simp only [ao,show ((0:Int) !=0)=acF from rfl,lc,C0 ok hi]
theorem vq {h:Int×Int} (hh:(a.bv[i]!).2.2.2=h):kL a h=acr (dS a i):=by
 have bd:=ok.bd;subst hh;obtain ⟨b1,b2,b3,b4,b5⟩:=ok.back hi;obtain ⟨c1,c2,c3,c4,c5⟩:=ok.back (show (acp a.bv)-1<(acp a.bv) by omega);unfold kL;rw [pY ok];have e1:ai .i64 (((acp a.bv):Int) -1)=((acp a.bv-1:Nat):Int):=wR (by omega) (by omega);have g1:aG a.aj (a.bv[i]!).2.2.2.1=acr (i:Int):=by rw [de (l:=a.aj) b1 (by rw [ok.wl];exact b2)];exact congrArg acr b5
 have gv:=F1 ok.so (ok.handle hi).1;simp only [ao,g1,ay,e1,v6];unfold dS
 by_cases c7:i<acp a.bv-1
 · rw [dd (show (i:Int)≠((acp a.bv-1:Nat):Int) by omega),lm c7]
   have dM:(acp a.bv)-1≠i:=by omega
   have nn:Ev.n a.bv[acp a.bv-1]!≠Ev.n a.bv[i]!:=vo ok hi (by omega) dM;have sw:=BL (n:=acp a.bv) (x:=a.bv[i]!) (u:=a.ae.ar) (us:=a.ae.be) (fr:=a.ae.bi) (H:=a.bv) (W:=a.aj) hi (show (acp a.bv)-1<(acp a.bv) by omega) dM rfl b1 (by rw [ok.wl];exact b2) c1 (by rw [ok.wl];exact c2);rw [eH (l:=a.bv) rfl,eH (l:=a.aj) b5] at sw;have hs:(a.bv.set i a.bv[acp a.bv-1]!).set (acp a.bv-1) a.bv[i]! =(a.bv.set (acp a.bv-1) a.bv[i]!).set i a.bv[acp a.bv-1]!:=ac2 _ _ (by omega);have ws:cj ((a.aj.set (Ev.n a.bv[acp a.bv-1]!) (i:Int)).set (Ev.n a.bv[i]!) ((acp a.bv-1:Nat):Int)) (a.bv[i]!).2.2.2.1 (-1)=(a.aj.set (Ev.n a.bv[i]!) (-1)).set (Ev.n a.bv[acp a.bv-1]!) (i:Int):=by
    show ((a.aj.set (Ev.n a.bv[acp a.bv-1]!) (i:Int)).set (Ev.n a.bv[i]!) ((acp a.bv-1:Nat):Int)).set (Ev.n a.bv[i]!) (-1)=_;rw [List.set_set,ac2 _ _ nn]
   have g2:aG ((a.aj.set (Ev.n a.bv[acp a.bv-1]!) (i:Int)).set (Ev.n a.bv[i]!) ((acp a.bv-1:Nat):Int)) (a.bv[i]!).2.2.2.1=acr _:=de b1 (by rw [pp,pp,ok.wl];exact b2);have cells:lP (acp a.bv-1) (a.bv.set (acp a.bv-1) a.bv[i]!) (a.aj.set (Ev.n a.bv[i]!) (-1)):=by refine ⟨by rw [pp];omega,by rw [pp];omega,fun w hw=>?_⟩;rw [bg,ls (by omega)];exact (HR ok hi).ev w hw
   have x1:Ev.ix a.bv[acp a.bv-1]!<(a.aj.set (Ev.n a.bv[i]!) (-1)).length:=by rw [pp,ok.wl];exact c2
   have hx:=ok.ev (acp a.bv-1) (by omega);have gv':qB (aS.mk a.ae.ar a.ae.be a.ae.bi) (a.bv[i]!).2.2.2=acr (fb a.ae (a.bv[i]!).2.2.2):=gv;have tk:(a.bv.set (acp a.bv-1) a.bv[i]!).take (acp a.bv-1)=a.bv.take (acp a.bv-1):=by rw [tR];exact aa9 (by rw [Do];omega)
   have U:ov ((fb a.ae (a.bv[i]!).2.2.2).ar,(fb a.ae (a.bv[i]!).2.2.2).be,(fb a.ae (a.bv[i]!).2.2.2).bi,acp a.bv-1,((a.bv.set (acp a.bv-1) a.bv[i]!).set i a.bv[acp a.bv-1]!).length,(i:Int),(a.bv.set (acp a.bv-1) a.bv[i]!).set i a.bv[acp a.bv-1]!,(a.aj.set (Ev.n a.bv[i]!) (-1)).set (Ev.n a.bv[acp a.bv-1]!) (i:Int))=
    acr (((iy a.bv[acp a.bv-1]! i (a.bv.set (acp a.bv-1) a.bv[i]!) (a.aj.set (Ev.n a.bv[i]!) (-1))).1:Int),(iy a.bv[acp a.bv-1]! i (a.bv.set (acp a.bv-1) a.bv[i]!) (a.aj.set (Ev.n a.bv[i]!) (-1))).2.1.set (iy a.bv[acp a.bv-1]! i (a.bv.set (acp a.bv-1) a.bv[i]!) (a.aj.set (Ev.n a.bv[i]!) (-1))).1 a.bv[acp a.bv-1]!,(iy a.bv[acp a.bv-1]! i (a.bv.set (acp a.bv-1) a.bv[i]!) (a.aj.set (Ev.n a.bv[i]!) (-1))).2.2.set (Ev.n a.bv[acp a.bv-1]!) ((iy a.bv[acp a.bv-1]! i (a.bv.set (acp a.bv-1) a.bv[i]!) (a.aj.set (Ev.n a.bv[i]!) (-1))).1:Int)):=by
    unfold ov;exact TK (n:=acp a.bv-1) (c0:=((fb a.ae (a.bv[i]!).2.2.2).ar,(fb a.ae (a.bv[i]!).2.2.2).be,(fb a.ae (a.bv[i]!).2.2.2).bi,acp a.bv-1,((a.bv.set (acp a.bv-1) a.bv[i]!).set i a.bv[acp a.bv-1]!).length,(i:Int),(a.bv.set (acp a.bv-1) a.bv[i]!).set i a.bv[acp a.bv-1]!,(a.aj.set (Ev.n a.bv[i]!) (-1)).set (Ev.n a.bv[acp a.bv-1]!) (i:Int))) hx c1 i _ _ cells c7 x1 pp pp
   have ul:=TS (x:=a.bv[acp a.bv-1]!) i (a.bv.set (acp a.bv-1) a.bv[i]!) (a.aj.set (Ev.n a.bv[i]!) (-1));have un:=OT (x:=a.bv[acp a.bv-1]!) i (a.bv.set (acp a.bv-1) a.bv[i]!) (a.aj.set (Ev.n a.bv[i]!) (-1));have uc:=fun w hw=>yz (x:=a.bv[acp a.bv-1]!) cells c7 (i:=i) rfl w hw
   have Nh:lP (acp a.bv-1) (iy a.bv[acp a.bv-1]! i (a.bv.set (acp a.bv-1) a.bv[i]!) (a.aj.set (Ev.n a.bv[i]!) (-1))).2.1 (iy a.bv[acp a.bv-1]! i (a.bv.set (acp a.bv-1) a.bv[i]!) (a.aj.set (Ev.n a.bv[i]!) (-1))).2.2:=by refine ⟨by rw [un.1,pp];omega,by rw [un.1,pp];omega,fun w hw=>?_⟩;rw [un.2];exact uc w hw
   have D:mc ((fb a.ae (a.bv[i]!).2.2.2).ar,(fb a.ae (a.bv[i]!).2.2.2).be,(fb a.ae (a.bv[i]!).2.2.2).bi,acp a.bv-1,((a.bv.set (acp a.bv-1) a.bv[i]!).set i a.bv[acp a.bv-1]!).length,((iy a.bv[acp a.bv-1]! i (a.bv.set (acp a.bv-1) a.bv[i]!) (a.aj.set (Ev.n a.bv[i]!) (-1))).1:Int),(iy a.bv[acp a.bv-1]! i (a.bv.set (acp a.bv-1) a.bv[i]!) (a.aj.set (Ev.n a.bv[i]!) (-1))).2.1.set (iy a.bv[acp a.bv-1]! i (a.bv.set (acp a.bv-1) a.bv[i]!) (a.aj.set (Ev.n a.bv[i]!) (-1))).1 a.bv[acp a.bv-1]!,(iy a.bv[acp a.bv-1]! i (a.bv.set (acp a.bv-1) a.bv[i]!) (a.aj.set (Ev.n a.bv[i]!) (-1))).2.2.set (Ev.n a.bv[acp a.bv-1]!) ((iy a.bv[acp a.bv-1]! i (a.bv.set (acp a.bv-1) a.bv[i]!) (a.aj.set (Ev.n a.bv[i]!) (-1))).1:Int))=
    acr (bV (acp a.bv-1) a.bv[acp a.bv-1]! i (a.bv.set (acp a.bv-1) a.bv[i]!) (a.aj.set (Ev.n a.bv[i]!) (-1))):=by
    unfold mc
    exact K2 (n:=acp a.bv-1) (c0:=((fb a.ae (a.bv[i]!).2.2.2).ar,(fb a.ae (a.bv[i]!).2.2.2).be,(fb a.ae (a.bv[i]!).2.2.2).bi,acp a.bv-1,((a.bv.set (acp a.bv-1) a.bv[i]!).set i a.bv[acp a.bv-1]!).length,((iy a.bv[acp a.bv-1]! i (a.bv.set (acp a.bv-1) a.bv[i]!) (a.aj.set (Ev.n a.bv[i]!) (-1))).1:Int),(iy a.bv[acp a.bv-1]! i (a.bv.set (acp a.bv-1) a.bv[i]!) (a.aj.set (Ev.n a.bv[i]!) (-1))).2.1.set (iy a.bv[acp a.bv-1]! i (a.bv.set (acp a.bv-1) a.bv[i]!) (a.aj.set (Ev.n a.bv[i]!) (-1))).1 a.bv[acp a.bv-1]!,(iy a.bv[acp a.bv-1]! i (a.bv.set (acp a.bv-1) a.bv[i]!) (a.aj.set (Ev.n a.bv[i]!) (-1))).2.2.set (Ev.n a.bv[acp a.bv-1]!) ((iy a.bv[acp a.bv-1]! i (a.bv.set (acp a.bv-1) a.bv[i]!) (a.aj.set (Ev.n a.bv[i]!) (-1))).1:Int))) hx c1 (acp a.bv) (iy a.bv[acp a.bv-1]! i (a.bv.set (acp a.bv-1) a.bv[i]!) (a.aj.set (Ev.n a.bv[i]!) (-1))).1 (iy a.bv[acp a.bv-1]! i (a.bv.set (acp a.bv-1) a.bv[i]!) (a.aj.set (Ev.n a.bv[i]!) (-1))).2.1 (iy a.bv[acp a.bv-1]! i (a.bv.set (acp a.bv-1) a.bv[i]!) (a.aj.set (Ev.n a.bv[i]!) (-1))).2.2 (by omega) Nh (by omega) (by rw [un.2];exact x1) pp pp
   have st:=BO (n:=(acp a.bv-1)) (x:=a.bv[acp a.bv-1]!) (i:=i) (H:=(a.bv.set (acp a.bv-1) a.bv[i]!)) (W:=(a.aj.set (Ev.n a.bv[i]!) (-1))) c7;have st2:=BO (n:=(acp a.bv-1)) (x:=a.bv[acp a.bv-1]!) (i:=i) (H:=a.bv) (W:=(a.aj.set (Ev.n a.bv[i]!) (-1))) c7;rw [tk,st2] at st;injection st with st1 Mt;simp only [kw,sw,ao,kN _ (acp a.bv-1) (show (acp a.bv)-1<=((a.bv.set (acp a.bv-1) a.bv[i]!).set i a.bv[acp a.bv-1]!).length by rw [pp,pp];omega),g2,gv',ws,hs,U,D,<- st1,<- Mt]
 rw [bL (show (i:Int)=((acp a.bv-1:Nat):Int) by omega),ls c7]
 have ws:cj a.aj (a.bv[i]!).2.2.2.1 (-1)=a.aj.set (Ev.n a.bv[i]!) (-1):=rfl;simp only [lc,kN a.bv (acp a.bv-1) (by omega),ao,gv,ws]
end
abbrev pZ:=Int×Int×Int
theorem dZ.fit {a:aJ} (ok:dZ a):yA a:=by have bd:=ok.bd;have:=ok.so.fl;have:=ok.so.n2;exact ⟨by omega,by omega,by omega,fun w hw=>(ok.ev w hw).2.1⟩
theorem Ec (l:List pZ) (id:Int) (hl:(acp l)<=1000000) (hs: ∀i j,i<j->j<acp l->(l[i]!).1<(l[j]!).1):
 (∀k,k<acp l->(l[k]!).1=id->aP l id ()=acr ((k:Int),acy))/\
 ((∀k,k<acp l->(l[k]!).1≠id)-> ∃m,m<=acp l/\(∀i,i<m->(l[i]!).1<id)/\(∀i,m<=i->i<acp l->id<(l[i]!).1)/\aP l id ()=acr ((m:Int),acF)):=by
 obtain ⟨m,m1,m2,m3⟩:=KZ (fun i=>(l[i]!).1) id (acp l) hs;have run:aP l id ()=aB aN (l,id,((acp l):Int),(m:Int),(m:Int)):=by
  unfold aP;refine y9 (body:=aN) (fun lo hi=>(l,id,((acp l):Int),(lo:Int),(hi:Int))) (acp l) m (fun i=>(l[i]!).1<id) (fun lo hi h1 h2=>?_) m2 (fun i h1 h2 h3=>by have:=m3 i h1 h2;omega) (acp l) 0 (acp l) (by omega) (by omega) m1 (ww _);have e1:acI ((lo:Int)<(hi:Int))=acy:=aI (by omega);have hh:=OM (a:=lo) (b:=hi) (by omega) (by omega);unfold aN qj;simp only [e1,kw,hh,aq l ((lo+hi) / 2) (by omega),iw,ao,aT (show (lo+hi) / 2<1000000000 by omega)];constructor
  · intro h
    have:acI (iH (l[(lo+hi) / 2]!).1 id<0)=acy:=by rcases cM (l[(lo+hi) / 2]!).1 id with ⟨a,e⟩|⟨a,e⟩|⟨a,e⟩<;>rw [e]<;>first|rfl|omega
    rw [this];rfl
  intro h
  have:acI (iH (l[(lo+hi) / 2]!).1 id<0)=acF:=by rcases cM (l[(lo+hi) / 2]!).1 id with ⟨a,e⟩|⟨a,e⟩|⟨a,e⟩<;>rw [e]<;>first|rfl|omega
  rw [this];rfl
 have fin:aB aN (l,id,((acp l):Int),(m:Int),(m:Int))=if m<acp l/\(l[m]!).1=id then acr ((m:Int),acy) else acr ((m:Int),acF):=by
  have e1:acI ((m:Int)<(m:Int))=acF:=aD (by omega)
  by_cases hm:m<acp l
  · have e2:acI ((m:Int)<((acp l):Int))=acy:=aI (by omega)
    have body:aN (l,id,((acp l):Int),(m:Int),(m:Int))=acr (.done ((m:Int),iH (l[m]!).1 id==0)):=by unfold aN qj;simp only [e1,e2,kw,lc,aq l m hm,iw,ao]
    rw [aC body];rcases cM (l[m]!).1 id with ⟨a,e⟩|⟨a,e⟩|⟨a,e⟩
    · rw [e,ls (fun h=>by omega)];rfl
    · rw [e,lm ⟨hm,a⟩];rfl
    rw [e,ls (fun h=>by omega)];rfl
  have e2:acI ((m:Int)<((acp l):Int))=acF:=aD (by omega)
  have body:aN (l,id,((acp l):Int),(m:Int),(m:Int))=acr (.done ((m:Int),acF)):=by unfold aN;simp only [e1,e2,lc]
  rw [aC body,ls (fun h=>hm h.1)]
 rw [run,fin];constructor
 · intro k hk he
   have hkm:k=m:=by
    rcases aa8 k m with h|h|h
    · have:=m2 k h;omega
    · exact h
    have h1:=m3 m (ww _) (by omega)
    have h2:=hs m k h hk;omega
   subst hkm;rw [lm ⟨hk,he⟩]
 intro h
 refine ⟨m,m1,m2,fun i h1 h2=>?_,?_⟩
 · have:=m3 i h1 h2
   have:=h i h2;omega
 rw [ls (fun k=>h m k.1 k.2)]
theorem agZ:cL=aP:=rfl
theorem TV:cD=aP:=rfl
theorem aau:cI=aP:=rfl
theorem sL {α:Type} (l:List α) (k:Nat):l.eraseIdx k=l.take k++l.drop (k+1):=List.eraseIdx_eq_take_drop_succ l k
theorem Dx (l:List pZ) (k:Nat) (hk:k<acp l): ∃L:List pZ,eN ((k:Int),((k+1:Nat):Int),l)=acr (acp l-1,acp l,L)/\L.take (acp l-1)=l.eraseIdx k:=by
 unfold eN;have e1:acI ((0:Int)<=(k:Int))=acy:=aI (by omega);have e2:acI ((k:Int)<=((k+1:Nat):Int))=acy:=aI (by omega);have e3:acI (((k+1:Nat):Int)<=((acp l):Int))=acy:=aI (by omega);have e4:acI (((acp l):Int)<=((acp l):Int))=acy:=aI (by omega);have e5:((k:Int)==((k+1:Nat):Int))=acF:=dB (by omega);have e6:acI ((0:Int)<=((k+1:Nat):Int))=acy:=aI (by omega);have e7:acI ((k:Int)<=((acp l):Int))=acy:=aI (by omega);have dr:(l.drop (k+1)).take (acp l- (k+1))=l.drop (k+1):=If (by rw [aak];exact ww _);have dl:(l.drop (k+1)).length=acp l- (k+1):=aak;simp only [ay,e1,e2,e3,e4,e5,e6,e7,ac7,kw,lc,kN l k (by omega),ao,v6,Nat.zero_add,dr,dl,UV,Bool.and_true]
 by_cases h:k+1=acp l
 · have em:(l.drop (k+1)).isEmpty=acy:=by rw [abn,aa4];omega
   have n1:ack (acp l-k) 0=acF:=by
    cases hb:ack (acp l-k) 0 with
    |false=>rfl
    |true=>have:=ab8 hb;omega
   have n2:Nat.ble (k+(acp l-k)) (acp l)=acy:=aa2 (by omega);have ll:(gK l k (abO (acp l-k) ((0:Int),(0:Int),(0:Int)))).length=(acp l):=by unfold gK;simp;omega
   simp only [em,kw,n1,lc,n2,ll,beq_self_eq_true];refine ⟨_,by rw [show k=acp l-1 by omega],?_⟩;rw [sL,show (acp l)-1=k by omega];unfold gK;rw [aa1,IR (by rw [Do];omega),abR,acl];rw [ab2 (by omega),abF]
 have em:(l.drop (k+1)).isEmpty=acF:=by
  cases hb:(l.drop (k+1)).isEmpty with
  |false=>rfl
  |true=>rw [abn,aa4] at hb;omega
 have n1:Nat.ble (k+(acp l- (k+1))) (acp l)=acy:=aa2 (by omega);have n2:acI ((0:Int)<=((k+(acp l- (k+1)):Nat):Int))=acy:=aI (by omega);have n3:acI (((k+(acp l- (k+1)):Nat):Int)<=((acp l):Int))=acy:=aI (by omega);have n4:ack (acp l- (k+(acp l- (k+1)))) 0=acF:=by
  cases hb:ack (acp l- (k+(acp l- (k+1)))) 0 with
  |false=>rfl
  |true=>have:=ab8 hb;omega
 have l1:(gK l k (l.drop (k+1))).length=(acp l):=by unfold gK;simp;omega
 have n5:Nat.ble (k+(acp l- (k+1))+(acp l- (k+(acp l- (k+1))))) (acp l)=acy:=aa2 (by omega);have l2:(gK (gK l k (l.drop (k+1))) (k+(acp l- (k+1))) (abO (acp l- (k+(acp l- (k+1)))) ((0:Int),(0:Int),(0:Int)))).length=(acp l):=by unfold gK;simp;omega
 simp only [em,lc,n1,kw,n2,n3,ac7,n4,l1,n5,l2,beq_self_eq_true];refine ⟨_,by rw [show k+(acp l- (k+1))=acp l-1 by omega],?_⟩;rw [sL];have:k+(acp l- (k+1))=acp l-1:=by omega
 unfold gK;rw [aa1,IR (by simp;omega),abR,acl,aa1];rw [show (l.take k++(l.drop (k+1)++l.drop (k+(l.drop (k+1)).length)))=(l.take k++l.drop (k+1))++l.drop (k+(l.drop (k+1)).length) by rw [aa1]];rw [IR (by simp;omega),If (by simp;omega)]
theorem Ni:gR=eN:=rfl
theorem Gf {α:Type} [Inhabited α] {l:List α} {k i:Nat}:(l.eraseIdx k)[i]! =if i<k then l[i]! else l[i+1]!:=by
 rw [sL]
 by_cases hk:k<acp l
 · by_cases h:i<k
   · rw [lm h,ji (by rw [Do];omega),kM h]
   rw [ls h,jM (by rw [Do];omega),rR,Do]
   congr 1;omega
 have e1:l.take k=l:=If (by omega)
 have e2:l.drop (k+1)=[]:=ab2 (by omega);rw [e1,e2,abF];split
 · rfl
 rw [getElem!_neg l i (by omega),getElem!_neg l (i+1) (by omega)]
def eO (x:Int×Int):Prop:=0<=x.1/\x.1<=65535/\0<=x.2/\x.2<=65535/\x.1≠x.2
theorem zV (x:Int×Int):ss x=acr (acI (eO x)):=by
 obtain ⟨a,b⟩:=x;unfold ss;dsimp only
 by_cases h1:0<=a
 · by_cases h3:0<=b
   · have e1:acI (0<=if b<a then b else a)=acy:=aI (by split<;>omega)
     rw [e1]
     by_cases h2:a<=65535
     · by_cases h4:b<=65535
       · have e2:acI ((if b>a then b else a)<=65535)=acy:=aI (by split<;>omega)
         rw [e2]
         by_cases h5:a=b
         · rw [bL h5,aD (p:=eO (a,b)) (fun h=>h.2.2.2.2 h5)];rfl
         rw [dd h5,aI (p:=eO (a,b)) ⟨h1,h2,h3,h4,h5⟩];rfl
       have e2:acI ((if b>a then b else a)<=65535)=acF:=aD (by split<;>omega)
       rw [e2,aD (p:=eO (a,b)) (fun h=>h4 h.2.2.2.1)];rfl
     have e2:acI ((if b>a then b else a)<=65535)=acF:=aD (by split<;>omega)
     rw [e2,aD (p:=eO (a,b)) (fun h=>h2 h.2.1)];rfl
   have e1:acI (0<=if b<a then b else a)=acF:=aD (by split<;>omega)
   rw [e1,aD (p:=eO (a,b)) (fun h=>h3 h.2.2.1)];rfl
 have e1:acI (0<=if b<a then b else a)=acF:=aD (by split<;>omega)
 rw [e1,aD (p:=eO (a,b)) (fun h=>h1 h.1)];rfl
theorem zW (x:Int×Int):sB x=acr (acI (eO x)):=by
 obtain ⟨a,b⟩:=x;unfold sB;dsimp only
 by_cases h1:0<=a
 · by_cases h2:a<=65535
   · by_cases h3:0<=b
     · by_cases h4:b<=65535
       · by_cases h5:a=b
         · rw [bL h5,aI h1,aI h2,aI h3,aI h4,aD (p:=eO (a,b)) (fun h=>h.2.2.2.2 h5)];rfl
         rw [dd h5,aI h1,aI h2,aI h3,aI h4,aI (p:=eO (a,b)) ⟨h1,h2,h3,h4,h5⟩];rfl
       rw [aI h1,aI h2,aI h3,aD h4,aD (p:=eO (a,b)) (fun h=>h4 h.2.2.2.1)];rfl
     rw [aI h1,aI h2,aD h3,aD (p:=eO (a,b)) (fun h=>h3 h.2.2.1)];rfl
   rw [aI h1,aD h2,aD (p:=eO (a,b)) (fun h=>h2 h.2.1)];rfl
 rw [aD h1,aD (p:=eO (a,b)) (fun h=>h1 h.1)];rfl
structure dX (c:aZ):Prop where
 len:(acp c.ce)<=200
 n0:0<=c.aL
 n1:c.aL<=1000000
 cv: ∀i,i<acp c.ce->eO (c.ce[i]!).2
 nr: ∀i,i<acp c.ce->0<=(c.ce[i]!).1/\(c.ce[i]!).1<c.aL
 up: ∀i j,i<j->j<acp c.ce->(c.ce[i]!).1<(c.ce[j]!).1
 nd: ∀i j,i<j->j<acp c.ce->(c.ce[i]!).2≠(c.ce[j]!).2
def yD (l:List pZ) (i:Nat):Int:=if i=0 then -1 else (l[i-1]!).1
def Nj (c:aZ) (i:Nat):Prop:=eO (c.ce[i]!).2/\(∀j,j<i->(c.ce[j]!).2≠(c.ce[i]!).2)/\yD c.ce i<(c.ce[i]!).1/\(c.ce[i]!).1<c.aL
theorem dX.iff {c:aZ} (h1:(acp c.ce)<=200) (h2:0<=c.aL) (h3:c.aL<=1000000):dX c↔ ∀i,i<acp c.ce->Nj c i:=by
 constructor
 · intro ok i hi
   refine ⟨ok.cv i hi,fun j hj=>ok.nd j i hj hi,?_,(ok.nr i hi).2⟩;unfold yD;split
   · have:=(ok.nr i hi).1;omega
   exact ok.up (i-1) i (by omega) hi
 intro h
 have low: ∀i,i<acp c.ce->0<=(c.ce[i]!).1:=by
  intro i
  induction i with
  |zero=>intro hi;have:=(h 0 hi).2.2.1;unfold yD at this;rw [lm rfl] at this;omega
  |succ i ih=>intro hi;have h1:=(h (i+1) hi).2.2.1;unfold yD at h1;rw [ls (by omega),show i+1-1=i by omega] at h1;have:=ih (by omega);omega
 have up: ∀i j,i<j->j<acp c.ce->(c.ce[i]!).1<(c.ce[j]!).1:=by
  intro i j
  induction j with
  |zero=>intro h;omega
  |succ j ih=>
   intro lS hj;have h1:=(h (j+1) hj).2.2.1;unfold yD at h1;rw [ls (by omega),show j+1-1=j by omega] at h1
   by_cases e:i=j
   · subst e;exact h1
   have:=ih (by omega) (by omega)
   omega
 exact ⟨h1,h2,h3,fun i hi=>(h i hi).1,fun i hi=>⟨low i hi,(h i hi).2.2.2⟩,up,fun i j lS hj=>(h j hj).2.1 i lS⟩
theorem Gg (l:List pZ) (k:Nat) (a b:Int):nU [a,b] ((l.take k).map fun x=>[x.2.1,x.2.2])=acy:=by unfold nU;rw [List.all_eq_true];intro x hx;obtain ⟨y,hy,rfl⟩:=PP.1 hx;rfl
theorem Gh (l:List pZ) (k:Nat) (x:Int×Int):DM ((l.take k).map fun y=>[y.2.1,y.2.2]) [x.1,x.2]=acI (∃j,j<k/\j<acp l/\(l[j]!).2=x):=by
 unfold DM;rw [ab7,List.any_eq_true,decide_eq_true_iff];constructor
 · rintro ⟨y,hy,he⟩
   obtain ⟨z,hz,rfl⟩:=PP.1 hy;obtain ⟨j,h1,h2,rfl⟩:=bY.1 hz;have:[x.1,x.2]=[(l[j]!).2.1,(l[j]!).2.2]:=by simpa using he
   injection this with e1 e2;injection e2 with e2 _;exact ⟨j,h1,h2,NE e1.symm e2.symm⟩
 rintro ⟨j,h1,h2,h3⟩
 refine ⟨[(l[j]!).2.1,(l[j]!).2.2],PP.2 ⟨l[j]!,bY.2 ⟨j,h1,h2,rfl⟩,rfl⟩,?_⟩;rw [h3];simp
theorem uC (c:aZ):oY c=acr (if dX c then 0 else 8):=by
 unfold oY;simp only [ay]
 by_cases h1:200<acp c.ce
 · rw [aI (show (200:Int)<((acp c.ce):Int) by omega),ls (fun h=>by have:=h.len;omega)];rfl
 rw [aD (show¬(200:Int)<((acp c.ce):Int) by omega)]
 by_cases h2:c.aL<0
 · rw [aI h2,ls (fun h=>by have:=h.n0;omega)];rfl
 rw [aD h2]
 by_cases h3:1000000<c.aL
 · rw [aI h3,ls (fun h=>by have:=h.n1;omega)];rfl
 rw [aD h3];simp only [lc];have key:=cN (body:=pJ) (fun i=>(yD c.ce i,c.ce,((acp c.ce):Int),(i:Int),c.aL,c.ce,(c.ce.take i).map fun x=>[x.2.1,x.2.2])) (acp c.ce) (fun i=> ¬Nj c i) (r:=8) (e:=0) (fun i hi=>by
  have e1:acI ((i:Int)<((acp c.ce):Int))=acy:=aI (by omega);have has:Kf ((c.ce.take i).map fun x=>[x.2.1,x.2.2]) [(c.ce[i]!).2.1,(c.ce[i]!).2.2]=acr (acI (∃j,j<i/\j<acp c.ce/\(c.ce[j]!).2=(c.ce[i]!).2)):=by unfold Kf;rw [Gg,Gh];rfl
  have nx:(c.ce.take (i+1)).map (fun x=>[x.2.1,x.2.2])=((c.ce.take i).map fun x=>[x.2.1,x.2.2])++[[(c.ce[i]!).2.1,(c.ce[i]!).2.2]]:=by rw [dp hi,List.map_append];rfl
  have ln:yD c.ce (i+1)=(c.ce[i]!).1:=by unfold yD;rw [ls (by omega),show i+1-1=i by omega]
  unfold pJ;simp only [e1,kw,aq c.ce i hi,ao,zV,has,nx,ln,aT (show i<1000000000 by omega)];unfold Nj
  by_cases b1:eO (c.ce[i]!).2
  case neg=>rw [aD b1];exact ⟨fun _=>rfl,fun h=>absurd (lw.1 h).1 b1⟩
  rw [aI b1]
  by_cases b2: ∃j,j<i/\j<acp c.ce/\(c.ce[j]!).2=(c.ce[i]!).2
  · rw [aI b2]
    refine ⟨fun _=>rfl,fun h=>?_⟩;obtain ⟨j,j1,j2,j3⟩:=b2;exact absurd j3 ((lw.1 h).2.1 j j1)
  rw [aD b2];have b2': ∀j,j<i->(c.ce[j]!).2≠(c.ce[i]!).2:=fun j hj he=>b2 ⟨j,hj,by omega,he⟩
  by_cases b3:(c.ce[i]!).1<=yD c.ce i
  · rw [aI b3]
    exact ⟨fun _=>rfl,fun h=>absurd (lw.1 h).2.2.1 (by omega)⟩
  rw [aD b3]
  by_cases b4:c.aL<=(c.ce[i]!).1
  · rw [aI b4]
    exact ⟨fun _=>rfl,fun h=>absurd (lw.1 h).2.2.2 (by omega)⟩
  rw [aD b4];have ins:Kg ((c.ce.take i).map fun x=>[x.2.1,x.2.2]) [(c.ce[i]!).2.1,(c.ce[i]!).2.2]=acr (((c.ce.take i).map fun x=>[x.2.1,x.2.2])++[[(c.ce[i]!).2.1,(c.ce[i]!).2.2]]):=by unfold Kg Mj;rw [Gg,Gh,aD b2];rfl
  rw [ins];exact ⟨fun h=>absurd ⟨b1,b2',by omega,by omega⟩ h,fun _=>rfl⟩) (by
  unfold pJ;have:acI (((acp c.ce):Int)<((acp c.ce):Int))=acF:=aD (by omega);simp only [this,lc])
 have h0:yD c.ce 0= -1:=rfl;rw [h0] at key
 by_cases ok:dX c
 · rw [lm ok]
   exact key.2 fun i hi=>lw.2 ((dX.iff (by omega) (by omega) (by omega)).1 ok i hi)
 rw [ls ok]
 rw [dX.iff (by omega) (by omega) (by omega)] at ok;obtain ⟨i,h⟩:=AC.1 ok;obtain ⟨hi,hx⟩:=EQ.1 h;exact key.1 ⟨i,hi,hx⟩
theorem Lc (c:aZ) (i:Nat) (hi:i<acp c.ce) (hl:(acp c.ce)<=200):
 ((∃j,j<i/\(c.ce[j]!).2=(c.ce[i]!).2)->aB fv ((i:Int),0,c.aL,c.ce,c.ce[i]!)=acr (.done 8))/\
 ((∀j,j<i-> ¬(c.ce[j]!).2=(c.ce[i]!).2)->aB fv ((i:Int),0,c.aL,c.ce,c.ce[i]!)=acr (.next (((i+1:Nat):Int),c.aL,c.ce))):=by
 refine cN (body:=fv) (fun j=>((i:Int),(j:Int),c.aL,c.ce,c.ce[i]!)) i (fun j=>(c.ce[j]!).2=(c.ce[i]!).2) (r:= .done 8) (e:= .next (((i+1:Nat):Int),c.aL,c.ce)) (fun j hj=>?_) ?_
 · have e1:acI ((j:Int)<(i:Int))=acy:=aI (by omega)
   unfold fv;simp only [e1,kw,aq c.ce j (by omega),ao,aT (show j<1000000000 by omega)];generalize c.ce[j]! =x;generalize c.ce[i]! =y;constructor
   · intro h;rw [dL (congrArg abU h),dL (congrArg ac0 h)];rfl
   intro h
   by_cases h1:x.2.1=y.2.1
   · rw [dL h1,dB (fun h2=>h (NE h1 h2))];rfl
   rw [dB h1];rfl
 unfold fv
 have:acI ((i:Int)<(i:Int))=acF:=aD (by omega);simp only [this,lc,aT (show i<1000000000 by omega)]
theorem yE (c:aZ):qu c=acr (if dX c then 0 else 8):=by
 unfold qu;simp only [ay]
 by_cases h1:200<acp c.ce
 · rw [aI (show (200:Int)<((acp c.ce):Int) by omega),ls (fun h=>by have:=h.len;omega)];rfl
 rw [aD (show¬(200:Int)<((acp c.ce):Int) by omega)]
 by_cases h2:c.aL<0
 · rw [aI h2,ls (fun h=>by have:=h.n0;omega)];rfl
 rw [aD h2]
 by_cases h3:1000000<c.aL
 · rw [aI h3,ls (fun h=>by have:=h.n1;omega)];rfl
 rw [aD h3];simp only [lc];have key:=cN (body:=om) (fun i=>((i:Int),c.aL,c.ce)) (acp c.ce) (fun i=> ¬(eO (c.ce[i]!).2/\0<=(c.ce[i]!).1/\(c.ce[i]!).1<c.aL/\(0<i->(c.ce[i-1]!).1<(c.ce[i]!).1)/\ ∀j,j<i-> ¬(c.ce[j]!).2=(c.ce[i]!).2)) (r:=8) (e:=0) (fun i hi=>by
  have e1:acI ((i:Int)<((acp c.ce):Int))=acy:=aI (by omega);have l1:=Lc c i hi (by omega);unfold om;simp only [ay,e1,kw,aq c.ce i hi,ao,zW]
  by_cases b1:eO (c.ce[i]!).2
  case neg=>rw [aD b1];exact ⟨fun _=>rfl,fun h=>absurd (lw.1 h).1 b1⟩
  rw [aI b1]
  by_cases b2:(c.ce[i]!).1<0
  · rw [aI b2]
    exact ⟨fun _=>rfl,fun h=>absurd (lw.1 h).2.1 (by omega)⟩
  rw [aD b2]
  by_cases b3:c.aL<=(c.ce[i]!).1
  · rw [aI b3]
    exact ⟨fun _=>rfl,fun h=>absurd (lw.1 h).2.2.1 (by omega)⟩
  rw [aD b3];simp only [ut,lc];have go:(0<i->(c.ce[i-1]!).1<(c.ce[i]!).1)->(¬(eO (c.ce[i]!).2/\0<=(c.ce[i]!).1/\(c.ce[i]!).1<c.aL/\(0<i->(c.ce[i-1]!).1<(c.ce[i]!).1)/\ ∀j,j<i-> ¬(c.ce[j]!).2=(c.ce[i]!).2)->aB fv ((i:Int),0,c.aL,c.ce,c.ce[i]!)=acr (.done 8))/\
   (¬¬(eO (c.ce[i]!).2/\0<=(c.ce[i]!).1/\(c.ce[i]!).1<c.aL/\(0<i->(c.ce[i-1]!).1<(c.ce[i]!).1)/\ ∀j,j<i-> ¬(c.ce[j]!).2=(c.ce[i]!).2)->aB fv ((i:Int),0,c.aL,c.ce,c.ce[i]!)=acr (.next (((i+1:Nat):Int),c.aL,c.ce))):=by
   intro hp;constructor
   · intro h
     refine l1.1 (Classical.byContradiction fun hx=>h ⟨b1,by omega,by omega,hp,fun j hj he=>hx ⟨j,hj,he⟩⟩)
   intro h
   exact l1.2 (lw.1 h).2.2.2.2
  by_cases b4:0<i
  · have f1:acI ((0:Int)<(i:Int))=acy:=aI (by omega)
    simp only [f1,kw,wR (show i<1000000000 by omega) b4,aq c.ce (i-1) (by omega),ao]
    by_cases b5:(c.ce[i]!).1<=(c.ce[i-1]!).1
    · rw [aI b5]
      exact ⟨fun _=>rfl,fun h=>absurd ((lw.1 h).2.2.2.1 b4) (by omega)⟩
    rw [aD b5]
    exact go fun _=>by omega
  · have f1:acI ((0:Int)<(i:Int))=acF:=aD (by omega)
    rw [f1];exact go fun h=>absurd h b4) (by
  unfold om;have:acI (((acp c.ce):Int)<((acp c.ce):Int))=acF:=aD (by omega);simp only [ay,this,lc])
 have same:dX c↔ ∀i,i<acp c.ce->(eO (c.ce[i]!).2/\0<=(c.ce[i]!).1/\(c.ce[i]!).1<c.aL/\(0<i->(c.ce[i-1]!).1<(c.ce[i]!).1)/\ ∀j,j<i-> ¬(c.ce[j]!).2=(c.ce[i]!).2):=by
  constructor
  · intro ok i hi
    exact ⟨ok.cv i hi,(ok.nr i hi).1,(ok.nr i hi).2,fun h=>ok.up (i-1) i (by omega) hi,fun j hj=>ok.nd j i hj hi⟩
  intro h
  rw [dX.iff (by omega) (by omega) (by omega)];intro i hi;obtain ⟨a1,a2,a3,a4,a5⟩:=h i hi;refine ⟨a1,a5,?_,a3⟩;unfold yD;split
  · omega
  exact a4 (by omega)
 by_cases ok:dX c
 · rw [lm ok]
   exact key.2 fun i hi=>lw.2 (same.1 ok i hi)
 rw [ls ok]
 rw [same] at ok;obtain ⟨i,h⟩:=AC.1 ok;obtain ⟨hi,hx⟩:=EQ.1 h;exact key.1 ⟨i,hi,hx⟩
def rI (l:List pZ) (x:Int×Int):Prop:= ∃i,i<acp l/\(l[i]!).2=x
theorem Ld (l:List pZ) (x:Int×Int) (hl:(acp l)<=1000000):bR l x=acr (acI (rI l x)):=by
 unfold bR eY;have key:=lL (body:=cR) (fun i=>(l,x.1,x.2,((acp l):Int),(i:Int))) (acp l) (fun i=>(l[i]!).2=x) (fun i=>(i:Int)) (e:= -1) (fun i hi=>by
  have e1:acI ((i:Int)<((acp l):Int))=acy:=aI (by omega);unfold cR AI;simp only [e1,kw,aq l i hi,ao,aT (show i<1000000000 by omega)];generalize l[i]! =y;constructor
  · intro h;rw [dL (congrArg abU h),dL (congrArg ac0 h)];rfl
  · intro h
    by_cases h1:y.2.1=x.1
    · rw [dL h1,dB (fun h2=>h (NE h1 h2))];rfl
    rw [dB h1];rfl) (by
  unfold cR;have:acI (((acp l):Int)<((acp l):Int))=acF:=aD (by omega);simp only [this,lc])
 rw [ay]
 by_cases hx:rI l x
 · obtain ⟨k,h1,h2,h3⟩:=least hx
   have:=key.1 k h1 h2 h3;rw [show ((0:Nat):Int)=0 from rfl] at this;rw [this,aI hx];simp only [ao,aI (show (0:Int)<=(k:Int) by omega)]
 have:=key.2 fun i hi he=>hx ⟨i,hi,he⟩
 rw [show ((0:Nat):Int)=0 from rfl] at this;rw [this,aD hx];rfl
theorem C1:dJ=bR:=rfl
theorem wW (c:aZ) (x:Int×Int) (hl:(acp c.ce)<=1000000):rQ c x=acr (acI (rI c.ce x)):=by
 unfold rQ;have key:=cN (body:=rG) (fun i=>((i:Int),c.aL,c.ce,x)) (acp c.ce) (fun i=>(c.ce[i]!).2=x) (r:=acy) (e:=acF) (fun i hi=>by
  have e1:acI ((i:Int)<((acp c.ce):Int))=acy:=aI (by omega);unfold rG;simp only [ay,e1,kw,aq c.ce i hi,ao,aT (show i<1000000000 by omega)];generalize c.ce[i]! =y;constructor
  · intro h;rw [dL (congrArg abU h),dL (congrArg ac0 h)];rfl
  · intro h
    by_cases h1:y.2.1=x.1
    · rw [dL h1,dB (fun h2=>h (NE h1 h2))];rfl
    rw [dB h1];rfl) (by
  unfold rG;have:acI (((acp c.ce):Int)<((acp c.ce):Int))=acF:=aD (by omega);simp only [ay,this,lc])
 by_cases hx:rI c.ce x
 · rw [aI hx];exact key.1 hx
 rw [aD hx];exact key.2 fun i hi he=>hx ⟨i,hi,he⟩
def oz (c:aZ) (x:Int×Int):aZ:=⟨c.aL+1,c.ce++[(c.aL,x)]⟩
def BP (c:aZ):Prop:=acp c.ce=200\/c.aL=1000000
theorem Lf {c:aZ} (ok:dX c) {x:Int×Int} (hx:eO x):BE c x=acr (if rI c.ce x then (⟨0,[]⟩,0,14) else if BP c then (⟨0,[]⟩,0,18) else (oz c x,c.aL,0)):=by
 have:=ok.len;have:=ok.n0;have:=ok.n1;unfold BE;rw [uC,lm ok,zV,aI hx,Ld _ _ (by omega)];simp only [ao,show ((0:Int) !=0)=acF from rfl,lc,ut,ay]
 by_cases h1:rI c.ce x
 · rw [aI h1,lm h1];rfl
 rw [aD h1,ls h1];unfold BP
 by_cases h2:(acp c.ce)=200
 · rw [dL (show ((acp c.ce):Int)=200 by omega),lm (.inl h2)];rfl
 rw [dB (show¬((acp c.ce):Int)=200 by omega)]
 by_cases h3:c.aL=1000000
 · rw [dL h3,lm (.inr h3)];rfl
 rw [dB h3,ls (by omega)];have e:ai .i64 (c.aL+1)=c.aL+1:=by rw [wi];omega
 simp only [lc,bj (show (acp c.ce)<=1048576 by omega),ao,cu (show (acp c.ce)+[(c.aL,x)].length<=1048576 by simp;omega),e];rfl
theorem I6 {c:aZ} (ok:dX c) {x:Int×Int} (hx:eO x):CT c x=acr (if rI c.ce x then (⟨0,[]⟩,0,14) else if BP c then (⟨0,[]⟩,0,18) else (oz c x,c.aL,0)):=by
 have:=ok.len;have:=ok.n0;have:=ok.n1;unfold CT wN;rw [yE,lm ok,zW,aI hx,wW _ _ (by omega)];simp only [ao,show ((0:Int) !=0)=acF from rfl,lc,ut,ay]
 by_cases h1:rI c.ce x
 · rw [aI h1,lm h1];rfl
 rw [aD h1,ls h1];unfold BP
 by_cases h2:(acp c.ce)=200
 · rw [dL (show ((acp c.ce):Int)=200 by omega),lm (.inl h2)];rfl
 rw [dB (show¬((acp c.ce):Int)=200 by omega)]
 by_cases h3:c.aL=1000000
 · rw [dL h3,lm (.inr h3)];rfl
 rw [dB h3,ls (by omega)];have e:ai .i64 (c.aL+1)=c.aL+1:=by rw [wi];omega
 simp only [lc,bj (show (acp c.ce)<=1048576 by omega),ao,cu (show (acp c.ce)+[(c.aL,x)].length<=1048576 by simp;omega),e];rfl
theorem sM {c:aZ} {x:Int×Int} {i:Nat}:(oz c x).ce[i]! =if i<(acp c.ce) then c.ce[i]! else if i=(acp c.ce) then (c.aL,x) else default:=by
 show (c.ce++[(c.aL,x)])[i]! =_
 by_cases h:i<acp c.ce
 · rw [lm h,ji h]
 rw [ls h,jM (by omega)]
 by_cases e:i=acp c.ce
 · rw [lm e,e,aaI];rfl
 rw [ls e,getElem!_neg _ _ (by simp;omega)]
theorem zh {c:aZ} {x:Int×Int}:(oz c x).ce.length=acp c.ce+1:=by show (c.ce++[(c.aL,x)]).length=_;simp
theorem Nk {c:aZ} (ok:dX c) {x:Int×Int} (hx:eO x) (hn: ¬rI c.ce x) (hf: ¬BP c):dX (oz c x):=by
 have h1:=ok.len;have h2:=ok.n0;have h3:=ok.n1;unfold BP at hf;refine ⟨by rw [zh];omega,by show 0<=c.aL+1;omega,by show c.aL+1<=1000000;omega,?_,?_,?_,?_⟩
 · intro i hi
   rw [zh] at hi;rw [sM]
   by_cases h:i<acp c.ce
   · rw [lm h];exact ok.cv i h
   rw [ls h,lm (by omega)];exact hx
 · intro i hi
   rw [zh] at hi;rw [sM];show 0<=_/\_<c.aL+1
   by_cases h:i<acp c.ce
   · rw [lm h];have:=ok.nr i h;omega
   rw [ls h,lm (by omega)];dsimp only;omega
 · intro i j lS hj
   rw [zh] at hj;rw [sM,sM,lm (by omega)]
   by_cases h:j<acp c.ce
   · rw [lm h];exact ok.up i j lS h
   rw [ls h,lm (by omega)]
   exact (ok.nr i (by omega)).2
 intro i j lS hj
 rw [zh] at hj;rw [sM,sM,lm (by omega)]
 by_cases h:j<acp c.ce
 · rw [lm h];exact ok.nd i j lS h
 rw [ls h,lm (by omega)]
 exact fun he=>hn ⟨i,by omega,he⟩
def mg (c:aZ) (k:Nat):aZ:=⟨c.aL,c.ce.eraseIdx k⟩
theorem OU {α:Type} {l:List α} {k:Nat} (hk:k<acp l):(l.eraseIdx k).length=acp l-1:=by rw [List.length_eraseIdx,lm hk]
theorem Gi {c:aZ} (ok:dX c) {k:Nat} (hk:k<acp c.ce):dX (mg c k):=by
 have h1:=ok.len;have len:(mg c k).ce.length=acp c.ce-1:=OU hk;have cell: ∀i,∃j,i<=j/\j<=i+1/\(i<acp c.ce-1->j<acp c.ce)/\(mg c k).ce[i]! =c.ce[j]!/\(i<k->j=i)/\(k<=i->j=i+1):=by
  intro i
  by_cases h:i<k
  · exact ⟨i,by omega,by omega,by omega,by show (c.ce.eraseIdx k)[i]! =_;rw [Gf,lm h],fun _=>rfl,by omega⟩
  exact ⟨i+1,by omega,by omega,by omega,by show (c.ce.eraseIdx k)[i]! =_;rw [Gf,ls h],by omega,fun _=>rfl⟩
 refine ⟨by omega,ok.n0,ok.n1,?_,?_,?_,?_⟩
 · intro i hi
   obtain ⟨j,j1,j2,j3,j4,j5,j6⟩:=cell i;rw [j4];exact ok.cv j (j3 (by omega))
 · intro i hi
   obtain ⟨j,j1,j2,j3,j4,j5,j6⟩:=cell i;rw [j4];exact ok.nr j (j3 (by omega))
 · intro i i' lS hi
   obtain ⟨j,j1,j2,j3,j4,j5,j6⟩:=cell i;obtain ⟨m,m1,m2,m3,m4,m5,m6⟩:=cell i';rw [j4,m4];exact ok.up j m (by omega) (m3 (by omega))
 intro i i' lS hi
 obtain ⟨j,j1,j2,j3,j4,j5,j6⟩:=cell i;obtain ⟨m,m1,m2,m3,m4,m5,m6⟩:=cell i';rw [j4,m4];exact ok.nd j m (by omega) (m3 (by omega))
theorem Gj {c:aZ} (ok:dX c) {k:Nat} (hk:k<acp c.ce) {n:Int} (hn:(c.ce[k]!).1=n):qk c n=acr (mg c k,(c.ce[k]!).2,0):=by have h1:=ok.len;unfold qk CR;obtain ⟨L,d1,d2⟩:=Dx c.ce k hk;rw [uC,lm ok,(Ec c.ce n (by omega) ok.up).1 k hk hn];simp only [ao,show ((0:Int) !=0)=acF from rfl,lc,ut,bj (show (acp c.ce)<=1048576 by omega),aT (show k<1000000000 by omega),d1,aq c.ce k hk,d2];rfl
theorem I7 {l:List pZ} {k:Nat} (hk:k<acp l) (hs: ∀i j,i<j->j<acp l->(l[i]!).1<(l[j]!).1) {n:Int} (hn:(l[k]!).1=n):l.filter (fun x=>x.1 !=n)=l.eraseIdx k:=by
 rw [sL];have e:l.filter (fun x=>x.1 !=n)=(l.take k++l[k]!::l.drop (k+1)).filter (fun x=>x.1 !=n):=congrArg _ (TB hk);rw [e,abe,List.filter_cons_of_neg (by rw [hn];simp)]
 congr 1
 · rw [aba]
   intro x hx;obtain ⟨i,h1,h2,rfl⟩:=bY.1 hx;have:=hs i k h1 hk;exact dd (by omega)
 rw [aba]
 intro x hx;obtain ⟨i,h1,rfl⟩:=aO.1 hx;rw [aak] at h1;rw [rR];have:=hs k (k+1+i) (by omega) (by omega);exact dd (by omega)
theorem C2 {c:aZ} (ok:dX c) {k:Nat} (hk:k<acp c.ce) {n:Int} (hn:(c.ce[k]!).1=n):uu c n=acr (mg c k):=by
 have h1:=ok.len;unfold uu;have key:=bD (body:=jL) (fun i=>(n,(i:Int),c.aL,c.ce,0,c.aL,(c.ce.take i).filter (fun x=>x.1 !=n))) (acp c.ce) (fun i hi=>by
  have e1:acI ((i:Int)<((acp c.ce):Int))=acy:=aI (by omega);have nx:(c.ce.take (i+1)).filter (fun x=>x.1 !=n)=(c.ce.take i).filter (fun x=>x.1 !=n)++(if (c.ce[i]!).1 !=n then [c.ce[i]!] else []):=by rw [dp hi,abe,List.filter_cons,List.filter_nil]
  have fl:((c.ce.take i).filter (fun x=>x.1 !=n)).length<=200:=ace (List.length_filter_le _ _) (by rw [Do];omega);unfold jL;simp only [ay,e1,kw,aq c.ce i hi,ao,aT (show i<1000000000 by omega),nx]
  by_cases h:(c.ce[i]!).1=n
  · rw [bL h];simp
  rw [dd h]
  simp only [kw,if_true,cu (show ((c.ce.take i).filter (fun x=>x.1 !=n)).length+[c.ce[i]!].length<=1048576 by simp only [abm,abD];omega),ao])
 have fin:jL (n,((acp c.ce):Int),c.aL,c.ce,0,c.aL,(c.ce.take (acp c.ce)).filter (fun x=>x.1 !=n))=acr (.done (mg c k)):=by unfold jL;have:acI (((acp c.ce):Int)<((acp c.ce):Int))=acF:=aD (by omega);simp only [ay,this,lc,List.take_length];rw [I7 hk ok.up hn];rfl
 refine Eq.trans ?_ (aC fin);exact key
def nI (l:List Pt) (id:Int):Prop:= ∃k,k<acp l/\(l[k]!).1=id
noncomputable def bF (l:List Pt) (id:Int):Pt:=if h:nI l id then l[h.choose]! else (-1,0,0)
theorem rJ {l:List Pt} (hs:fa l) {k:Nat} (hk:k<acp l) {id:Int} (h:(l[k]!).1=id):bF l id=l[k]!:=by have hp:nI l id:=⟨k,hk,h⟩;unfold bF;rw [dif_pos hp];have:=hp.choose_spec;rw [sK hs this.1 hk (by rw [this.2,h])]
theorem dG {l:List Pt} (ok:bo l) {id:Int} (h:nI l id):eZ (bF l id)/\(bF l id).1=id:=by obtain ⟨k,hk,he⟩:=h;rw [rJ ok.2.2 hk he];exact ⟨ok.2.1 _ (aQ hk),he⟩
theorem C3 {l:List Pt} {id:Int} (h: ¬nI l id):bF l id=(-1,0,0):=by unfold bF;rw [dif_neg h]
theorem lQ {l:List Pt} (ok:bo l) (id:Int):iX ⟨l⟩ id=acr (bF l id):=by
 have h1:=ok.1;have bs:=Ec l id (by omega) (fun i j=>pj ok.2.2);unfold iX;dsimp only;rw [TV]
 by_cases h:nI l id
 · obtain ⟨k,hk,he⟩:=h
   rw [bs.1 k hk he];simp only [ao,ut,lc,aq l k hk,rJ ok.2.2 hk he]
 obtain ⟨m,m1,m2,m3,e⟩:=bs.2 (fun k hk he=>h ⟨k,hk,he⟩)
 rw [e,C3 h];rfl
theorem C4 {l:List Pt} (ok:bo l) {id:Int} (h:nI l id): ∃k,k<acp l/\iv ⟨l⟩ id=acr (k:Int)/\l[k]! =bF l id:=by have h1:=ok.1;obtain ⟨k,hk,he⟩:=h;exact ⟨k,hk,HI ok.2.2 (by omega) hk he,(rJ ok.2.2 hk he).symm⟩
theorem TW {l:List Pt} (ok:bo l) {id:Int} (h: ¬nI l id):iv ⟨l⟩ id=acr (-1):=by have h1:=ok.1;exact aas (by omega) fun k hk he=>h ⟨k,hk,he⟩
def iz (l:List Pt) (x:Int×Int):Prop:=nI l x.1/\nI l x.2
noncomputable def bk (l:List Pt) (x t:Int×Int):(Int×Int)×Bool:=jN (bF l x.2) (bF l x.1) t
theorem uD {l:List Pt} (ok:bo l) {x t:Int×Int} (hx:eO x) (ht:aW t) (h64:iI t):
 o3 ⟨l⟩ x t=acr (if iz l x then ((bk l x t).1,(bk l x t).2,0) else ((0,0),acF,8)):=by
 unfold o3;rw [lQ ok,lQ ok];simp only [ao,DS h64];have bad: ¬eZ (-1,0,0):=by unfold eZ;dsimp only;omega
 by_cases h1:nI l x.1
 · by_cases h2:nI l x.2
   · obtain ⟨p1,p2⟩:=dG ok h1
     obtain ⟨q1,q2⟩:=dG ok h2;rw [lm ⟨q1,p1,ht,by rw [p2,q2];exact fun h=>hx.2.2.2.2 h.symm⟩,lm ⟨h1,h2⟩];rfl
   rw [C3 h2,ls (fun h=>bad h.1),ls (fun h=>bad h.1),ls (fun h=>h2 h.2)]
 rw [C3 h1,ls (fun h=>bad h.2.1),ls (fun h=>bad h.2.1),ls (fun h=>h1 h.1)]
theorem uE {l:List Pt} (ok:bo l) {x t:Int×Int} (h64:iI t) (hb:iz l x):o6 ⟨l⟩ x t=acr (bk l x t):=by obtain ⟨h1,h2⟩:=hb;obtain ⟨j,j1,j2,j3⟩:=C4 ok h1;obtain ⟨k,k1,k2,k3⟩:=C4 ok h2;unfold o6;simp only [j2,k2,ao,aq l j j1,aq l k k1,j3,k3,M7 (dG ok h2).1 (dG ok h1).1 h64];rfl
theorem TX (c:aZ) {l:List Pt} (ok:bo l) (hl:(acp c.ce)<=200):tG c ⟨l⟩=acr (acI (∀i,i<acp c.ce->iz l (c.ce[i]!).2)):=by
 unfold tG;have key:=cN (body:=oo) (fun i=>((i:Int),c.aL,c.ce,l)) (acp c.ce) (fun i=> ¬iz l (c.ce[i]!).2) (r:=acF) (e:=acy) (fun i hi=>by
  have e1:acI ((i:Int)<((acp c.ce):Int))=acy:=aI (by omega);unfold oo iz;simp only [ay,e1,kw,aq c.ce i hi,ao,aT (show i<1000000000 by omega)]
  by_cases h1:nI l (c.ce[i]!).2.1
  · obtain ⟨k,k1,k2,_⟩:=C4 ok h1
    rw [k2];simp only [ao,aD (show¬(k:Int)<0 by omega),lc]
    by_cases h2:nI l (c.ce[i]!).2.2
    · obtain ⟨j,j1,j2,_⟩:=C4 ok h2
      rw [j2];simp only [ao,aD (show¬(j:Int)<0 by omega),lc];exact ⟨fun h=>absurd ⟨h1,h2⟩ h,fun _=>trivial⟩
    rw [TW ok h2]
    exact ⟨fun _=>rfl,fun h=>absurd (lw.1 h).2 h2⟩
  · rw [TW ok h1]
    exact ⟨fun _=>rfl,fun h=>absurd (lw.1 h).1 h1⟩) (by
  unfold oo;have:acI (((acp c.ce):Int)<((acp c.ce):Int))=acF:=aD (by omega);simp only [ay,this,lc])
 by_cases hx: ∀i,i<acp c.ce->iz l (c.ce[i]!).2
 · rw [aI hx];exact key.2 fun i hi=>lw.2 (hx i hi)
 rw [aD hx]
 obtain ⟨i,h⟩:=AC.1 hx;obtain ⟨hi,hx⟩:=EQ.1 h;exact key.1 ⟨i,hi,hx⟩
def aR (l:List Pt) (t:Int×Int) (H:List Ev):List pZ->List pZ->Prop
 | [],ds=>ds=[]
 |x::cs,ds=>((bk l x.2 t).2=acy-> ∃d x6,ds=d::x6/\d.1=x.1/\((bk l x.2 t).1.1,(bk l x.2 t).1.2,x.1,d.2)∈H/\aR l t H cs x6)/\((bk l x.2 t).2=acF->aR l t H cs ds)
structure aU (c:aH):Prop where
 iL:aW c.ci
 iA:iI c.ci
 lq:bo c.ii.am
 sN:dX c.af
 kE:dZ c.aa
 Gk:(acp c.aa.aj)=200
 hd:(acp c.aa.bv)=acp c.io
 known: ∀i,i<acp c.af.ce->iz c.ii.am (c.af.ce[i]!).2
 zX:aR c.ii.am c.ci c.aa.bv c.af.ce c.io
structure vt (c:aH):Prop where
 iA:iI c.ci
 ag:yA c.aa
 du:(acp c.io)<=1000000
theorem abW {a:aJ} (ok:dZ a) (w2:(acp a.aj)=200) (t:Int×Int) (n:Int) (h:Int×Int):
 (0<=h.1/\h.1<200/\0<=a.aj[h.1.toNat]!/\a.bv[(a.aj[h.1.toNat]!).toNat]! =(t.1,t.2,n,h))↔((t.1,t.2,n,h):Ev)∈a.bv:=by
 have wl:=ok.wl;have hu:=ok.so.ul;constructor
 · rintro ⟨h1,h2,h3,h4⟩
   cases hb:a.ae.be[h.1.toNat]! with
   |false=>have:=ok.un h.1.toNat (by omega) hb;omega
   |true=>have:=ok.fwd h.1.toNat (by omega) hb;rw [<- h4];exact aQ (by omega)
 intro hm
 obtain ⟨w,hw,he⟩:=aO.1 hm;obtain ⟨b1,b2,b3,b4,b5⟩:=ok.back hw;have e:Ev.ix a.bv[w]! =h.1:=by rw [he]
 have e2:Ev.n a.bv[w]! =h.1.toNat:=by rw [he]
 rw [e] at b1 b2;rw [e2] at b5;refine ⟨b1,by omega,by omega,?_⟩;rw [b5,v6,he]
theorem TY {a:aJ} (ok:dZ a) {i:Nat} (hi:i<acp a.ae.ar) (h:0<=a.aj[i]!):a.aj[i]!<(acp a.bv):=by
 cases hb:a.ae.be[i]! with
 |false=>have:=ok.un i hi hb;omega
 |true=>exact (ok.fwd i hi hb).2.1
theorem rS {α:Type} [Inhabited α] {l:List α} {i:Nat} (h:i<acp l):l.drop i=l[i]!::l.drop (i+1):=by rw [getElem!_pos l i h];exact List.drop_eq_getElem_cons h
theorem Lg {c:aH} (iL:aW c.ci) (iA:iI c.ci) (lq:bo c.ii.am) (sN:dX c.af) (kE:dZ c.aa) (w2:(acp c.aa.aj)=200):
 ∀(d i:Nat) (ds:List pZ),acp c.af.ce-i<=d->i<=acp c.af.ce->acp ds<=1000000->
  aB cq (ds,c.af.ce,((acp c.af.ce):Int),(i:Int),c.ci.1,c.ci.2,c.ii.am,c.af.aL,c.af.ce,c.aa.ae.ar,c.aa.ae.be,c.aa.ae.bi,c.aa.bv,c.aa.aj,c.io)=
   acr (.done (if (∀j,i<=j->j<acp c.af.ce->iz c.ii.am (c.af.ce[j]!).2)/\aR c.ii.am c.ci c.aa.bv (c.af.ce.drop i) ds then 0 else 8)):=by
 have hl:=sN.len;have wl:=kE.wl;have fin: ∀(ds:List pZ),aB cq (ds,c.af.ce,((acp c.af.ce):Int),((acp c.af.ce):Int),c.ci.1,c.ci.2,c.ii.am,c.af.aL,c.af.ce,c.aa.ae.ar,c.aa.ae.be,c.aa.ae.bi,c.aa.bv,c.aa.aj,c.io)=acr (.done (if ds=[] then 0 else 8)):=by
  intro ds;refine aC ?_;unfold cq;have e1:acI (((acp c.af.ce):Int)<((acp c.af.ce):Int))=acF:=aD (by omega);simp only [ay,e1,lc];cases ds with
  |nil=>rw [aD (by simp),lm rfl];rfl
  |cons d ds=>rw [aI (by simp),ls (by simp)];rfl
 intro d
 induction d with
 |zero=>
  intro i ds hd hi UP;have:i=(acp c.af.ce):=by omega
  subst this;rw [fin ds,aa3];have:((∀j,acp c.af.ce<=j->j<acp c.af.ce->iz c.ii.am (c.af.ce[j]!).2)/\aR c.ii.am c.ci c.aa.bv [] ds)↔ds=[]:=⟨fun h=>h.2,fun h=>⟨fun j h1 h2=>by omega,h⟩⟩
  by_cases h:ds=[]
  · rw [lm h,lm (this.2 h)]
  rw [ls h,ls (fun k=>h (this.1 k))]
 |succ d ih=>
  intro i ds hd hi UP
  by_cases he:i=acp c.af.ce
  · subst he
    rw [fin ds,aa3];have:((∀j,acp c.af.ce<=j->j<acp c.af.ce->iz c.ii.am (c.af.ce[j]!).2)/\aR c.ii.am c.ci c.aa.bv [] ds)↔ds=[]:=⟨fun h=>h.2,fun h=>⟨fun j h1 h2=>by omega,h⟩⟩
    by_cases h:ds=[]
    · rw [lm h,lm (this.2 h)]
    rw [ls h,ls (fun k=>h (this.1 k))]
  have rZ:i<(acp c.af.ce):=by omega
  have e1:acI ((i:Int)<((acp c.af.ce):Int))=acy:=aI (by omega);have hw:=uD lq (x:=(c.af.ce[i]!).2) (t:=(c.ci.1,c.ci.2)) (sN.cv i rZ) iL iA;have dr:=rS rZ;have all:(∀j,i<=j->j<acp c.af.ce->iz c.ii.am (c.af.ce[j]!).2)↔(iz c.ii.am (c.af.ce[i]!).2/\ ∀j,i+1<=j->j<acp c.af.ce->iz c.ii.am (c.af.ce[j]!).2):=by
   constructor
   · intro h;exact ⟨h i (ww _) rZ,fun j h1 h2=>h j (by omega) h2⟩
   rintro ⟨h1,h2⟩ j h3 h4
   by_cases e:j=i
   · rw [e];exact h1
   exact h2 j (by omega) h4
  have sc:=aT (show i<1000000000 by omega)
  by_cases hb:iz c.ii.am (c.af.ce[i]!).2
  case neg=>rw [ls (fun h=>hb (all.1 h.1).1)];refine aC ?_;unfold cq;simp only [e1,kw,aq c.af.ce i rZ,ao,hw,ls hb];rfl
  rw [lm hb] at hw
  by_cases is:(bk c.ii.am (c.af.ce[i]!).2 c.ci).2=acy
  case neg=>
   have is':(bk c.ii.am (c.af.ce[i]!).2 c.ci).2=acF:=by simpa using is
   rw [aV (y:=(ds,c.af.ce,((acp c.af.ce):Int),((i+1:Nat):Int),c.ci.1,c.ci.2,c.ii.am,c.af.aL,c.af.ce,c.aa.ae.ar,c.aa.ae.be,c.aa.ae.bi,c.aa.bv,c.aa.aj,c.io)) (by unfold cq;simp only [e1,kw,aq c.af.ce i rZ,ao,hw,sc,is',show ((0:Int) !=0)=acF from rfl,lc,UV]),ih (i+1) ds (by omega) (by omega) UP];have same:((∀j,i<=j->j<acp c.af.ce->iz c.ii.am (c.af.ce[j]!).2)/\aR c.ii.am c.ci c.aa.bv (c.af.ce.drop i) ds)↔((∀j,i+1<=j->j<acp c.af.ce->iz c.ii.am (c.af.ce[j]!).2)/\aR c.ii.am c.ci c.aa.bv (c.af.ce.drop (i+1)) ds):=by
    rw [dr,all];constructor
    · rintro ⟨⟨_,h1⟩,h2⟩;exact ⟨h1,h2.2 is'⟩
    rintro ⟨h1,h2⟩;exact ⟨⟨hb,h1⟩,fun h=>absurd h is,fun _=>h2⟩
   simp only [same]
  have stop:(¬((∀j,i<=j->j<acp c.af.ce->iz c.ii.am (c.af.ce[j]!).2)/\aR c.ii.am c.ci c.aa.bv (c.af.ce.drop i) ds))->cq (ds,c.af.ce,((acp c.af.ce):Int),(i:Int),c.ci.1,c.ci.2,c.ii.am,c.af.aL,c.af.ce,c.aa.ae.ar,c.aa.ae.be,c.aa.ae.bi,c.aa.bv,c.aa.aj,c.io)=acr (.done (.done 8))->aB cq (ds,c.af.ce,((acp c.af.ce):Int),(i:Int),c.ci.1,c.ci.2,c.ii.am,c.af.aL,c.af.ce,c.aa.ae.ar,c.aa.ae.be,c.aa.ae.bi,c.aa.bv,c.aa.aj,c.io)=
   acr (.done (if (∀j,i<=j->j<acp c.af.ce->iz c.ii.am (c.af.ce[j]!).2)/\aR c.ii.am c.ci c.aa.bv (c.af.ce.drop i) ds then 0 else 8)):=by
   intro h1 h2;rw [ls h1];exact aC h2
  cases ds with
  |nil=>
   refine stop (fun h=>?_) ?_
   · rw [dr] at h
     obtain ⟨d,x6,h1,_⟩:=h.2.1 is;cases h1
   unfold cq
   simp only [e1,kw,aq c.af.ce i rZ,ao,hw,is,show ((0:Int) !=0)=acF from rfl,lc,ut];rfl
  |cons d0 ds=>
   have l0:((((d0::ds).length:Nat):Int)==0)=acF:=dB (by simp;omega);have g0:aG (d0::ds) 0=acr d0:=rfl;have zX: ∀P:Prop,(P↔d0.1=(c.af.ce[i]!).1/\(((bk c.ii.am (c.af.ce[i]!).2 c.ci).1.1,(bk c.ii.am (c.af.ce[i]!).2 c.ci).1.2,(c.af.ce[i]!).1,d0.2):Ev)∈c.aa.bv)-> ¬P-> ¬((∀j,i<=j->j<acp c.af.ce->iz c.ii.am (c.af.ce[j]!).2)/\aR c.ii.am c.ci c.aa.bv (c.af.ce.drop i) (d0::ds)):=by intro P hP hn h;rw [dr] at h;obtain ⟨d,x6,h1,h2,h3,_⟩:=h.2.1 is;injection h1 with h1 _;subst h1;exact hn (hP.2 ⟨h2,h3⟩)
   by_cases b1:d0.1=(c.af.ce[i]!).1
   case neg=>refine stop (zX (d0.1=(c.af.ce[i]!).1/\_) aaH (fun h=>b1 h.1)) ?_;unfold cq;simp only [ay,e1,kw,aq c.af.ce i rZ,ao,hw,is,show ((0:Int) !=0)=acF from rfl,lc,ut,l0,g0,dd b1]
   have ea:=abW kE w2 (bk c.ii.am (c.af.ce[i]!).2 c.ci).1 (c.af.ce[i]!).1 d0.2
   by_cases b2:d0.2.1<0
   · refine stop (zX (d0.1=(c.af.ce[i]!).1/\_) aaH (fun h=>by have:=(ea.2 h.2).1;omega)) ?_
     unfold cq;simp only [ay,e1,kw,aq c.af.ce i rZ,ao,hw,is,show ((0:Int) !=0)=acF from rfl,lc,ut,l0,g0,bL b1,aI b2]
   by_cases b3:200<=d0.2.1
   · refine stop (zX (d0.1=(c.af.ce[i]!).1/\_) aaH (fun h=>by have:=(ea.2 h.2).2.1;omega)) ?_
     unfold cq;simp only [ay,e1,kw,aq c.af.ce i rZ,ao,hw,is,show ((0:Int) !=0)=acF from rfl,lc,ut,l0,g0,bL b1,aD b2,aI b3]
   have gw:=de (l:=c.aa.aj) (i:=d0.2.1) (by omega) (by omega)
   by_cases b4:c.aa.aj[d0.2.1.toNat]!<0
   · refine stop (zX (d0.1=(c.af.ce[i]!).1/\_) aaH (fun h=>by have:=(ea.2 h.2).2.2.1;omega)) ?_
     unfold cq;simp only [ay,e1,kw,aq c.af.ce i rZ,ao,hw,is,show ((0:Int) !=0)=acF from rfl,lc,ut,l0,g0,bL b1,aD b2,aD b3,gw,aI b4]
   have gh:=de (l:=c.aa.bv) (i:=c.aa.aj[d0.2.1.toNat]!) (by omega) (TY kE (by omega) (by omega));have sl:fG (d0::ds) 1 ((((d0::ds).length:Nat):Int))=acr ds:=by unfold fG;rw [lm ⟨by omega,by simp;omega,by omega⟩];simp
   have evq: ∀(e:Ev) (p:Int×Int) (n:Int) (h:Int×Int),((e.1==p.1)&&((e.2.1==p.2)&&((e.2.2.1==n)&&((e.2.2.2.1==h.1)&&(e.2.2.2.2==h.2)))))=acI (e=(p.1,p.2,n,h)):=by
    intro e p n h;rw [ab7,decide_eq_true_iff];simp only [abB,beq_iff_eq];constructor
    · rintro ⟨h1,h2,h3,h4,h5⟩
      exact NE h1 (NE h2 (NE h3 (NE h4 h5)))
    intro h;rw [h];exact ⟨rfl,rfl,rfl,rfl,rfl⟩
   have akw:=evq c.aa.bv[(c.aa.aj[d0.2.1.toNat]!).toNat]! (bk c.ii.am (c.af.ce[i]!).2 c.ci).1 (c.af.ce[i]!).1 d0.2
   by_cases b5:c.aa.bv[(c.aa.aj[d0.2.1.toNat]!).toNat]! =((bk c.ii.am (c.af.ce[i]!).2 c.ci).1.1,(bk c.ii.am (c.af.ce[i]!).2 c.ci).1.2,(c.af.ce[i]!).1,d0.2)
   case neg=>refine stop (zX (d0.1=(c.af.ce[i]!).1/\_) aaH (fun h=>b5 (ea.2 h.2).2.2.2)) ?_;unfold cq;simp only [ay,e1,kw,aq c.af.ce i rZ,ao,hw,is,show ((0:Int) !=0)=acF from rfl,lc,ut,l0,g0,bL b1,aD b2,aD b3,gw,aD b4,gh];rw [akw,aD b5];rfl
   have zo:=ea.1 ⟨by omega,by omega,by omega,b5⟩;rw [aV (y:=(ds,c.af.ce,((acp c.af.ce):Int),((i+1:Nat):Int),c.ci.1,c.ci.2,c.ii.am,c.af.aL,c.af.ce,c.aa.ae.ar,c.aa.ae.be,c.aa.ae.bi,c.aa.bv,c.aa.aj,c.io)) (by unfold cq;simp only [ay,e1,kw,aq c.af.ce i rZ,ao,hw,is,show ((0:Int) !=0)=acF from rfl,lc,ut,l0,g0,bL b1,aD b2,aD b3,gw,aD b4,gh,sl,sc];rw [akw,aI b5];rfl),ih (i+1) ds (by omega) (by omega) (by simp at UP;omega)];have same:((∀j,i<=j->j<acp c.af.ce->iz c.ii.am (c.af.ce[j]!).2)/\aR c.ii.am c.ci c.aa.bv (c.af.ce.drop i) (d0::ds))↔((∀j,i+1<=j->j<acp c.af.ce->iz c.ii.am (c.af.ce[j]!).2)/\aR c.ii.am c.ci c.aa.bv (c.af.ce.drop (i+1)) ds):=by
    rw [dr,all];constructor
    · rintro ⟨⟨_,h1⟩,h2⟩
      obtain ⟨d,x6,k1,k2,k3,k4⟩:=h2.1 is;injection k1 with k1 k5;subst k5;exact ⟨h1,k4⟩
    rintro ⟨h1,h2⟩
    exact ⟨⟨hb,h1⟩,fun _=>⟨d0,ds,rfl,b1,zo,h2⟩,fun h=>by rw [is] at h;cases h⟩
   simp only [same]
theorem aU.iff {c:aH} (fit:vt c):aU c↔aW c.ci/\bo c.ii.am/\dX c.af/\dZ c.aa/\acp c.aa.aj=200/\acp c.aa.bv=acp c.io/\(∀i,i<acp c.af.ce->iz c.ii.am (c.af.ce[i]!).2)/\aR c.ii.am c.ci c.aa.bv c.af.ce c.io:=
 ⟨fun h=>⟨h.iL,h.lq,h.sN,h.kE,h.Gk,h.hd,h.known,h.zX⟩,fun ⟨h1,h2,h3,h4,h5,h6,h7,h8⟩=>⟨h1,fit.iA,h2,h3,h4,h5,h6,h7,h8⟩⟩
theorem aU.fit {c:aH} (ok:aU c):vt c:=⟨ok.iA,ok.kE.fit,by have:=ok.hd;have:=ok.kE.bd;omega⟩
theorem Lh {c:aH} {n0 n1 n2 n3:Int}:
 aB eu (4,0,c.ci.1,c.ci.2,c.ii.am,c.af.aL,c.af.ce,c.aa.ae.ar,c.aa.ae.be,c.aa.ae.bi,c.aa.bv,c.aa.aj,c.io,[n0,n1,n2,n3])=
  if n0=0/\n1=0/\n2=0/\n3=0 then aB eu (4,4,c.ci.1,c.ci.2,c.ii.am,c.af.aL,c.af.ce,c.aa.ae.ar,c.aa.ae.be,c.aa.ae.bi,c.aa.bv,c.aa.aj,c.io,[n0,n1,n2,n3]) else acr 8:=by
 have st: ∀(i:Nat) (n:Int),i<4->aG [n0,n1,n2,n3] (i:Int)=acr n->aB eu (4,(i:Int),c.ci.1,c.ci.2,c.ii.am,c.af.aL,c.af.ce,c.aa.ae.ar,c.aa.ae.be,c.aa.ae.bi,c.aa.bv,c.aa.aj,c.io,[n0,n1,n2,n3])=
  if n=0 then aB eu (4,((i+1:Nat):Int),c.ci.1,c.ci.2,c.ii.am,c.af.aL,c.af.ce,c.aa.ae.ar,c.aa.ae.be,c.aa.ae.bi,c.aa.bv,c.aa.aj,c.io,[n0,n1,n2,n3]) else acr 8:=by
  intro i n hi hg;have e1:acI ((i:Int)<4)=acy:=aI (by omega)
  by_cases h:n=0
  · rw [lm h]
    refine aV ?_;unfold eu;simp only [e1,kw,hg,ao,bL h,lc,aT (show i<1000000000 by omega)]
  rw [ls h]
  refine aC ?_;unfold eu;simp only [e1,kw,hg,ao,dd h]
 have s0:=st 0 n0 (by omega) rfl;have s1:=st 1 n1 (by omega) rfl;have s2:=st 2 n2 (by omega) rfl;have s3:=st 3 n3 (by omega) rfl;have c0:((0:Nat):Int)=0:=rfl;have c4:((3+1:Nat):Int)=4:=rfl;rw [c0] at s0;rw [c4] at s3;rw [s0]
 by_cases h0:n0=0
 · rw [lm h0,show ((0+1:Nat):Int)=((1:Nat):Int) from rfl,s1]
   by_cases h1:n1=0
   · rw [lm h1,show ((1+1:Nat):Int)=((2:Nat):Int) from rfl,s2]
     by_cases h2:n2=0
     · rw [lm h2,show ((2+1:Nat):Int)=((3:Nat):Int) from rfl,s3]
       by_cases h3:n3=0
       · rw [lm h3,lm ⟨h0,h1,h2,h3⟩]
       rw [ls h3,ls (fun h=>h3 h.2.2.2)]
     rw [ls h2,ls (fun h=>h2 h.2.2.1)]
   rw [ls h1,ls (fun h=>h1 h.2.1)]
 rw [ls h0,ls (fun h=>h0 h.1)]
theorem jO {c:aH} (fit:vt c):fE c=acr (if aU c then 0 else 8):=by
 unfold fE;rw [dm fit.iA,lO,uC,iO _ fit.ag];simp only [ao];have h4:Int.ofNat [if aW c.ci then (0:Int) else 8,sJ c.ii.am,if dX c.af then (0:Int) else 8,if dZ c.aa then (0:Int) else 8].length=4:=rfl;rw [h4,Lh];have z: ∀(p:Prop) [Decidable p],(if p then (0:Int) else 8)=0↔p:=fun p _=>by by_cases h:p<;>simp [h]
 simp only [z,lN];have f1:=aU.iff fit
 by_cases ok:aW c.ci/\bo c.ii.am/\dX c.af/\dZ c.aa
 case neg=>rw [ls ok,ls (c:=aU c) (fun h=>ok ⟨h.iL,h.lq,h.sN,h.kE⟩)]
 obtain ⟨iL,lq,sN,kE⟩:=ok;rw [lm ⟨iL,lq,sN,kE⟩]
 by_cases w2:(acp c.aa.aj)=200
 case neg=>rw [ls (c:=aU c) (fun h=>w2 h.Gk)];refine aC ?_;unfold eu;simp only [ay,aD (show¬(4:Int)<4 by omega),lc,dd (show¬((acp c.aa.aj):Int)=200 by omega),kw]
 by_cases hd:(acp c.aa.bv)=acp c.io
 case neg=>rw [ls (c:=aU c) (fun h=>hd h.hd)];refine aC ?_;unfold eu;simp only [ay,aD (show¬(4:Int)<4 by omega),lc,bL (show ((acp c.aa.aj):Int)=200 by omega),dd (show¬((acp c.aa.bv):Int)=((acp c.io):Int) by omega),kw]
 have run:=Lg iL fit.iA lq sN kE w2 (acp c.af.ce) 0 c.io (by omega) (by omega) fit.du;rw [ab9] at run;have same:((∀j,0<=j->j<acp c.af.ce->iz c.ii.am (c.af.ce[j]!).2)/\aR c.ii.am c.ci c.aa.bv c.af.ce c.io)↔aU c:=by
  rw [f1];constructor
  · rintro ⟨h1,h2⟩;exact ⟨iL,lq,sN,kE,w2,hd,fun i hi=>h1 i (by omega) hi,h2⟩
  rintro ⟨_,_,_,_,_,_,h1,h2⟩;exact ⟨fun j _ hj=>h1 j hj,h2⟩
 simp only [same] at run;refine aC ?_;unfold eu;simp only [ay,aD (show¬(4:Int)<4 by omega),lc,bL (show ((acp c.aa.aj):Int)=200 by omega),bL (show ((acp c.aa.bv):Int)=((acp c.io):Int) by omega)];exact run
theorem aav {a:aJ} (ok:dZ a) (h:Int×Int):sD a h=acr (if tQ a.ae h then (a.bv[(a.aj[h.1.toNat]!).toNat]!,0) else ((0,0,0,0,0),6)):=by
 unfold sD;rw [yB a ok.fit,lm ok,OR ok.so];simp only [ao,show ((0:Int) !=0)=acF from rfl,lc]
 by_cases lv:tQ a.ae h
 · obtain ⟨i,hi,hw,hh⟩:=ok.live lv
   have:=lv.1;have:=lv.2.1;have:=ok.wl;rw [aI lv,lm lv,de (l:=a.aj) lv.1 (by omega),hw];simp only [ut,lc,ao,aq a.bv i hi,v6]
 rw [aD lv,ls lv];rfl
theorem Li {c:aH} (iA:iI c.ci) (lq:bo c.ii.am) (sN:dX c.af) (kE:dZ c.aa) (w2:(acp c.aa.aj)=200) (hdu:(acp c.io)<=1000000)
 (kn: ∀i,i<acp c.af.ce->iz c.ii.am (c.af.ce[i]!).2):
 ∀(d i k:Nat),acp c.af.ce-i<=d->i<=acp c.af.ce->k<=acp c.io->
  aB cV ((k:Int),(i:Int),c.ci.1,c.ci.2,c.ii.am,c.af.aL,c.af.ce,c.aa.ae.ar,c.aa.ae.be,c.aa.ae.bi,c.aa.bv,c.aa.aj,c.io)=
   acr (if aR c.ii.am c.ci c.aa.bv (c.af.ce.drop i) (c.io.drop k) then 0 else 8):=by
 have hl:=sN.len;have wl:=kE.wl;have fin: ∀k:Nat,k<=acp c.io->aB cV ((k:Int),((acp c.af.ce):Int),c.ci.1,c.ci.2,c.ii.am,c.af.aL,c.af.ce,c.aa.ae.ar,c.aa.ae.be,c.aa.ae.bi,c.aa.bv,c.aa.aj,c.io)=acr (if aR c.ii.am c.ci c.aa.bv (c.af.ce.drop (acp c.af.ce)) (c.io.drop k) then 0 else 8):=by
  intro k hk;rw [aa3];refine aC ?_;unfold cV;have e1:acI (((acp c.af.ce):Int)<((acp c.af.ce):Int))=acF:=aD (by omega);simp only [ay,e1,lc];have:aR c.ii.am c.ci c.aa.bv [] (c.io.drop k)↔k=(acp c.io):=by show c.io.drop k=[]↔_;rw [aa4];omega
  by_cases h:k=acp c.io
  · rw [lm (this.2 h),bL (by omega)];rfl
  rw [ls (fun x=>h (this.1 x)),dd (by omega)];rfl
 intro d
 induction d with
 |zero=>
  intro i k hd hi hk;have:i=(acp c.af.ce):=by omega
  subst this;exact fin k hk
 |succ d ih=>
  intro i k hd hi hk
  by_cases he:i=acp c.af.ce
  · subst he;exact fin k hk
  have rZ:i<(acp c.af.ce):=by omega
  have e1:acI ((i:Int)<((acp c.af.ce):Int))=acy:=aI (by omega);have hw:=uE lq (x:=(c.af.ce[i]!).2) (t:=(c.ci.1,c.ci.2)) iA (kn i rZ);have dr:=rS rZ;have sc:=aT (show i<1000000000 by omega);have sk:=aT (show k<1000000000 by omega)
  by_cases is:(bk c.ii.am (c.af.ce[i]!).2 c.ci).2=acy
  case neg=>
   have is':(bk c.ii.am (c.af.ce[i]!).2 c.ci).2=acF:=by simpa using is
   rw [aV (y:=((k:Int),((i+1:Nat):Int),c.ci.1,c.ci.2,c.ii.am,c.af.aL,c.af.ce,c.aa.ae.ar,c.aa.ae.be,c.aa.ae.bi,c.aa.bv,c.aa.aj,c.io)) (by unfold cV;simp only [ay,e1,kw,aq c.af.ce i rZ,ao,hw,sc,is',UV]),ih (i+1) k (by omega) (by omega) hk];have same:aR c.ii.am c.ci c.aa.bv (c.af.ce.drop i) (c.io.drop k)↔aR c.ii.am c.ci c.aa.bv (c.af.ce.drop (i+1)) (c.io.drop k):=by rw [dr];exact ⟨fun h=>h.2 is',fun h=>⟨fun h'=>absurd h' is,fun _=>h⟩⟩
   simp only [same]
  have stop:(¬aR c.ii.am c.ci c.aa.bv (c.af.ce.drop i) (c.io.drop k))->cV ((k:Int),(i:Int),c.ci.1,c.ci.2,c.ii.am,c.af.aL,c.af.ce,c.aa.ae.ar,c.aa.ae.be,c.aa.ae.bi,c.aa.bv,c.aa.aj,c.io)=acr (.done 8)->
   aB cV ((k:Int),(i:Int),c.ci.1,c.ci.2,c.ii.am,c.af.aL,c.af.ce,c.aa.ae.ar,c.aa.ae.be,c.aa.ae.bi,c.aa.bv,c.aa.aj,c.io)=acr (if aR c.ii.am c.ci c.aa.bv (c.af.ce.drop i) (c.io.drop k) then 0 else 8):=by
   intro h1 h2;rw [ls h1];exact aC h2
  by_cases QX:k=acp c.io
  · refine stop (fun h=>?_) ?_
    · rw [dr] at h
      obtain ⟨d,x6,h1,_⟩:=h.1 is;rw [QX,aa3] at h1;cases h1
    unfold cV
    simp only [ay,e1,kw,aq c.af.ce i rZ,ao,hw,is,ut,lc,aI (show ((acp c.io):Int)<=(k:Int) by omega)]
  have J8:k<(acp c.io):=by omega
  have dk:=rS J8;have e2:acI (((acp c.io):Int)<=(k:Int))=acF:=aD (by omega);have zX: ¬((c.io[k]!).1=(c.af.ce[i]!).1/\(((bk c.ii.am (c.af.ce[i]!).2 c.ci).1.1,(bk c.ii.am (c.af.ce[i]!).2 c.ci).1.2,(c.af.ce[i]!).1,(c.io[k]!).2):Ev)∈c.aa.bv)-> ¬aR c.ii.am c.ci c.aa.bv (c.af.ce.drop i) (c.io.drop k):=by intro hn h;rw [dr,dk] at h;obtain ⟨d,x6,h1,h2,h3,_⟩:=h.1 is;injection h1 with h1 _;subst h1;exact hn ⟨h2,h3⟩
  by_cases b1:(c.io[k]!).1=(c.af.ce[i]!).1
  case neg=>refine stop (zX (fun h=>b1 h.1)) ?_;unfold cV;simp only [ay,e1,kw,aq c.af.ce i rZ,ao,hw,is,ut,lc,e2,aq c.io k J8,dd b1]
  have fi:=aav kE (c.io[k]!).2;have ea:=abW kE w2 (bk c.ii.am (c.af.ce[i]!).2 c.ci).1 (c.af.ce[i]!).1 (c.io[k]!).2;have fi':sD (aJ.mk (aS.mk c.aa.ae.ar c.aa.ae.be c.aa.ae.bi) c.aa.bv c.aa.aj) (c.io[k]!).2=_:=fi
  by_cases lv:tQ c.aa.ae (c.io[k]!).2
  case neg=>
   rw [ls lv] at fi';refine stop (zX (fun h=>lv ?_)) ?_
   · obtain ⟨w,Uy,gJ⟩:=aO.1 h.2
     have:=(kE.handle Uy).1
     rwa [gJ] at this
   unfold cV
   simp only [ay,e1,kw,aq c.af.ce i rZ,ao,hw,is,ut,lc,e2,aq c.io k J8,bL b1,fi',show ((6:Int) !=0)=acy from rfl]
  rw [lm lv] at fi';obtain ⟨w,hw1,UQ,hw3⟩:=kE.live lv;rw [UQ,v6] at fi';have q1:(0<=(c.io[k]!).2.1/\(c.io[k]!).2.1<200/\0<=c.aa.aj[(c.io[k]!).2.1.toNat]!):=⟨lv.1,by have:=lv.2.1;omega,by rw [UQ];omega⟩
  by_cases b2:(c.aa.bv[w]!).2.2.1=(c.af.ce[i]!).1
  case neg=>
   refine stop (zX (fun h=>b2 ?_)) ?_
   · have:=(ea.2 h.2).2.2.2
     rw [UQ,v6] at this;rw [this]
   unfold cV
   simp only [ay,e1,kw,aq c.af.ce i rZ,ao,hw,is,ut,lc,e2,aq c.io k J8,bL b1,fi',show ((0:Int) !=0)=acF from rfl,dd b2]
  have teq:((c.aa.bv[w]!).1==(bk c.ii.am (c.af.ce[i]!).2 c.ci).1.1&&(c.aa.bv[w]!).2.1==(bk c.ii.am (c.af.ce[i]!).2 c.ci).1.2)=acI (((c.aa.bv[w]!).1,(c.aa.bv[w]!).2.1)=(bk c.ii.am (c.af.ce[i]!).2 c.ci).1):=by
   rw [ab7,decide_eq_true_iff];simp only [abB,beq_iff_eq];constructor
   · rintro ⟨h1,h2⟩;exact NE h1 h2
   intro h;rw [<- h];exact ⟨rfl,rfl⟩
  by_cases b3:((c.aa.bv[w]!).1,(c.aa.bv[w]!).2.1)=(bk c.ii.am (c.af.ce[i]!).2 c.ci).1
  case neg=>
   refine stop (zX (fun h=>b3 ?_)) ?_
   · have:=(ea.2 h.2).2.2.2
     rw [UQ,v6] at this;rw [this]
   unfold cV
   simp only [ay,e1,kw,aq c.af.ce i rZ,ao,hw,is,ut,lc,e2,aq c.io k J8,bL b1,fi',show ((0:Int) !=0)=acF from rfl,bL b2];rw [teq,aD b3];rfl
  have zo:=ea.1 ⟨q1.1,q1.2.1,q1.2.2,by rw [UQ,v6];have t1:=congrArg abU b3;have t2:=congrArg ac0 b3;exact NE t1 (NE t2 (NE b2 hw3))⟩;rw [aV (y:=(((k+1:Nat):Int),((i+1:Nat):Int),c.ci.1,c.ci.2,c.ii.am,c.af.aL,c.af.ce,c.aa.ae.ar,c.aa.ae.be,c.aa.ae.bi,c.aa.bv,c.aa.aj,c.io)) (by unfold cV;simp only [ay,e1,kw,aq c.af.ce i rZ,ao,hw,is,ut,lc,e2,aq c.io k J8,bL b1,fi',show ((0:Int) !=0)=acF from rfl,bL b2,sc,sk];rw [teq,aI b3];rfl),ih (i+1) (k+1) (by omega) (by omega) (by omega)];have same:aR c.ii.am c.ci c.aa.bv (c.af.ce.drop i) (c.io.drop k)↔aR c.ii.am c.ci c.aa.bv (c.af.ce.drop (i+1)) (c.io.drop (k+1)):=by
   rw [dr,dk];constructor
   · intro h2
     obtain ⟨d,x6,k1,k2,k3,k4⟩:=h2.1 is;injection k1 with k1 k5;subst k5;exact k4
   intro h2
   exact ⟨fun _=>⟨_,_,rfl,b1,zo,h2⟩,fun h=>by rw [is] at h;cases h⟩
  simp only [same]
theorem Gl {c:aH} (fit:vt c):tI c=acr (if aU c then 0 else 8):=by
 unfold tI;rw [lM fit.iA,FY,yE,yB _ fit.ag];simp only [ao]
 by_cases iL:aW c.ci
 case neg=>rw [ls iL,ls (c:=aU c) (fun h=>iL h.iL)];rfl
 rw [lm iL]
 by_cases lq:bo c.ii.am
 case neg=>rw [dd (fun h=>lq (lN.1 h)),ls (c:=aU c) (fun h=>lq h.lq)];rfl
 rw [bL (lN.2 lq)]
 by_cases sN:dX c.af
 case neg=>rw [ls sN,ls (c:=aU c) (fun h=>sN h.sN)];rfl
 rw [lm sN];have kn:=TX c.af lq sN.len;simp only [show ((0:Int) !=0)=acF from rfl,lc,kn,ao]
 by_cases known: ∀i,i<acp c.af.ce->iz c.ii.am (c.af.ce[i]!).2
 case neg=>rw [aD known,ls (c:=aU c) (fun h=>known h.known)];rfl
 rw [aI known]
 by_cases kE:dZ c.aa
 case neg=>rw [ls kE,ls (c:=aU c) (fun h=>kE h.kE)];rfl
 rw [lm kE];simp only [ay,show ((0:Int) !=0)=acF from rfl,lc,ut]
 by_cases w2:(acp c.aa.aj)=200
 case neg=>rw [dd (by omega),ls (c:=aU c) (fun h=>w2 h.Gk)];rfl
 rw [bL (by omega)]
 by_cases hd:(acp c.aa.bv)=acp c.io
 case neg=>rw [dd (by omega),ls (c:=aU c) (fun h=>hd h.hd)];rfl
 rw [bL (by omega)];have run:=Li fit.iA lq sN kE w2 fit.du known (acp c.af.ce) 0 0 (by omega) (by omega) (by omega);rw [ab9,ab9] at run;have same:aR c.ii.am c.ci c.aa.bv c.af.ce c.io↔aU c:=by rw [aU.iff fit];exact ⟨fun h=>⟨iL,lq,sN,kE,w2,hd,known,h⟩,fun h=>h.2.2.2.2.2.2.2⟩
 simp only [same] at run;simp only [lc];exact run
section
variable {l : List Pt} {t : Int × Int}
theorem aR.gZ {H:List Ev} {x:pZ} {cs ds:List pZ} (h:(bk l x.2 t).2=acy):aR l t H (x::cs) ds↔ ∃d x6,ds=d::x6/\d.1=x.1/\(((bk l x.2 t).1.1,(bk l x.2 t).1.2,x.1,d.2):Ev)∈H/\aR l t H cs x6:=
 ⟨fun k=>k.1 h,fun k=>⟨fun _=>k,fun k'=>(by rw [h] at k';cases k')⟩⟩
theorem aR.fN {H:List Ev} {x:pZ} {cs ds:List pZ} (h:(bk l x.2 t).2=acF):aR l t H (x::cs) ds↔aR l t H cs ds:=
 ⟨fun k=>k.2 h,fun k=>⟨fun k'=>(by rw [h] at k';cases k'),fun _=>k⟩⟩
theorem aR.mono {H H':List Ev}: ∀{cs ds:List pZ},(∀x∈cs,∀e:Ev,e.num=x.1->e∈H->e∈H')->aR l t H cs ds->aR l t H' cs ds
 | [],_,_,h=>h
 |x::cs,ds,hm,h=>by
  have zF: ∀y∈cs,∀e:Ev,e.num=y.1->e∈H->e∈H':=fun y hy=>hm y (by simp [hy])
  cases hx:(bk l x.2 t).2 with
  |true=>rw [aR.gZ hx] at h ⊢;obtain ⟨d,x6,h1,h2,h3,h4⟩:=h;exact ⟨d,x6,h1,h2,hm x (by simp) _ rfl h3,aR.mono zF h4⟩
  |false=>rw [aR.fN hx] at h ⊢;exact aR.mono zF h
theorem aR.io {H:List Ev}: ∀{cs ds:List pZ},aR l t H cs ds-> ∀d∈ds,∃x∈cs,d.1=x.1/\(bk l x.2 t).2=acy/\(((bk l x.2 t).1.1,(bk l x.2 t).1.2,x.1,d.2):Ev)∈H
 | [],ds,h,d,hd=>by have:ds=[]:=h;subst this;cases hd
 |x::cs,ds,h,d,hd=>by
  cases hx:(bk l x.2 t).2 with
  |true=>
   rw [aR.gZ hx] at h;obtain ⟨e,x6,h1,h2,h3,h4⟩:=h;subst h1;rcases abc.1 hd with rfl|hd
   · exact ⟨x,by simp,h2,hx,h3⟩
   obtain ⟨y,hy,k⟩:=aR.io h4 d hd
   exact ⟨y,by simp [hy],k⟩
  |false=>rw [aR.fN hx] at h;obtain ⟨y,hy,k⟩:=aR.io h d hd;exact ⟨y,by simp [hy],k⟩
theorem aR.has {H:List Ev}: ∀{cs ds:List pZ},aR l t H cs ds-> ∀x∈cs,(bk l x.2 t).2=acy-> ∃d∈ds,d.1=x.1/\(((bk l x.2 t).1.1,(bk l x.2 t).1.2,x.1,d.2):Ev)∈H
 | [],_,_,x,hx,_=>by cases hx
 |y::cs,ds,h,x,hx,hf=>by
  cases hy:(bk l y.2 t).2 with
  |true=>
   rw [aR.gZ hy] at h;obtain ⟨e,x6,h1,h2,h3,h4⟩:=h;subst h1;rcases abc.1 hx with rfl|hx
   · exact ⟨e,by simp,h2,h3⟩
   obtain ⟨d,hd,k⟩:=aR.has h4 x hx hf
   exact ⟨d,by simp [hd],k⟩
  |false=>
   rw [aR.fN hy] at h;rcases abc.1 hx with rfl|hx
   · rw [hf] at hy;cases hy
   exact aR.has h x hx hf
def Up (cs:List pZ):Prop:=cs.Pairwise fun x y=>x.1<y.1
theorem rL {cs:List pZ}:Up cs↔ ∀i j,i<j->j<acp cs->(cs[i]!).1<(cs[j]!).1:=by
 unfold Up;rw [List.pairwise_iff_getElem];constructor
 · intro h i j lS hj
   rw [getElem!_pos cs i (by omega),getElem!_pos cs j hj];exact h i j (by omega) hj lS
 intro h i j hi hj lS
 have:=h i j lS hj
 rwa [getElem!_pos cs i hi,getElem!_pos cs j hj] at this
theorem aR.up {H:List Ev}: ∀{cs ds:List pZ},aR l t H cs ds->Up cs->Up ds
 | [],ds,h,_=>by have:ds=[]:=h;subst this;exact List.Pairwise.nil
 |x::cs,ds,h,hu=>by
  have B8:=abg.1 hu;cases hx:(bk l x.2 t).2 with
  |true=>rw [aR.gZ hx] at h;obtain ⟨e,x6,h1,h2,h3,h4⟩:=h;subst h1;refine abg.2 ⟨fun d hd=>?_,aR.up h4 B8.2⟩;obtain ⟨y,hy,k,_⟩:=aR.io h4 d hd;have:=B8.1 y hy;omega
  |false=>rw [aR.fN hx] at h;exact aR.up h B8.2
theorem aR.snoc {H:List Ev}: ∀{cs ds:List pZ} {x:pZ},aR l t H cs ds->((bk l x.2 t).2=acF->aR l t H (cs++[x]) ds)/\
 (∀d:pZ,(bk l x.2 t).2=acy->d.1=x.1->(((bk l x.2 t).1.1,(bk l x.2 t).1.2,x.1,d.2):Ev)∈H->aR l t H (cs++[x]) (ds++[d]))
 | [],ds,x,h=>by have:ds=[]:=h;subst this;refine ⟨fun hx=>(aR.fN hx).2 rfl,fun d hx h1 h2=>(aR.gZ hx).2 ⟨d,[],rfl,h1,h2,rfl⟩⟩
 |y::cs,ds,x,h=>by
  cases hy:(bk l y.2 t).2 with
  |true=>rw [aR.gZ hy] at h;obtain ⟨e,x6,h1,h2,h3,h4⟩:=h;subst h1;have ih:=aR.snoc (x:=x) h4;refine ⟨fun hx=>(aR.gZ hy).2 ⟨e,x6,rfl,h2,h3,ih.1 hx⟩,fun d hx k1 k2=>(aR.gZ hy).2 ⟨e,x6++[d],rfl,h2,h3,ih.2 d hx k1 k2⟩⟩
  |false=>rw [aR.fN hy] at h;have ih:=aR.snoc (x:=x) h;exact ⟨fun hx=>(aR.fN hy).2 (ih.1 hx),fun d hx k1 k2=>(aR.fN hy).2 (ih.2 d hx k1 k2)⟩
theorem aR.erase {H:List Ev}: ∀{cs ds:List pZ} {i:Nat},aR l t H cs ds->i<acp cs->((bk l (cs[i]!).2 t).2=acF->aR l t H (cs.eraseIdx i) ds)/\
 ((bk l (cs[i]!).2 t).2=acy-> ∃k,k<acp ds/\(ds[k]!).1=(cs[i]!).1/\(((bk l (cs[i]!).2 t).1.1,(bk l (cs[i]!).2 t).1.2,(cs[i]!).1,(ds[k]!).2):Ev)∈H/\aR l t H (cs.eraseIdx i) (ds.eraseIdx k))
 | [],_,i,_,hi=>by cases hi
 |y::cs,ds,0,h,_=>by show ((bk l y.2 t).2=acF->aR l t H cs ds)/\((bk l y.2 t).2=acy-> ∃k,k<acp ds/\(ds[k]!).1=y.1/\(((bk l y.2 t).1.1,(bk l y.2 t).1.2,y.1,(ds[k]!).2):Ev)∈H/\aR l t H cs (ds.eraseIdx k));refine ⟨fun hy=>(aR.fN hy).1 h,fun hy=>?_⟩;obtain ⟨e,x6,h1,h2,h3,h4⟩:=(aR.gZ hy).1 h;subst h1;exact ⟨0,by simp,h2,h3,h4⟩
 |y::cs,ds,i+1,h,hi=>by
  have rZ:i<(acp cs):=by simpa using hi
  show ((bk l (cs[i]!).2 t).2=acF->aR l t H (y::cs.eraseIdx i) ds)/\((bk l (cs[i]!).2 t).2=acy-> ∃k,k<acp ds/\(ds[k]!).1=(cs[i]!).1/\(((bk l (cs[i]!).2 t).1.1,(bk l (cs[i]!).2 t).1.2,(cs[i]!).1,(ds[k]!).2):Ev)∈H/\aR l t H (y::cs.eraseIdx i) (ds.eraseIdx k));cases hy:(bk l y.2 t).2 with
  |true=>obtain ⟨e,x6,h1,h2,h3,h4⟩:=(aR.gZ hy).1 h;subst h1;have ih:=aR.erase (i:=i) h4 rZ;refine ⟨fun hx=>(aR.gZ hy).2 ⟨e,x6,rfl,h2,h3,ih.1 hx⟩,fun hx=>?_⟩;obtain ⟨k,k1,k2,k3,k4⟩:=ih.2 hx;exact ⟨k+1,by simp;omega,k2,k3,(aR.gZ hy).2 ⟨e,x6.eraseIdx k,rfl,h2,h3,k4⟩⟩
  |false=>have h:=(aR.fN hy).1 h;have ih:=aR.erase (i:=i) h rZ;refine ⟨fun hx=>(aR.fN hy).2 (ih.1 hx),fun hx=>?_⟩;obtain ⟨k,k1,k2,k3,k4⟩:=ih.2 hx;exact ⟨k,k1,k2,k3,(aR.fN hy).2 k4⟩
end
theorem Dy {H:List Ev} {ns:List Int} (hd:ns.Nodup) (hl:(acp H)<=acp ns) (he: ∀n∈ns,∃e∈H,Ev.num e=n): ∀e∈H,Ev.num e∈ns:=by
 have pos: ∀n,n∈ns-> ∃w,w<acp H/\Ev.num H[w]! =n:=fun n hn=>by obtain ⟨e,he,h2⟩:=he n hn;obtain ⟨w,hw,rfl⟩:=aO.1 he;exact ⟨w,hw,h2⟩
 let f:Int->Nat:=fun n=>if h: ∃w,w<acp H/\Ev.num H[w]! =n then h.choose else 0
 have hf: ∀n∈ns,f n<acp H/\Ev.num H[f n]! =n:=fun n hn=>by have h:=pos n hn;show (if h: ∃w,w<acp H/\Ev.num H[w]! =n then h.choose else 0)<_/\Ev.num H[(if h: ∃w,w<acp H/\Ev.num H[w]! =n then h.choose else 0)]! =n;rw [dif_pos h];exact h.choose_spec
 have full:=Dt (n:=acp H) (l:=ns.map f) (zg hd fun x hx y hy h=>by
  have h1:=(hf x hx).2;have h2:=(hf y hy).2;rw [h] at h1;omega) (fun x hx=>by
  obtain ⟨n,hn,rfl⟩:=PP.1 hx;exact (hf n hn).1) (by rw [abK];exact hl)
 intro e hm;obtain ⟨w,hw,rfl⟩:=aO.1 hm;obtain ⟨n,hn,h⟩:=PP.1 (full w hw);rw [<- h,(hf n hn).2];exact hn
theorem Lj {cs:List pZ} (h:Up cs):(cs.map fun x=>x.1).Nodup:=by
 refine zg ?_ ?_
 · unfold Up at h
   exact h.imp fun Ph he=>by rw [he] at Ph;omega
 intro x hx y hy he
 obtain ⟨i,hi,rfl⟩:=aO.1 hx;obtain ⟨j,hj,rfl⟩:=aO.1 hy;rcases aa8 i j with h1|h1|h1
 · have:=rL.1 h i j h1 hj;omega
 · rw [h1]
 have:=rL.1 h j i h1 hi;omega
theorem aU.sO {c:aH} (ok:aU c):Up c.af.ce:=rL.2 ok.sN.up
theorem aU.Gm {c:aH} (ok:aU c):Up c.io:=ok.zX.up ok.sO
theorem aU.zu {c:aH} (ok:aU c): ∀e∈c.aa.bv,∃d∈c.io,d.1=Ev.num e:=by have:=Dy (H:=c.aa.bv) (Lj ok.Gm) (by rw [abK,ok.hd];exact ww _) (fun n hn=>by obtain ⟨d,hd,rfl⟩:=PP.1 hn;obtain ⟨x,hx,h1,h2,h3⟩:=ok.zX.io d hd;exact ⟨_,h3,h1.symm⟩);intro e he;obtain ⟨d,hd,h⟩:=PP.1 (this e he);exact ⟨d,hd,h⟩
end Go.Proofs.YtcljjehjppgijaaGreat
