/- Plain laws (2). -/
import Derived.Test.YtlnclppkepgdmaaGreatVQM1
open Classical renaming not_not->pp,not_forall->ww,not_imp->Do
open List renaming length_set->rc,length_take->AC,take_of_length_le->EQ,take_append_of_le_length->If,mem_map->M2,append_assoc->PP,drop_length->ab0,drop_eq_nil_iff->abA,length_append->abZ,set_eq_of_length_le->ac6,length_drop->acf,drop_eq_nil_of_le->aci,drop_zero->acn,filter_eq_self->aco,mem_cons->acq,getElem?_take->acr,filter_append->acs,pairwise_cons->acu,getElem?_set->acv,length_cons->acw,isEmpty_iff->acy,length_nil->acE,append_nil->acF,length_map->acS,replicate->acV,take_take->acX,set_comm->ad3,length->adk
open Bool renaming not_true->sp,not_false->NE,eq_iff_iff->acj,and_eq_true->acA,and_self->ad7,true->adr,false->ads
open Int renaming toNat_natCast->ut,lt_irrefl->acp
open Nat renaming le_refl->v6,ble_eq_true_of_le->UV,lt_trichotomy->ac2,sub_self->ach,eq_of_beq_eq_true->acl,le_trans->ada,beq->adc,min_self->adh
open Prod renaming ext->IR,fst->ad0,snd->ad2
open Iff renaming rfl->acg
open Option renaming some->adm
open Decidable renaming decide->adt
namespace Go.Proofs.YtlnclppkepgdmaaGreat
open Go.Vm Classical
theorem J7 (a:aK) (fit:yW a) (so:eE a.af) (wl:(adk a.aj)=adk a.af.az):
 aB kF (a.aj,((adk a.aj):Int),0,a.af.az,a.af.be,a.af.bi,a.bv,a.aj)=adm (if (∀i,i<adk a.af.az->GO a i)/\(∀k,k<adk a.bv->HN a.bv k) then 0 else 8):=by
 have hu:=so.ul;have hn:=so.n2;have hh:=fit.hp;have GD:=J6 a.bv a.af.az a.af.bi a.aj a.af.be fit.hp fit.Ov;have key:=c7 (body:=kF) (fun i=>(a.aj,((adk a.aj):Int),(i:Int),a.af.az,a.af.be,a.af.bi,a.bv,a.aj)) (adk a.aj) (fun i=> ¬GO a i) (r:=8) (e:=if (∀k,k<adk a.bv->HN a.bv k) then 0 else 8) (fun i hi=>by
  have e1:adt ((i:Int)<((adk a.aj):Int))=adr:=aF (by omega);unfold kF;simp only [ay,e1,lc,aq a.aj i hi,aq a.af.be i (by omega),aq a.af.az i (by omega),ao,aQ (show i<1000000000 by omega)];unfold GO;generalize a.aj[i]! =w at*;cases hb:a.af.be[i]! with
  |false=>
   simp only [NE,lc]
   by_cases hw:w= -1
   · rw [bF hw]
     exact ⟨fun h=>absurd ⟨fun h=>(by cases h),fun _=>hw⟩ h,fun _=>rfl⟩
   rw [cO hw]
   exact ⟨fun _=>rfl,fun h=>absurd ((pp.1 h).2 trivial) hw⟩
  |true=>
   simp only [sp,lm]
   by_cases b1:w<0
   · rw [aF b1]
     exact ⟨fun _=>rfl,fun h=>absurd ((pp.1 h).1 trivial).1 (by omega)⟩
   by_cases b2:((adk a.bv):Int)<=w
   · rw [aA b1,aF b2]
     exact ⟨fun _=>rfl,fun h=>absurd ((pp.1 h).1 trivial).2.1 (by omega)⟩
   rw [aA b1,aA b2];simp only [lm,dD (l:=a.bv) (i:=w) (by omega) (by omega),ao]
   by_cases b3:(a.bv[w.toNat]!).2.2.2.1=i
   · by_cases b4:(a.bv[w.toNat]!).2.2.2.2=a.af.az[i]!
     · rw [dy b3,dy b4]
       exact ⟨fun h=>absurd ⟨fun _=>⟨by omega,by omega,b3,b4⟩,fun h=>(by cases h)⟩ h,fun _=>rfl⟩
     rw [dy b3,dE b4]
     exact ⟨fun _=>rfl,fun h=>absurd ((pp.1 h).1 trivial).2.2.2 b4⟩
   rw [dE b3]
   exact ⟨fun _=>rfl,fun h=>absurd ((pp.1 h).1 trivial).2.2.1 b3⟩) (by
  unfold kF;have:adt (((adk a.aj):Int)<((adk a.aj):Int))=ads:=aA (by omega);simp only [ay,this,lm]
  by_cases hx: ∀k,k<adk a.bv->HN a.bv k
  · rw [ls hx];exact GD.1 hx
  rw [lw hx];exact GD.2 hx)
 by_cases hw: ∀i,i<adk a.af.az->GO a i
 · refine (key.2 fun i hi=>pp.2 (hw i (by omega))).trans ?_
   by_cases hx: ∀k,k<adk a.bv->HN a.bv k
   · rw [ls hx,ls ⟨hw,hx⟩]
   rw [lw hx,lw (fun h=>hx h.2)]
 rw [lw (fun h=>hw h.1)]
 obtain ⟨i,h⟩:=ww.1 hw;obtain ⟨hi,hx⟩:=Do.1 h;exact key.1 ⟨i,by omega,hx⟩
theorem iV (a:aK) (fit:yW a):jc a=adm (if ez a then 0 else 8):=by
 have hh:=fit.hp;unfold jc;rw [uQ _ fit.fr];simp only [ay]
 by_cases so:eE a.af
 case neg=>rw [lw so,lw (fun h=>so h.so)];rfl
 have hu:=so.ul;have hn:=so.n2;have hf:=so.fl;rw [ls so];simp only [ao,show ((0:Int) !=0)=ads from rfl,lm]
 by_cases wl:(adk a.aj)=adk a.af.az
 case neg=>rw [cO (by omega),lw (fun h=>wl h.wl)];rfl
 rw [bF (by omega)];have e:aa .i64 (((adk a.af.be):Int) - ((adk a.af.bi):Int))=((adk a.af.az-(adk a.af.bi):Nat):Int):=by rw [wi];omega
 rw [e]
 by_cases hl:(adk a.bv)+adk a.af.bi=adk a.af.az
 case neg=>rw [cO (by omega),lw (fun h=>hl h.hl)];rfl
 rw [bF (by omega)];simp only [lm];rw [J7 a fit so wl]
 by_cases ok:ez a
 · rw [ls ok,ls ok.to]
 rw [lw ok,lw]
 intro h;exact ok (ez.of fit so wl hl h.1 h.2)
theorem U5 {x y:Ev} (hx:jf (x.1,x.2.1)) (hy:jf (y.1,y.2.1)):dY x y=adm (adt (less x y)):=by
 unfold dY less;rw [xb hx hy];simp only [ao];generalize dP (x.1,x.2.1) (y.1,y.2.1)=c
 by_cases h1:c<0
 · simp [h1]
 by_cases h2:c=0
 · subst h2;simp
 simp only [h1,dE h2,h2,decide_false,lm,false_or,false_and]
theorem P7 {s:aS} (ok:eE s) (h:Int×Int):sS s h=adm (adt (uu s h)):=by
 have hu:=ok.ul;unfold sS uu;simp only [ay]
 by_cases a1:0<=h.1
 · by_cases a2:h.1<adk s.az
   · simp only [a1,a2,decide_true,lc,dD (l:=s.be) a1 (by omega),dD (l:=s.az) a1 a2,ao,true_and]
     generalize s.az[h.1.toNat]! =u;cases s.be[h.1.toNat]!<;>simp [P0]
   simp [a1,a2]
 simp [a1]
theorem RH (a:aK) (so:eE a.af):rV a=adm (adt (adk a.aj=adk a.af.az/\adk a.bv+adk a.af.bi=adk a.af.az/\ ∀i,i<adk a.af.az->GO a i)):=by
 have hu:=so.ul;have hn:=so.n2;have hf:=so.fl;unfold rV;simp only [ay]
 by_cases wl:(adk a.aj)=adk a.af.az
 case neg=>rw [cO (by omega),aA (fun h=>wl h.1)];rfl
 rw [bF (by omega)];have e:aa .i64 (((adk a.af.az):Int) - ((adk a.af.bi):Int))=((adk a.af.az-(adk a.af.bi):Nat):Int):=by rw [wi];omega
 rw [e]
 by_cases hl:(adk a.bv)+adk a.af.bi=adk a.af.az
 case neg=>rw [cO (by omega),aA (fun h=>hl h.2.1)];rfl
 rw [bF (by omega)];simp only [lm];have key:=c7 (body:=mS) (fun i=>(((adk a.af.az):Int),(i:Int),a.af.az,a.af.be,a.af.bi,a.bv,a.aj)) (adk a.af.az) (fun i=> ¬GO a i) (r:=ads) (e:=adr) (fun i hi=>by
  have e1:adt ((i:Int)<((adk a.af.az):Int))=adr:=aF (by omega);unfold mS;simp only [ay,e1,lc,aq a.aj i (by omega),aq a.af.be i (by omega),ao,aQ (show i<1000000000 by omega)];unfold GO;generalize a.aj[i]! =w at*;cases hb:a.af.be[i]! with
  |false=>
   simp only [NE,lc]
   by_cases hw:w= -1
   · rw [bF hw]
     exact ⟨fun h=>absurd ⟨fun h=>(by cases h),fun _=>hw⟩ h,fun _=>rfl⟩
   rw [cO hw]
   exact ⟨fun _=>rfl,fun h=>absurd ((pp.1 h).2 trivial) hw⟩
  |true=>
   simp only [sp,lm]
   by_cases b1:w<0
   · rw [aF b1]
     exact ⟨fun _=>rfl,fun h=>absurd ((pp.1 h).1 trivial).1 (by omega)⟩
   by_cases b2:((adk a.bv):Int)<=w
   · rw [aA b1,aF b2]
     exact ⟨fun _=>rfl,fun h=>absurd ((pp.1 h).1 trivial).2.1 (by omega)⟩
   rw [aA b1,aA b2];simp only [lm,dD (l:=a.bv) (i:=w) (by omega) (by omega),ao]
   by_cases b3:(a.bv[w.toNat]!).2.2.2.1=i
   · rw [bF b3]
     simp only [lm];rw [P7 (s:=⟨a.af.az,a.af.be,a.af.bi⟩) so];have lv:uu ⟨a.af.az,a.af.be,a.af.bi⟩ (a.bv[w.toNat]!).2.2.2↔(a.bv[w.toNat]!).2.2.2.2=a.af.az[i]!:=by
      unfold uu;dsimp only;rw [b3];constructor
      · intro h;exact h.2.2.2.symm
      intro h;exact ⟨by omega,by omega,by rw [ut];exact hb,by rw [ut];exact h.symm⟩
     simp only [ao,lv]
     by_cases b4:(a.bv[w.toNat]!).2.2.2.2=a.af.az[i]!
     · rw [aF b4]
       exact ⟨fun h=>absurd ⟨fun _=>⟨by omega,by omega,b3,b4⟩,fun h=>(by cases h)⟩ h,fun _=>rfl⟩
     rw [aA b4]
     exact ⟨fun _=>rfl,fun h=>absurd ((pp.1 h).1 trivial).2.2.2 b4⟩
   rw [cO b3]
   exact ⟨fun _=>rfl,fun h=>absurd ((pp.1 h).1 trivial).2.2.1 b3⟩) (by
  unfold mS;have:adt (((adk a.af.az):Int)<((adk a.af.az):Int))=ads:=aA (by omega);simp only [this,lm])
 by_cases hw: ∀i,i<adk a.af.az->GO a i
 · rw [aF ⟨wl,hl,hw⟩]
   exact key.2 fun i hi=>pp.2 (hw i hi)
 rw [aA (fun h=>hw h.2.2)]
 obtain ⟨i,h⟩:=ww.1 hw;obtain ⟨hi,hx⟩:=Do.1 h;exact key.1 ⟨i,hi,hx⟩
theorem Mf (H:List Ev) (u fr W:List Int) (us:List Bool) (k:Nat) (hk:k<adk H) (hl:(adk H)<=1000000) (x:Ev):
 ((∃j,j<k/\(H[j]!).2.2.1=x.2.2.1)->aB jK ((k:Int),0,u,us,fr,H,W,x)=adm (.done 8))/\
 ((∀j,j<k-> ¬(H[j]!).2.2.1=x.2.2.1)->aB jK ((k:Int),0,u,us,fr,H,W,x)=adm (.next (((k+1:Nat):Int),u,us,fr,H,W))):=by
 refine c7 (body:=jK) (fun j=>((k:Int),(j:Int),u,us,fr,H,W,x)) k (fun j=>(H[j]!).2.2.1=x.2.2.1) (r:= .done 8) (e:= .next (((k+1:Nat):Int),u,us,fr,H,W)) (fun j hj=>?_) ?_
 · have e1:adt ((j:Int)<(k:Int))=adr:=aF (by omega)
   unfold jK;simp only [e1,lc,aq H j (by omega),ao,aQ (show j<1000000000 by omega)];constructor
   · intro h;rw [dy h];rfl
   intro h;rw [dE h];rfl
 unfold jK
 have:adt ((k:Int)<(k:Int))=ads:=aA (by omega);simp only [this,lm,aQ (show k<1000000000 by omega)]
theorem Mg (H:List Ev) (u fr W:List Int) (us:List Bool) (hl:(adk H)<=1000000) (kr: ∀w,w<adk H->jf ((H[w]!).1,(H[w]!).2.1)):
 aB jL (1,u,us,fr,H,W)=adm (.done (if∀k,0<k->k<adk H-> ¬less H[k]! H[(k-1) / 2]! then 0 else 8)):=by
 by_cases h0:(adk H)=0
 · rw [ls (fun k _ hk=>by omega)]
   refine aG ?_;unfold jL;have:adt ((1:Int)<((adk H):Int))=ads:=aA (by omega);simp only [ay,this,lm]
 have key:=c7 (body:=jL) (fun i=>(((i+1:Nat):Int),u,us,fr,H,W)) (adk H-1) (fun i=>less H[i+1]! H[i / 2]!) (r:= .done 8) (e:= .done 0) (fun i hi=>by
  have e1:adt (((i+1:Nat):Int)<((adk H):Int))=adr:=aF (by omega);unfold jL;simp only [ay,e1,lc,rh (show i<1000000000 by omega),aq H (i+1) (by omega),aq H (i / 2) (by omega),ao,U5 (kr (i+1) (by omega)) (kr (i / 2) (by omega)),aQ (show i+1<1000000000 by omega)];constructor
  · intro h;rw [aF h];rfl
  · intro h;rw [aA h];rfl) (by
  unfold jL;have:adt (((adk H-1+1:Nat):Int)<((adk H):Int))=ads:=aA (by omega);simp only [ay,this,lm])
 by_cases ho: ∀k,0<k->k<adk H-> ¬less H[k]! H[(k-1) / 2]!
 · rw [ls ho]
   refine key.2 fun i hi hc=>ho (i+1) (by omega) (by omega) ?_
   rwa [show (i+1-1) / 2=i / 2 by omega]
 rw [lw ho]
 obtain ⟨k,h⟩:=ww.1 ho;obtain ⟨k0,h⟩:=Do.1 h;obtain ⟨hk,hx⟩:=Do.1 h;refine key.1 ⟨k-1,by omega,?_⟩;rw [show k-1+1=k by omega];exact pp.1 hx
def J8 (H:List Ev) (k:Nat):Prop:=aX ((H[k]!).1,(H[k]!).2.1)/\0<=(H[k]!).2.2.1/\(H[k]!).2.2.1<=1000000/\(∀j,j<k-> ¬(H[j]!).2.2.1=(H[k]!).2.2.1)
theorem yX (a:aK) (fit:yW a):qI a=adm (if ez a then 0 else 8):=by
 have hh:=fit.hp;unfold qI;rw [GN _ fit.fr]
 by_cases so:eE a.af
 case neg=>rw [lw so,lw (fun h=>so h.so)];rfl
 rw [ls so];simp only [ao,show ((0:Int) !=0)=ads from rfl,lm,RH a so]
 by_cases pl:(adk a.aj)=adk a.af.az/\adk a.bv+adk a.af.bi=adk a.af.az/\ ∀i,i<adk a.af.az->GO a i
 case neg=>rw [aA pl,lw (fun h=>pl ⟨h.wl,h.hl,h.to.1⟩)];rfl
 rw [aF pl];obtain ⟨wl,hl,hw⟩:=pl;simp only [sp,lm];have key:=c7 (body:=oB) (fun k=>((k:Int),a.af.az,a.af.be,a.af.bi,a.bv,a.aj)) (adk a.bv) (fun k=> ¬J8 a.bv k) (r:=8) (e:=if∀k,0<k->k<adk a.bv-> ¬less a.bv[k]! a.bv[(k-1) / 2]! then 0 else 8) (fun k hk=>by
  have e1:adt ((k:Int)<((adk a.bv):Int))=adr:=aF (by omega);have l1:=Mf a.bv a.af.az a.af.bi a.aj a.af.be k hk hh a.bv[k]!;unfold oB;simp only [ay,e1,lc,aq a.bv k hk,ao,lP (fit.Ov k hk)];unfold J8
  by_cases b1:aX ((a.bv[k]!).1,(a.bv[k]!).2.1)
  case neg=>rw [lw b1];exact ⟨fun _=>rfl,fun h=>absurd (pp.1 h).1 b1⟩
  rw [ls b1]
  by_cases b2:(a.bv[k]!).2.2.1<0
  · rw [aF b2]
    exact ⟨fun _=>rfl,fun h=>absurd (pp.1 h).2.1 (by omega)⟩
  by_cases b3:1000000<(a.bv[k]!).2.2.1
  · rw [aA b2,aF b3]
    exact ⟨fun _=>rfl,fun h=>absurd (pp.1 h).2.2.1 (by omega)⟩
  rw [aA b2,aA b3];simp only [show ((0:Int) !=0)=ads from rfl,lm]
  by_cases b4: ∃j,j<k/\(a.bv[j]!).2.2.1=(a.bv[k]!).2.2.1
  · refine ⟨fun _=>l1.1 b4,fun h=>?_⟩
    obtain ⟨j,j1,j2⟩:=b4;exact absurd j2 ((pp.1 h).2.2.2 j j1)
  · have b4': ∀j,j<k-> ¬(a.bv[j]!).2.2.1=(a.bv[k]!).2.2.1:=fun j h1 h2=>b4 ⟨j,h1,h2⟩
    exact ⟨fun h=>absurd ⟨b1,by omega,by omega,b4'⟩ h,fun _=>l1.2 b4'⟩) (by
  unfold oB;have:adt (((adk a.bv):Int)<((adk a.bv):Int))=ads:=aA (by omega);simp only [ay,this,lm];exact Mg a.bv _ _ _ _ hh fit.Ov)
 have same:ez a↔(∀k,k<adk a.bv->J8 a.bv k)/\ ∀k,0<k->k<adk a.bv-> ¬less a.bv[k]! a.bv[(k-1) / 2]!:=by
  constructor
  · intro ok
    refine ⟨fun k hk=>?_,ok.ord⟩;have:=ok.to.2 k hk;exact ⟨this.1,this.2.1,this.2.2.1,this.2.2.2.1⟩
  rintro ⟨h1,h2⟩
  refine ez.of fit so wl hl hw fun k hk=>?_
  obtain ⟨c1,c2,c3,c4⟩:=h1 k hk;refine ⟨c1,c2,c3,c4,fun k0=>?_⟩;unfold Ow;rw [ls ⟨c1,(h1 ((k-1) / 2) (by omega)).1⟩,Cl];exact h2 k k0 hk
 by_cases he: ∀k,k<adk a.bv->J8 a.bv k
 · refine (key.2 fun i hi=>pp.2 (he i hi)).trans ?_
   by_cases ho: ∀k,0<k->k<adk a.bv-> ¬less a.bv[k]! a.bv[(k-1) / 2]!
   · rw [ls ho,ls (same.2 ⟨he,ho⟩)]
   rw [lw ho,lw (fun h=>ho (same.1 h).2)]
 rw [lw (fun h=>he (same.1 h).1)]
 obtain ⟨i,h⟩:=ww.1 he;obtain ⟨hi,hx⟩:=Do.1 h;exact key.1 ⟨i,hi,hx⟩
theorem Ao {l:List Ev} {n:Nat} {e:Ev} (hn:n<=adk l):e∈l.take n↔ ∃w,w<n/\l[w]! =e:=by
 rw [bS];constructor
 · rintro ⟨i,h1,_,h3⟩;exact ⟨i,h1,h3⟩
 rintro ⟨i,h1,h3⟩;exact ⟨i,h1,by omega,h3⟩
theorem adf {s:aS} (so:eE s) {n:Nat} {H:List Ev} {W:List Int} (E:Ev->Prop) (hn:n<=adk H) (wl:(adk W)=adk s.az) (hl:n+adk s.bi=adk s.az)
 (ix: ∀w,w<n->0<=(H[w]!).ix/\(H[w]!).ix<adk W/\W[(H[w]!).n]! =(w:Int)) (mem: ∀e,(∃w,w<n/\H[w]! =e)↔E e) (ord: ∀k,0<k->k<n-> ¬less H[k]! H[(k-1) / 2]!)
 (ue: ∀i,i<adk s.az->s.be[i]! =adr-> ∃e:Ev,E e/\e.ix=i/\e.2.2.2.2=s.az[i]!) (un: ∀i,i<adk s.az->s.be[i]! =ads->W[i]! = -1)
 (ev: ∀e,E e->pH e) (zU: ∀e f:Ev,E e->E f->e.num=f.num->e.ix=f.ix):ez ⟨s,H.take n,W⟩:=by
 have len:(H.take n).length=n:=by rw [AC];omega
 have cell: ∀w,w<n->(H.take n)[w]! =H[w]!:=fun w hw=>kN hw
 refine ⟨so,wl,by show (H.take n).length+_=_;rw [len];exact hl,?_,un,?_,?_,?_⟩
 · intro i hi hu
   dsimp only at hi hu ⊢;rw [len];obtain ⟨e,he,e1,e2⟩:=ue i hi hu;obtain ⟨w,hw,rfl⟩:=(mem e).2 he;obtain ⟨a1,a2,a3⟩:=ix w hw;have hn':(H[w]!).n=i:=by show ((H[w]!).ix).toNat=i;omega
   rw [hn'] at a3;rw [a3,ut,cell w hw];exact ⟨by omega,by omega,e1,e2⟩
 · intro w hw
   dsimp only at hw ⊢;rw [len] at hw;rw [cell w hw];exact ev _ ((mem _).1 ⟨w,hw,rfl⟩)
 · intro v w hv hw
   dsimp only at hw ⊢;rw [len] at hw;rw [cell v (by omega),cell w hw];intro hc;have:=zU _ _ ((mem _).1 ⟨v,by omega,rfl⟩) ((mem _).1 ⟨w,hw,rfl⟩) hc;obtain ⟨a1,a2,a3⟩:=ix v (by omega);obtain ⟨b1,b2,b3⟩:=ix w hw;have hn':(H[v]!).n=(H[w]!).n:=by show ((H[v]!).ix).toNat=((H[w]!).ix).toNat;rw [this]
   rw [hn'] at a3;omega
 intro k k0 hk
 dsimp only at hk ⊢;rw [len] at hk;rw [cell k hk,cell _ (by omega)];exact ord k k0 hk
theorem uT {s:aS} (so:eE s) {n:Nat} {x:Ev} {M:Ev->Prop} {K:Nat->Prop} {H H1:List Ev} {W W1:List Int} (st:zG n x M K H W H1 W1) (hn:n<=adk H) (wl:(adk W)=adk s.az) (hl:n+adk s.bi=adk s.az)
 (ue: ∀i,i<adk s.az->s.be[i]! =adr-> ∃e:Ev,(e=x\/M e)/\e.ix=i/\e.2.2.2.2=s.az[i]!) (un: ∀i,i<adk s.az->s.be[i]! =ads->K i/\W[i]! = -1)
 (ev: ∀e,(e=x\/M e)->pH e) (zU: ∀e f:Ev,(e=x\/M e)->(f=x\/M f)->e.num=f.num->e.ix=f.ix):ez ⟨s,H1.take n,W1⟩:=by
 refine adf so (fun e=>e=x\/M e) (by rw [st.hl];exact hn) (by rw [st.wl];exact wl) hl (by rw [st.wl];exact st.ix) st.mem st.ord ue ?_ ev zU;intro i hi hu;rw [st.out i (un i hi hu).1];exact (un i hi hu).2
theorem ez.bd {a:aK} (ok:ez a):(adk a.bv)<=200/\adk a.aj<=200:=by have:=ok.hl;have:=ok.wl;have:=ok.so.n2;omega
theorem ez.cells {a:aK} (ok:ez a):lQ (adk a.bv) a.bv a.aj:=by have:=ok.bd;refine ⟨v6 _,by omega,fun w hw=>?_⟩;obtain ⟨b1,b2,b3,b4,b5⟩:=ok.back hw;exact ⟨ok.ev w hw,b1,by rw [ok.wl];exact b2⟩
theorem ez.inj {a:aK} (ok:ez a) {v w:Nat} (hv:v<adk a.bv) (hw:w<adk a.bv) (h:Ev.ix a.bv[v]! =Ev.ix a.bv[w]!):v=w:=by
 have h1:=(ok.back hv).2.2.2.2;have h2:=(ok.back hw).2.2.2.2;have:Ev.n a.bv[v]! =Ev.n a.bv[w]!:=by show (Ev.ix a.bv[v]!).toNat=(Ev.ix a.bv[w]!).toNat;rw [h]
 rw [this] at h1;omega
theorem ez.Ma {a:aK} (ok:ez a) {i k:Nat} (i0:0<i) (k0:0<k) (hk:k<adk a.bv) (hp:(k-1) / 2=i): ¬less a.bv[k]! a.bv[(i-1) / 2]!:=by have h1:=ok.ord k k0 hk;rw [hp] at h1;exact vI (ok.ev _ (by omega)).den (ok.ev _ (by omega)).den (ok.ev _ hk).den (ok.ord i i0 (by omega)) h1
theorem ez.live {a:aK} (ok:ez a) {h:Int×Int} (lv:uu a.af h): ∃i,i<adk a.bv/\a.aj[h.1.toNat]! =(i:Int)/\(a.bv[i]!).2.2.2=h:=by
 obtain ⟨l1,l2,l3,l4⟩:=lv;obtain ⟨f1,f2,f3,f4⟩:=ok.fwd h.1.toNat (by omega) l3;refine ⟨(a.aj[h.1.toNat]!).toNat,by omega,by omega,?_⟩;have e1:(a.bv[(a.aj[h.1.toNat]!).toNat]!).2.2.2.1=h.1:=by have:Ev.ix a.bv[(a.aj[h.1.toNat]!).toNat]! =(h.1.toNat:Int):=f3;have h2:Ev.ix a.bv[(a.aj[h.1.toNat]!).toNat]! =(a.bv[(a.aj[h.1.toNat]!).toNat]!).2.2.2.1:=rfl;omega
 exact IR e1 (by rw [f4,l4])
theorem ez.handle {a:aK} (ok:ez a) {i:Nat} (hi:i<adk a.bv):uu a.af (a.bv[i]!).2.2.2/\a.aj[((a.bv[i]!).2.2.2.1).toNat]! =(i:Int):=by obtain ⟨b1,b2,b3,b4,b5⟩:=ok.back hi;exact ⟨⟨b1,b2,b3,b4⟩,b5⟩
theorem ez.EX {a:aK} (ok:ez a) {i:Nat} (hi:i<adk a.af.az) (hu:a.af.be[i]! =adr): ∃w,w<adk a.bv/\Ev.ix a.bv[w]! =i/\(a.bv[w]!).2.2.2.2=a.af.az[i]!:=by obtain ⟨f1,f2,f3,f4⟩:=ok.fwd i hi hu;exact ⟨(a.aj[i]!).toNat,by omega,f3,f4⟩
theorem ez.IN {a:aK} (ok:ez a) {i:Nat} (hu:a.af.be[i]! =ads) {w:Nat} (hw:w<adk a.bv):Ev.n a.bv[w]!≠i:=by intro h;have:=(ok.back hw).2.2.1;rw [h,hu] at this;cases this
theorem ez.zU {a:aK} (ok:ez a) {v w:Nat} (hv:v<adk a.bv) (hw:w<adk a.bv) (h:Ev.num a.bv[v]! =Ev.num a.bv[w]!):v=w:=by
 rcases ac2 v w with h1|h1|h1
 · exact absurd h (ok.nd v w h1 hw)
 · exact h1
 exact absurd h.symm (ok.nd w v h1 hv)
theorem eQ {α:Type} [Inhabited α] {l:List α} {k:Nat} {v:α} (h:l[k]! =v):l.set k v=l:=by
 by_cases hk:k<adk l
 · apply sZ (by rw [rc])
   intro i hi;rw [bj];split
   · rename_i e;rw [e.1];exact h.symm
   rfl
 exact ac6 (by omega)
def pI (x:Ev) (t:Int×Int):Ev:=(t.1,t.2,x.2.2)
noncomputable def jA (a:aK) (i:Nat) (t:Int×Int):aK:=⟨a.af,(cu (adk a.bv) (pI a.bv[i]! t) i a.bv a.aj).1,(cu (adk a.bv) (pI a.bv[i]! t) i a.bv a.aj).2⟩
theorem GP {a:aK} (ok:ez a) {i:Nat} (hi:i<adk a.bv) {t:Int×Int} (ht:aX t) (h64:jf t):pH (pI a.bv[i]! t):=by have:=ok.ev i hi;exact ⟨ht,h64,this.2.2.1,this.2.2.2⟩
theorem GQ {a:aK} (ok:ez a) {i:Nat} (hi:i<adk a.bv) (t:Int×Int):Bi (adk a.bv) (pI a.bv[i]! t) (fun e=> ∃w,w<adk a.bv/\w≠i/\a.bv[w]! =e) a.bv a.aj i:=by obtain ⟨b1,b2,b3,b4,b5⟩:=ok.back hi;refine ⟨hi,v6 _,fun w hw J3=>?_,b1,by rw [ok.wl];exact b2,fun e=>acg⟩;obtain ⟨c1,c2,c3,c4,c5⟩:=ok.back hw;exact ⟨c1,by rw [ok.wl];exact c2,c5,fun h=>J3 (ok.inj hw hi h)⟩
theorem IP {a:aK} (ok:ez a) (i:Nat):Ord (adk a.bv) a.bv i:=
 ⟨fun w hw=>(ok.ev w hw).den,fun k k0 hk _ _=>ok.ord k k0 hk,fun i0 _k k0 hk hp=>ok.Ma i0 k0 hk hp⟩
theorem mL {a:aK} (ok:ez a) {i:Nat} (hi:i<adk a.bv) {t:Int×Int} (ht:aX t):
 zG (adk a.bv) (pI a.bv[i]! t) (fun e=> ∃w,w<adk a.bv/\w≠i/\a.bv[w]! =e) (fun k=>k≠Ev.n (pI a.bv[i]! t)/\ ∀w,w<adk a.bv->w≠i->Ev.n a.bv[w]!≠k) a.bv a.aj (jA a i t).bv (jA a i t).aj:=
 yU (x:=pI a.bv[i]! t) ht.1 (GQ ok hi t) (IP ok i)
theorem Dw {a:aK} (ok:ez a) {i:Nat} (hi:i<adk a.bv) {t:Int×Int} (ht:aX t):(jA a i t).bv.length=adk a.bv/\(jA a i t).aj.length=(adk a.aj):=
 ⟨(mL ok hi ht).hl,(mL ok hi ht).wl⟩
theorem RI {a:aK} (ok:ez a) {i:Nat} (hi:i<adk a.bv) {t:Int×Int} (ht:aX t) (e:Ev):e∈(jA a i t).bv↔(e=pI a.bv[i]! t\/(e∈a.bv/\e≠a.bv[i]!)):=by
 have st:=mL ok hi ht;have h1:e∈(jA a i t).bv↔ ∃w,w<adk a.bv/\((jA a i t).bv)[w]! =e:=by rw [aP,(Dw ok hi ht).1]
 rw [h1];refine (st.mem e).trans ?_;constructor
 · rintro (h|⟨w,hw,J3,rfl⟩)
   · exact .inl h
   exact .inr ⟨aV hw,fun h=>J3 (ok.inj hw hi (by rw [h]))⟩
 rintro (h|⟨h,ec⟩)
 · exact .inl h
 obtain ⟨w,hw,rfl⟩:=aP.1 h
 exact .inr ⟨w,hw,fun h=>ec (by rw [h]),rfl⟩
theorem U6 {a:aK} (ok:ez a) {i:Nat} (hi:i<adk a.bv) {t:Int×Int} (ht:aX t) (h64:jf t):ez (jA a i t):=by
 have st:=mL ok hi ht;have len:=(Dw ok hi ht).1;have hx:Ev.ix (pI a.bv[i]! t)=Ev.ix a.bv[i]!:=rfl;have key:=uT ok.so st (v6 _) ok.wl ok.hl (fun j hj hu=>by
  obtain ⟨w,hw,e1,e2⟩:=ok.EX hj hu
  by_cases e:w=i
  · subst e;exact ⟨pI a.bv[w]! t,.inl rfl,e1,e2⟩
  · exact ⟨a.bv[w]!,.inr ⟨w,hw,e,rfl⟩,e1,e2⟩) (fun j hj hu=>⟨⟨(ok.IN hu hi).symm,fun w hw _=>ok.IN hu hw⟩,ok.un j hj hu⟩) (by
  rintro e (rfl|⟨w,hw,_,rfl⟩)
  · exact GP ok hi ht h64
  · exact ok.ev w hw) (by
  rintro e f (rfl|⟨v,hv,hvi,rfl⟩) (rfl|⟨w,hw,J3,rfl⟩) he
  · rfl
  · exact absurd (ok.zU hi hw he).symm J3
  · exact absurd (ok.zU hv hi he) hvi
  rw [ok.zU hv hw he])
 have:(jA a i t).bv.take (adk a.bv)=(jA a i t).bv:=EQ (by rw [len];exact v6 _);show ez ⟨a.af,(jA a i t).bv,(jA a i t).aj⟩;rw [<- this];exact key
theorem Mh {a:aK} (ok:ez a) (fit:yW a) {h:Int×Int} {i:Nat} (hi:i<adk a.bv) (hh:(a.bv[i]!).2.2.2=h):ou a h=adm ((i:Int),0):=by
 obtain ⟨lv,wv⟩:=ok.handle hi;rw [hh] at lv;unfold ou;rw [iV a fit,ls ok];simp only [ao,show ((0:Int) !=0)=ads from rfl,lm,Eb ok.so,aF lv,sp];have:=lv.2.1;have:=lv.1;have:=ok.wl;have e:(a.bv[i]!).2.2.2.1=h.1:=by rw [hh]
 rw [dD (l:=a.aj) lv.1 (by omega),<- e,wv];rfl
theorem EC {a:aK} (ok:ez a) (fit:yW a) {h t:Int×Int} {i:Nat} (hi:i<adk a.bv) (hh:(a.bv[i]!).2.2.2=h) (ht:aX t) (h64:jf t):rU a h t=adm (jA a i t,0):=by
 have bd:=ok.bd;obtain ⟨b1,b2,b3,b4,b5⟩:=ok.back hi;unfold rU;rw [iV a fit,ls ok,dz h64,ls ht];have pl:=Mh ok fit hi hh;have se:=GJ (u:=a.af.az) (us:=a.af.be) (fr:=a.af.bi) (GP ok hi ht h64) (show 0<=Ev.ix (pI a.bv[i]! t) from b1) ok.cells rfl hi (show Ev.ix (pI a.bv[i]! t)<(adk a.aj) by rw [ok.wl];exact b2);have se':eB (a.af.az,a.af.be,a.af.bi,(i:Int),t.1,t.2,(a.bv[i]!).2.2.1,(a.bv[i]!).2.2.2.1,(a.bv[i]!).2.2.2.2,a.bv,a.aj)=adm (cu (adk a.bv) (pI a.bv[i]! t) i a.bv a.aj):=se;simp only [ao,gt_iff_lt,acp,if_false,show ((0:Int) !=0)=ads from rfl,lm,pl,bk (show (adk a.bv)<=1048576 by omega),bk (show (adk a.aj)<=1048576 by omega),aq a.bv i hi,se'];rfl
theorem qi {a:aK} (ok:ez a):pA a=adm a:=by have bd:=ok.bd;unfold pA;simp only [uR ok.so,ao,bk (show (adk a.bv)<=1048576 by omega),bk (show (adk a.aj)<=1048576 by omega)]
theorem Dx {a:aK} (ok:ez a) {h t:Int×Int} {i:Nat} (hi:i<adk a.bv) (hh:(a.bv[i]!).2.2.2=h) (ht:aX t) (h64:jf t):uN a h t=adm (jA a i t):=by
 have bd:=ok.bd;obtain ⟨b1,b2,b3,b4,b5⟩:=ok.back hi;obtain ⟨lv,wv⟩:=ok.handle hi;have hx:=GP ok hi ht h64;have x1:Ev.ix (pI a.bv[i]! t)<(adk a.aj):=by rw [ok.wl];exact b2
 have st:=mL ok hi ht;obtain ⟨j,H1,W1,e1,e3,e4,e5,e6,e7,e8,e9,e10⟩:=EU (x:=pI a.bv[i]! t) ht.1 i a.bv a.aj (GQ ok hi t) (IP ok i);have w1:a.aj.set (Ev.n (pI a.bv[i]! t)) (i:Int)=a.aj:=eQ b5;unfold uN;rw [qi ok];have g1:aH a.aj h.1=adm (i:Int):=by
  have e:(a.bv[i]!).2.2.2.1=h.1:=by rw [hh]
  rw [dD (l:=a.aj) (i:=h.1) (by rw [<- e];exact b1) (by rw [<- e,ok.wl];exact b2),<- e,wv]
 have u1:sX ((i:Int),a.af.az,a.af.be,a.af.bi,a.bv.set i (pI a.bv[i]! t),a.aj)=adm ((j:Int),a.af.az,a.af.be,a.af.bi,H1.set j (pI a.bv[i]! t),W1.set (Ev.n (pI a.bv[i]! t)) (j:Int)):=by unfold sX;have:=U2 (c0:=((i:Int),a.af.az,a.af.be,a.af.bi,a.bv.set i (pI a.bv[i]! t),a.aj)) (u:=a.af.az) (us:=a.af.be) (fr:=a.af.bi) hx b1 rfl rfl rfl i a.bv a.aj ok.cells hi rfl x1 rc rfl;rw [w1,e1] at this;exact this
 have Ox:lQ (adk a.bv) H1 W1:=by refine ⟨by rw [e5];exact v6 _,by omega,fun w hw=>?_⟩;exact ⟨(yV ok.cells hi e1 w hw).1,(yV ok.cells hi e1 w hw).2.1,by rw [e6];exact (yV ok.cells hi e1 w hw).2.2⟩
 have d1:pD ((j:Int),a.af.az,a.af.be,a.af.bi,H1.set j (pI a.bv[i]! t),W1.set (Ev.n (pI a.bv[i]! t)) (j:Int))=adm (a.af.az,a.af.be,a.af.bi,(cu (adk a.bv) (pI a.bv[i]! t) i a.bv a.aj).1,(cu (adk a.bv) (pI a.bv[i]! t) i a.bv a.aj).2):=by
  unfold pD;have:=Md (c0:=((j:Int),a.af.az,a.af.be,a.af.bi,H1.set j (pI a.bv[i]! t),W1.set (Ev.n (pI a.bv[i]! t)) (j:Int))) (n:=adk a.bv) (u:=a.af.az) (us:=a.af.be) (fr:=a.af.bi) hx b1 rfl rfl rfl (adk a.bv) j H1 W1 (by omega) Ox e3.lt e5 (by rw [e6];exact x1) rc rc;rw [this];unfold cu;rw [e1]
 have s1:cp a.bv (i:Int) (t.1,t.2,(a.bv[i]!).2.2)=a.bv.set i (pI a.bv[i]! t):=rfl;simp only [ao,g1,aq a.bv i hi,s1,u1,d1];rfl
theorem IQ (H:List Ev) (n:Int) (hl:(adk H)<=1000000):cK H n=adm (adt (∃w,w<adk H/\(H[w]!).2.2.1=n)):=by
 unfold cK eh;have key:=jZ (body:=cJ) (fun i=>(H,n,((adk H):Int),(i:Int))) (adk H) (fun i=>(H[i]!).2.2.1=n) (fun i=>(i:Int)) (e:= -1) (fun i hi=>by
  have e1:adt ((i:Int)<((adk H):Int))=adr:=aF (by omega);unfold cJ uL;simp only [e1,lc,aq H i hi,ao,aQ (show i<1000000000 by omega)];constructor
  · intro h;rw [dy h];rfl
  · intro h;rw [dE h];rfl) (by
  unfold cJ;have:adt (((adk H):Int)<((adk H):Int))=ads:=aA (by omega);simp only [this,lm])
 rw [ay]
 by_cases hx: ∃w,w<adk H/\(H[w]!).2.2.1=n
 · obtain ⟨k,h1,h2,h3⟩:=least hx
   have:=key.1 k h1 h2 h3;rw [show ((0:Nat):Int)=0 from rfl] at this;rw [this,aF hx];simp only [ao,aF (show (0:Int)<=(k:Int) by omega)]
 have:=key.2 fun i hi he=>hx ⟨i,hi,he⟩
 rw [show ((0:Nat):Int)=0 from rfl] at this;rw [this,aA hx];rfl
noncomputable def dd (a:aK) (t:Int×Int) (n:Int):Ev:=(t.1,t.2,n,kq a.af)
noncomputable def kv (a:aK) (t:Int×Int) (n:Int):aK:=
 ⟨gd a.af,(cu (adk a.bv+1) (dd a t n) (adk a.bv) (a.bv++[dd a t n]) a.aj).1,(cu (adk a.bv+1) (dd a t n) (adk a.bv) (a.bv++[dd a t n]) a.aj).2⟩
section
variable {a : aK} (ok : ez a) (op : xI a.af) {t : Int × Int} (ht : aX t) (h64 : jf t) {n : Int} (n0 : 0 <= n) (n1 : n <= 1000000)
include ok op
theorem Cn:Ev.ix (dd a t n)=(cS a.af:Int)/\cS a.af<adk a.af.az/\a.af.be[cS a.af]! =ads/\adk a.af.bi=(gd a.af).bi.length+1:=by
 obtain ⟨h1,h2,h3⟩:=zF ok.so op.1;refine ⟨rfl,h1,?_,?_⟩
 · have:=ok.so.uf (cS a.af) h1
   cases h:a.af.be[cS a.af]! with
   |false=>rfl
   |true=>exact absurd h3 (this.1 h)
 show _=(a.af.bi.take (adk a.af.bi-1)).length+1
 have:=op.1;rw [AC];omega
theorem IS:Bi (adk a.bv+1) (dd a t n) (fun e=>e∈a.bv) (a.bv++[dd a t n]) a.aj (adk a.bv):=by
 obtain ⟨h1,h2,h3,h4⟩:=Cn (t:=t) (n:=n) ok op;have cell: ∀w,w<adk a.bv->(a.bv++[dd a t n])[w]! =a.bv[w]!:=fun w hw=>fU hw
 refine ⟨by omega,by simp,fun w hw J3=>?_,by rw [h1];omega,by rw [h1,ok.wl];omega,fun e=>?_⟩
 · have Sb:w<(adk a.bv):=by omega
   rw [cell w Sb];obtain ⟨c1,c2,c3,c4,c5⟩:=ok.back Sb;refine ⟨c1,by rw [ok.wl];exact c2,c5,fun h=>?_⟩;rw [h1] at h;have:Ev.n a.bv[w]! =cS a.af:=by show (Ev.ix a.bv[w]!).toNat=_;omega
   exact ok.IN h3 Sb this
 constructor
 · rintro ⟨w,hw,J3,rfl⟩
   rw [cell w (by omega)];exact aV (by omega)
 intro h
 obtain ⟨w,hw,rfl⟩:=aP.1 h;exact ⟨w,by omega,by omega,cell w hw⟩
theorem Mi (ht:aX t):Ord (adk a.bv+1) (a.bv++[dd a t n]) (adk a.bv):=by
 have _:=op;have cell: ∀w,w<adk a.bv->(a.bv++[dd a t n])[w]! =a.bv[w]!:=fun w hw=>fU hw
 refine ⟨fun w hw=>?_,fun k k0 hk k1 k2=>?_,fun i0 k k0 hk hp=>by omega⟩
 · by_cases h:w<adk a.bv
   · rw [cell w h];exact (ok.ev w h).den
   have:w=(adk a.bv):=by omega
   subst this;rw [iD (v6 _),ach];exact ht.1
 rw [cell k (by omega),cell _ (by omega)]
 exact ok.ord k k0 (by omega)
theorem xg (ht:aX t):zG (adk a.bv+1) (dd a t n) (fun e=>e∈a.bv) (fun k=>k≠Ev.n (dd a t n)/\ ∀w,w<adk a.bv+1->w≠adk a.bv->Ev.n (a.bv++[dd a t n])[w]!≠k) (a.bv++[dd a t n]) a.aj (kv a t n).bv (kv a t n).aj:=
 yU (x:=dd a t n) ht.1 (IS ok op) (Mi ok op ht)
theorem Co (ht:aX t):(kv a t n).bv.length=adk a.bv+1:=by have:=(xg (n:=n) ok op ht).hl;rw [this];simp
theorem Mj (ht:aX t) (e:Ev):e∈(kv a t n).bv↔(e=dd a t n\/e∈a.bv):=by have st:=xg (n:=n) ok op ht;rw [aP,Co ok op ht];exact st.mem e
theorem J9 (ht:aX t) (h64:jf t) (n0:0<=n) (n1:n<=1000000):pH (dd a t n):=by have _:=ok;have _:=op;exact ⟨ht,h64,n0,n1⟩
theorem P8 (ht:aX t) (h64:jf t) (n0:0<=n) (n1:n<=1000000) (nn: ∀e∈a.bv,Ev.num e≠n):ez (kv a t n):=by
 have st:=xg (n:=n) ok op ht;have len:=Co (n:=n) ok op ht;obtain ⟨h1,h2,h3,h4⟩:=Cn (t:=t) (n:=n) ok op;have hu:=ok.so.ul;have ul:(gd a.af).az.length=(adk a.af.az):=rc;have key:=uT (UZ ok.so op) st (by simp) (by rw [ul];exact ok.wl) (by rw [ul];have:=ok.hl;omega) (fun j hj CH=>by
  rw [ul] at hj;change (a.af.be.set (cS a.af) adr)[j]! =adr at CH;rw [bj] at CH;show∃e:Ev,_/\_/\_=(a.af.az.set (cS a.af) (a.af.az[cS a.af]!+1))[j]!;rw [bj]
  by_cases e:j=cS a.af
  · rw [ls ⟨e,h2⟩]
    exact ⟨dd a t n,.inl rfl,by rw [h1,e],rfl⟩
  · rw [lw (fun k=>e k.1)]
    rw [lw (fun k=>e k.1)] at CH;obtain ⟨w,hw,e1,e2⟩:=ok.EX hj CH;exact ⟨a.bv[w]!,.inr (aV hw),e1,e2⟩) (fun j hj CH=>by
  rw [ul] at hj;change (a.af.be.set (cS a.af) adr)[j]! =ads at CH;rw [bj] at CH
  by_cases e:j=cS a.af
  · rw [ls ⟨e,by omega⟩] at CH;cases CH
  · rw [lw (fun k=>e k.1)] at CH
    refine ⟨⟨?_,fun w hw J3=>?_⟩,ok.un j hj CH⟩
    · show j≠(Ev.ix (dd a t n)).toNat
      omega
    rw [fU (by omega)]
    exact ok.IN CH (by omega)) (by
  rintro e (rfl|h)
  · exact J9 ok op ht h64 n0 n1
  · obtain ⟨w,hw,rfl⟩:=aP.1 h
    exact ok.ev w hw) (by
  rintro e f (rfl|he) (rfl|hf) hn
  · rfl
  · exact absurd hn.symm (nn f hf)
  · exact absurd hn (nn e he)
  obtain ⟨v,hv,rfl⟩:=aP.1 he
  obtain ⟨w,hw,rfl⟩:=aP.1 hf;rw [ok.zU hv hw hn])
 have:(kv a t n).bv.take (adk a.bv+1)=(kv a t n).bv:=EQ (by rw [len];exact v6 _);show ez ⟨gd a.af,(kv a t n).bv,(kv a t n).aj⟩;rw [<- this];exact key
theorem GR (ht:aX t) (h64:jf t) (n0:0<=n) (n1:n<=1000000):lQ (adk a.bv+1) (a.bv++[dd a t n]) a.aj:=by
 have bd:=ok.bd;obtain ⟨h1,h2,h3,h4⟩:=Cn (t:=t) (n:=n) ok op;refine ⟨by simp,by simp;omega,fun w hw=>?_⟩
 by_cases h:w<adk a.bv
 · rw [fU h];exact ok.cells.ev w h
 have:w=(adk a.bv):=by omega
 subst this;rw [iD (v6 _),ach];exact ⟨J9 ok op ht h64 n0 n1,by show 0<=Ev.ix (dd a t n);omega,by show Ev.ix (dd a t n)<_;rw [ok.wl];omega⟩
theorem vJ (fit:yW a) (ht:aX t) (h64:jf t) (n0:0<=n) (n1:n<=1000000) (nn: ∀e∈a.bv,Ev.num e≠n):jX a t n=adm (kv a t n,kq a.af,0):=by
 have bd:=ok.bd;obtain ⟨h1,h2,h3,h4⟩:=Cn (t:=t) (n:=n) ok op;have hn: ¬ ∃w,w<adk a.bv/\(a.bv[w]!).2.2.1=n:=by rintro ⟨w,hw,e⟩;exact nn _ (aV hw) e
 unfold jX;rw [iV a fit,ls ok,dz h64,ls ht,IQ _ _ (by omega),aA hn,Ck ok.so,ls op];have se:=GJ (u:=(gd a.af).az) (us:=(gd a.af).be) (fr:=(gd a.af).bi) (J9 ok op ht h64 n0 n1) (show 0<=Ev.ix (dd a t n) by omega) (GR ok op ht h64 n0 n1) (by simp) (show (adk a.bv)<adk a.bv+1 by omega) (show Ev.ix (dd a t n)<(adk a.aj) by rw [ok.wl];omega);have e1:aa .i64 (((a.bv++[dd a t n]).length:Int) -1)=((adk a.bv):Int):=by rw [wi,abZ];simp;omega
 have ap:bK a.bv [(t.1,t.2,n,kq a.af)]=adm (a.bv++[dd a t n]):=dO (by simp;omega);have se':eB ((gd a.af).az,(gd a.af).be,(gd a.af).bi,((adk a.bv):Int),t.1,t.2,n,(kq a.af).1,(kq a.af).2,a.bv++[dd a t n],a.aj)=adm (cu (adk a.bv+1) (dd a t n) (adk a.bv) (a.bv++[dd a t n]) a.aj):=se;simp only [ao,gt_iff_lt,acp,if_false,show ((0:Int) !=0)=ads from rfl,lm,aA (show¬n<0 by omega),aA (show¬1000000<n by omega),bk (show (adk a.bv)<=1048576 by omega),bk (show (adk a.aj)<=1048576 by omega),ap,ay,e1,se'];rfl
theorem xJ (ht:aX t) (h64:jf t) (n0:0<=n) (n1:n<=1000000):eL a t n=adm (kv a t n,kq a.af):=by
 have bd:=ok.bd;obtain ⟨h1,h2,h3,h4⟩:=Cn (t:=t) (n:=n) ok op;unfold eL;rw [qi ok];have e1:aa .i64 (((a.bv++[dd a t n]).length:Int) -1)=((adk a.bv):Int):=by rw [wi,abZ];simp;omega
 have ap:bK a.bv [(t.1,t.2,n,kq a.af)]=adm (a.bv++[dd a t n]):=dO (by simp;omega);have hx:=J9 (n:=n) ok op ht h64 n0 n1;have last:cu (adk a.bv+1) (dd a t n) (adk a.bv) (a.bv++[dd a t n]) a.aj=_:=Mb (x:=dd a t n) ht.1 (IS ok op) (Mi ok op ht) (fun k k0 hk hp=>by omega);have hs:(a.bv++[dd a t n]).set (adk a.bv) (dd a t n)=a.bv++[dd a t n]:=eQ (by rw [iD (v6 _),ach];rfl);have ws:cp a.aj (kq a.af).1 ((adk a.bv):Int)=a.aj.set (Ev.n (dd a t n)) ((adk a.bv):Int):=rfl
 have u1:sY ((gd a.af).az,(gd a.af).be,(gd a.af).bi,((adk a.bv):Int),a.bv++[dd a t n],a.aj.set (Ev.n (dd a t n)) ((adk a.bv):Int))=adm (((iG (dd a t n) (adk a.bv) (a.bv++[dd a t n]) a.aj).1:Int),(iG (dd a t n) (adk a.bv) (a.bv++[dd a t n]) a.aj).2.1.set (iG (dd a t n) (adk a.bv) (a.bv++[dd a t n]) a.aj).1 (dd a t n),(iG (dd a t n) (adk a.bv) (a.bv++[dd a t n]) a.aj).2.2.set (Ev.n (dd a t n)) ((iG (dd a t n) (adk a.bv) (a.bv++[dd a t n]) a.aj).1:Int)):=by
  unfold sY;have:=U4 (c0:=((gd a.af).az,(gd a.af).be,(gd a.af).bi,((adk a.bv):Int),a.bv++[dd a t n],a.aj.set (Ev.n (dd a t n)) ((adk a.bv):Int))) (u:=(gd a.af).az) (us:=(gd a.af).be) (fr:=(gd a.af).bi) hx (show 0<=Ev.ix (dd a t n) by omega) (adk a.bv) (a.bv++[dd a t n]) a.aj (GR ok op ht h64 n0 n1) (by omega) (by simp) (by rw [ok.wl];omega) rfl rc;rw [hs] at this;exact this
 have g1:aH a.aj (kq a.af).1=adm a.aj[cS a.af]!:=aq a.aj (cS a.af) (by rw [ok.wl];exact h2);simp only [ao,GG ok.so op,ap,g1,ay,e1,ws,u1];unfold kv;rw [last]
end
theorem vK {a:aK} (ok:ez a) (op: ¬xI a.af) (fit:yW a) {t:Int×Int} (ht:aX t) (h64:jf t) {n:Int} (n0:0<=n) (n1:n<=1000000) (nn: ∀e∈a.bv,Ev.num e≠n):jX a t n=adm (⟨⟨[],[],[]⟩,[],[]⟩,(0,0),18):=by
 have bd:=ok.bd;have hn: ¬ ∃w,w<adk a.bv/\(a.bv[w]!).2.2.1=n:=by rintro ⟨w,hw,e⟩;exact nn _ (aV hw) e
 unfold jX;rw [iV a fit,ls ok,dz h64,ls ht,IQ _ _ (by omega),aA hn,Ck ok.so,lw op];simp only [ao,gt_iff_lt,acp,if_false,show ((0:Int) !=0)=ads from rfl,lm,aA (show¬n<0 by omega),aA (show¬1000000<n by omega),show ((18:Int) !=0)=adr from rfl,lc]
theorem uv {l:List Ev} {n i:Nat} {v:Ev}:(l.set i v).take n=(l.take n).set i v:=by
 apply List.ext_getElem?;intro j;rw [acr,acv,acv,acr,AC]
 by_cases h1:j<n
 · rw [ls h1]
   by_cases h2:i=j
   · subst h2
     by_cases h3:i<adk l
     · rw [ls rfl,ls h3,ls rfl,ls (by omega)]
     rw [ls rfl,lw h3,ls rfl,lw (by omega)]
   rw [lw h2,lw h2,ls h1]
 rw [lw h1]
 by_cases h2:i=j
 · rw [ls h2,lw (by omega)]
 rw [lw h2,lw h1]
theorem Mk {n:Nat} {x:Ev}: ∀(i:Nat) (H:List Ev) (W:List Int),i<n->iG x i (H.take n) W=((iG x i H W).1,(iG x i H W).2.1.take n,(iG x i H W).2.2)
 |0,H,W,hi=>by rw [iG,iG]
 |i+1,H,W,hi=>by
  have e:(H.take n)[i / 2]! =H[i / 2]!:=kN (by omega);rw [iG,iG,e]
  by_cases h:less x H[i / 2]!
  · rw [ls h,ls h,<- uv]
    exact Mk (i / 2) _ _ (by omega)
  rw [lw h,lw h]
termination_by i=>i
decreasing_by omega
theorem U7 {x:Ev}: ∀(i:Nat) (H:List Ev) (W:List Int),(iG x i H W).1<=i
 |0,H,W=>by rw [iG];exact v6 _
 |i+1,H,W=>by
  rw [iG];split
  · exact ada (U7 (i / 2) _ _) (by omega)
  exact v6 _
termination_by i=>i
decreasing_by omega
theorem GS {n:Nat} {H:List Ev} {i:Nat} (hk:2*i+1<n):gJ n (H.take n) i=gJ n H i:=by
 unfold gJ
 by_cases h:2*i+2<n
 · rw [kN h,kN (show 2*i+1<n by omega)]
 rw [lw (fun k=>h k.1),lw (fun k=>h k.1)]
theorem Ml {n:Nat} {x:Ev} {i:Nat} {H:List Ev} {W:List Int} (h:2*i+1<n) (hl:less H[gJ n H i]! x):dG n x i H W=dG n x (gJ n H i) (H.set i H[gJ n H i]!) (W.set (H[gJ n H i]!).n (i:Int)):=by rw [dG,dif_pos h,ls hl]
theorem xh {n:Nat} {x:Ev} {i:Nat} {H:List Ev} {W:List Int} (h: ¬(2*i+1<n/\less H[gJ n H i]! x)):dG n x i H W=(i,H,W):=by
 rw [dG];split
 · rename_i h1;rw [lw (fun k=>h ⟨h1,k⟩)]
 rfl
theorem GU {n : Nat} {x : Ev} : ∀ (d i : Nat) (H : List Ev) (W : List Int), n - i <= d -> dG n x i (H.take n) W = ((dG n x i H W).1, (dG n x i H W).2.1.take n, (dG n x i H W).2.2)
  | 0, i, H, W, hd => by
    rw [xh (fun h => by omega), xh (fun h => by omega)]
  | d + 1, i, H, W, hd => by
    have kc := nM n H i
    by_cases h : 2 * i + 1 < n /\ less H[gJ n H i]! x
    · have e : (H.take n)[gJ n (H.take n) i]! = H[gJ n H i]! := by rw [GS h.1, kN (by omega)]
      rw [Ml h.1 h.2, Ml (H := H.take n) h.1 (by rw [e]; exact h.2), e, GS h.1, <- uv]
      exact GU d _ _ _ (by omega)
    have h' : ¬ (2 * i + 1 < n /\ less (H.take n)[gJ n (H.take n) i]! x) := by
      rintro ⟨k1, k2⟩
      rw [GS k1, kN (by omega)] at k2
      exact h ⟨k1, k2⟩
    rw [xh h, xh h']
theorem P9 {x:Ev}: ∀(i:Nat) (H:List Ev) (W:List Int),(iG x i H W).2.1.length=adk H/\(iG x i H W).2.2.length=adk W
 |0,H,W=>by rw [iG];exact ⟨rfl,rfl⟩
 |i+1,H,W=>by
  rw [iG];split
  · have:=P9 (x:=x) (i / 2) (H.set (i+1) H[i / 2]!) (W.set (H[i / 2]!).n ((i+1:Nat):Int))
    rwa [rc,rc] at this
  exact ⟨rfl,rfl⟩
termination_by i=>i
decreasing_by omega
theorem Cp {n:Nat} {x:Ev} {i:Nat} {H:List Ev} {W:List Int} (hi:i<n):cu n x i (H.take n) W=((cu n x i H W).1.take n,(cu n x i H W).2):=by unfold cu;rw [Mk i H W hi];dsimp only;rw [GU n _ _ _ (by omega)];dsimp only;rw [uv]
noncomputable def dZ (a:aK) (i:Nat):aK:=
 if i<adk a.bv-1 then ⟨fh a.af (a.bv[i]!).2.2.2,(cu (adk a.bv-1) a.bv[adk a.bv-1]! i a.bv (a.aj.set (Ev.n a.bv[i]!) (-1))).1.take (adk a.bv-1),(cu (adk a.bv-1) a.bv[adk a.bv-1]! i a.bv (a.aj.set (Ev.n a.bv[i]!) (-1))).2⟩
 else ⟨fh a.af (a.bv[i]!).2.2.2,a.bv.take (adk a.bv-1),a.aj.set (Ev.n a.bv[i]!) (-1)⟩
section
variable {a : aK} (ok : ez a) {i : Nat} (hi : i < (adk a.bv))
include ok hi
theorem vL {w:Nat} (hw:w<adk a.bv) (ec:w≠i):Ev.n a.bv[w]!≠Ev.n a.bv[i]!:=by have h1:=(ok.back hw).1;have h2:=(ok.back hi).1;exact amw h1 h2 fun h=>ec (ok.inj hw hi h)
theorem IT:lQ (adk a.bv-1) a.bv (a.aj.set (Ev.n a.bv[i]!) (-1)):=by have c:=ok.cells;refine ⟨by omega,c.hb,fun w hw=>?_⟩;rw [rc];exact c.ev w (by omega)
theorem U8 (dC:i<adk a.bv-1):Bi (adk a.bv-1) a.bv[adk a.bv-1]! (fun e=> ∃w,w<adk a.bv-1/\w≠i/\a.bv[w]! =e) a.bv (a.aj.set (Ev.n a.bv[i]!) (-1)) i:=by
 obtain ⟨b1,b2,b3,b4,b5⟩:=ok.back (show (adk a.bv)-1<(adk a.bv) by omega);refine ⟨dC,by omega,fun w hw J3=>?_,b1,by rw [rc,ok.wl];exact b2,fun e=>acg⟩;obtain ⟨c1,c2,c3,c4,c5⟩:=ok.back (show w<(adk a.bv) by omega);refine ⟨c1,by rw [rc,ok.wl];exact c2,?_,fun h=>?_⟩
 · rw [bj,lw (fun h=>vL ok hi (show w<(adk a.bv) by omega) J3 h.1)]
   exact c5
 have:=ok.inj (show w<(adk a.bv) by omega) (show (adk a.bv)-1<(adk a.bv) by omega) h
 omega
theorem abJ:Ord (adk a.bv-1) a.bv i:=
 ⟨fun w hw=>(ok.ev w (by omega)).den,fun k k0 hk _ _=>ok.ord k k0 (by omega),fun i0 k k0 hk hp=>ok.Ma i0 k0 (by omega) hp⟩
theorem Ec (dC:i<adk a.bv-1):
 zG (adk a.bv-1) a.bv[adk a.bv-1]! (fun e=> ∃w,w<adk a.bv-1/\w≠i/\a.bv[w]! =e) (fun k=>k≠Ev.n a.bv[adk a.bv-1]!/\ ∀w,w<adk a.bv-1->w≠i->Ev.n a.bv[w]!≠k) a.bv (a.aj.set (Ev.n a.bv[i]!) (-1))
  (cu (adk a.bv-1) a.bv[adk a.bv-1]! i a.bv (a.aj.set (Ev.n a.bv[i]!) (-1))).1 (cu (adk a.bv-1) a.bv[adk a.bv-1]! i a.bv (a.aj.set (Ev.n a.bv[i]!) (-1))).2:=
 yU (ok.ev (adk a.bv-1) (by omega)).den (U8 ok hi dC) (abJ ok hi)
theorem IU:eE (fh a.af (a.bv[i]!).2.2.2):=UY ok.so (ok.handle hi).1
theorem yY {j:Nat} (hj:j<adk a.af.az):(fh a.af (a.bv[i]!).2.2.2).be[j]! =if j=Ev.n a.bv[i]! then ads else a.af.be[j]!:=by
 have _:=hi;show (a.af.be.set (Ev.n a.bv[i]!) ads)[j]! =_;rw [bj];have:=ok.so.ul
 by_cases e:j=Ev.n a.bv[i]!
 · rw [ls ⟨e,by omega⟩,ls e]
 rw [lw (fun k=>e k.1),lw e]
theorem Dy:ez (dZ a i):=by
 have hb:=ok.back hi;have hl:(adk a.bv)-1+(fh a.af (a.bv[i]!).2.2.2).bi.length=(adk a.af.az):=by show (adk a.bv)-1+(a.af.bi++[_]).length=_;rw [abZ];have:=ok.hl;simp only [acw,acE];omega
 have un: ∀j,j<adk a.af.az->(fh a.af (a.bv[i]!).2.2.2).be[j]! =ads->(a.aj.set (Ev.n a.bv[i]!) (-1))[j]! = -1:=by
  intro j hj hu;rw [yY ok hi hj] at hu;rw [bj]
  by_cases e:j=Ev.n a.bv[i]!
  · rw [ls ⟨e.symm▸rfl,by rw [ok.wl];omega⟩]
  rw [lw e] at hu
  rw [lw (fun k=>e k.1)];exact ok.un j hj hu
 unfold dZ
 by_cases dC:i<adk a.bv-1
 · rw [ls dC]
   have st:=Ec ok hi dC;refine uT (IU ok hi) st (by omega) (by rw [rc];exact ok.wl) hl (fun j hj hu=>?_) (fun j hj hu=>⟨⟨?_,fun w hw J3=>?_⟩,un j hj hu⟩) ?_ ?_
   · change j<(adk a.af.az) at hj
     rw [yY ok hi hj] at hu
     by_cases e:j=Ev.n a.bv[i]!
     · rw [ls e] at hu;cases hu
     rw [lw e] at hu
     obtain ⟨w,hw,e1,e2⟩:=ok.EX hj hu;refine ⟨a.bv[w]!,?_,e1,e2⟩
     by_cases kZ:w=adk a.bv-1
     · left;rw [kZ]
     refine .inr ⟨w,by omega,fun h=>e ?_,rfl⟩
     rw [<- h];show j=(Ev.ix a.bv[w]!).toNat;omega
   · change j<(adk a.af.az) at hj
     rw [yY ok hi hj] at hu
     by_cases e:j=Ev.n a.bv[i]!
     · rw [e];exact (vL ok hi (by omega) (by omega)).symm
     rw [lw e] at hu
     exact (ok.IN hu (by omega)).symm
   · change j<(adk a.af.az) at hj
     rw [yY ok hi hj] at hu
     by_cases e:j=Ev.n a.bv[i]!
     · rw [e];exact vL ok hi (by omega) J3
     rw [lw e] at hu
     exact ok.IN hu (by omega)
   · rintro e (rfl|⟨w,hw,_,rfl⟩)
     · exact ok.ev _ (by omega)
     exact ok.ev w (by omega)
   rintro e f (rfl|⟨v,hv,hvi,rfl⟩) (rfl|⟨w,hw,J3,rfl⟩) he
   · rfl
   · rw [ok.zU (by omega) (by omega) he]
   · rw [ok.zU (by omega) (by omega) he]
   rw [ok.zU (by omega) (by omega) he]
 rw [lw dC]
 have hie:i=adk a.bv-1:=by omega
 refine adf (IU ok hi) (fun e=> ∃w,w<adk a.bv-1/\a.bv[w]! =e) (by omega) (by rw [rc];exact ok.wl) hl (fun w hw=>?_) (fun e=>acg) (fun k k0 hk=>ok.ord k k0 (by omega)) (fun j hj hu=>?_) un ?_ ?_
 · obtain ⟨c1,c2,c3,c4,c5⟩:=ok.back (show w<(adk a.bv) by omega)
   refine ⟨c1,by rw [rc,ok.wl];exact c2,?_⟩;rw [bj,lw (fun h=>vL ok hi (show w<(adk a.bv) by omega) (by omega) h.1)];exact c5
 · change j<(adk a.af.az) at hj
   rw [yY ok hi hj] at hu
   by_cases e:j=Ev.n a.bv[i]!
   · rw [ls e] at hu;cases hu
   rw [lw e] at hu
   obtain ⟨w,hw,e1,e2⟩:=ok.EX hj hu;refine ⟨a.bv[w]!,⟨w,?_,rfl⟩,e1,e2⟩;have:w≠i:=fun h=>e (by rw [<- h];show j=(Ev.ix a.bv[w]!).toNat;omega)
   omega
 · rintro e ⟨w,hw,rfl⟩
   exact ok.ev w (by omega)
 rintro e f ⟨v,hv,rfl⟩ ⟨w,hw,rfl⟩ he
 rw [ok.zU (by omega) (by omega) he]
theorem GV (e:Ev):e∈(dZ a i).bv↔(e∈a.bv/\e≠a.bv[i]!):=by
 have other: ∀w,w<adk a.bv->(a.bv[w]!≠a.bv[i]!↔w≠i):=fun w hw=>⟨fun h k=>h (by rw [k]),fun h k=>h (ok.inj hw hi (by rw [k]))⟩
 unfold dZ
 by_cases dC:i<adk a.bv-1
 · rw [ls dC]
   have st:=Ec ok hi dC;show e∈(_:List Ev).take _↔_;rw [Ao (by rw [st.hl];omega)];refine (st.mem e).trans ?_;constructor
   · rintro (h|⟨w,hw,J3,rfl⟩)
     · rw [h];exact ⟨aV (by omega),(other _ (by omega)).2 (by omega)⟩
     exact ⟨aV (by omega),(other _ (by omega)).2 J3⟩
   rintro ⟨h,ec⟩
   obtain ⟨w,hw,rfl⟩:=aP.1 h
   by_cases c:w=adk a.bv-1
   · left;rw [c]
   exact .inr ⟨w,by omega,(other w hw).1 ec,rfl⟩
 rw [lw dC]
 show e∈a.bv.take _↔_;rw [Ao (by omega)];constructor
 · rintro ⟨w,hw,rfl⟩
   exact ⟨aV (by omega),(other _ (by omega)).2 (by omega)⟩
 rintro ⟨h,ec⟩
 obtain ⟨w,hw,rfl⟩:=aP.1 h;have:=(other w hw).1 ec;exact ⟨w,by omega,rfl⟩
theorem Dz:pY a (i:Int)=adm (dZ a i,a.bv[i]!,0):=by
 have bd:=ok.bd;obtain ⟨b1,b2,b3,b4,b5⟩:=ok.back hi;obtain ⟨c1,c2,c3,c4,c5⟩:=ok.back (show (adk a.bv)-1<(adk a.bv) by omega);unfold pY;have e1:aa .i64 (((adk a.bv):Int) -1)=((adk a.bv-1:Nat):Int):=mU (by omega) (by omega);have g1:aH a.aj (a.bv[i]!).2.2.2.1=adm a.aj[(a.bv[i]!).2.2.2.1.toNat]!:=dD b1 (by rw [ok.wl];exact b2);have ws:cp a.aj (a.bv[i]!).2.2.2.1 (-1)=a.aj.set (Ev.n a.bv[i]!) (-1):=rfl;simp only [aq a.bv i hi,ao,J2 ok.so (ok.handle hi).1,show ((0:Int) !=0)=ads from rfl,lm,bk (show (adk a.bv)<=1048576 by omega),bk (show (adk a.aj)<=1048576 by omega),ay,e1,aq a.bv (adk a.bv-1) (by omega),iU a.bv (adk a.bv-1) (by omega),g1,ws,ut];unfold dZ
 by_cases dC:i<adk a.bv-1
 · rw [aF (by omega),ls dC]
   have se:=Ou (cap:=adk a.bv) (u:=(fh a.af (a.bv[i]!).2.2.2).az) (us:=(fh a.af (a.bv[i]!).2.2.2).be) (fr:=(fh a.af (a.bv[i]!).2.2.2).bi) (ok.ev (adk a.bv-1) (by omega)) (show 0<=Ev.ix a.bv[adk a.bv-1]! from c1) (IT ok hi) dC (show Ev.ix a.bv[adk a.bv-1]!<_ by rw [rc,ok.wl];exact c2);rw [se];rfl
 rw [aA (by omega),lw dC]
 rfl
theorem vM (fit:yW a) {h:Int×Int} (hh:(a.bv[i]!).2.2.2=h):jl a h=adm (dZ a i,a.bv[i]!,0):=by unfold jl;rw [Mh ok fit hi hh];simp only [ao,show ((0:Int) !=0)=ads from rfl,lm,Dz ok hi]
theorem vN {h:Int×Int} (hh:(a.bv[i]!).2.2.2=h):kM a h=adm (dZ a i):=by
 have bd:=ok.bd;subst hh;obtain ⟨b1,b2,b3,b4,b5⟩:=ok.back hi;obtain ⟨c1,c2,c3,c4,c5⟩:=ok.back (show (adk a.bv)-1<(adk a.bv) by omega);unfold kM;rw [qi ok];have e1:aa .i64 (((adk a.bv):Int) -1)=((adk a.bv-1:Nat):Int):=mU (by omega) (by omega);have g1:aH a.aj (a.bv[i]!).2.2.2.1=adm (i:Int):=by rw [dD (l:=a.aj) b1 (by rw [ok.wl];exact b2)];exact congrArg adm b5
 have gv:=GF ok.so (ok.handle hi).1;simp only [ao,g1,ay,e1,ut];unfold dZ
 by_cases dC:i<adk a.bv-1
 · rw [cO (show (i:Int)≠((adk a.bv-1:Nat):Int) by omega),ls dC]
   have ec:(adk a.bv)-1≠i:=by omega
   have nn:Ev.n a.bv[adk a.bv-1]!≠Ev.n a.bv[i]!:=vL ok hi (by omega) ec;have sw:=Cm (n:=adk a.bv) (x:=a.bv[i]!) (u:=a.af.az) (us:=a.af.be) (fr:=a.af.bi) (H:=a.bv) (W:=a.aj) hi (show (adk a.bv)-1<(adk a.bv) by omega) ec rfl b1 (by rw [ok.wl];exact b2) c1 (by rw [ok.wl];exact c2);rw [eQ (l:=a.bv) rfl,eQ (l:=a.aj) b5] at sw;have hs:(a.bv.set i a.bv[adk a.bv-1]!).set (adk a.bv-1) a.bv[i]! =(a.bv.set (adk a.bv-1) a.bv[i]!).set i a.bv[adk a.bv-1]!:=ad3 _ _ (by omega);have ws:cp ((a.aj.set (Ev.n a.bv[adk a.bv-1]!) (i:Int)).set (Ev.n a.bv[i]!) ((adk a.bv-1:Nat):Int)) (a.bv[i]!).2.2.2.1 (-1)=(a.aj.set (Ev.n a.bv[i]!) (-1)).set (Ev.n a.bv[adk a.bv-1]!) (i:Int):=by
    show ((a.aj.set (Ev.n a.bv[adk a.bv-1]!) (i:Int)).set (Ev.n a.bv[i]!) ((adk a.bv-1:Nat):Int)).set (Ev.n a.bv[i]!) (-1)=_;rw [List.set_set,ad3 _ _ nn]
   have g2:aH ((a.aj.set (Ev.n a.bv[adk a.bv-1]!) (i:Int)).set (Ev.n a.bv[i]!) ((adk a.bv-1:Nat):Int)) (a.bv[i]!).2.2.2.1=adm _:=dD b1 (by rw [rc,rc,ok.wl];exact b2);have cells:lQ (adk a.bv-1) (a.bv.set (adk a.bv-1) a.bv[i]!) (a.aj.set (Ev.n a.bv[i]!) (-1)):=by refine ⟨by rw [rc];omega,by rw [rc];omega,fun w hw=>?_⟩;rw [bj,lw (by omega)];exact (IT ok hi).ev w hw
   have x1:Ev.ix a.bv[adk a.bv-1]!<(a.aj.set (Ev.n a.bv[i]!) (-1)).length:=by rw [rc,ok.wl];exact c2
   have hx:=ok.ev (adk a.bv-1) (by omega);have gv':qN (aS.mk a.af.az a.af.be a.af.bi) (a.bv[i]!).2.2.2=adm (fh a.af (a.bv[i]!).2.2.2):=gv;have tk:(a.bv.set (adk a.bv-1) a.bv[i]!).take (adk a.bv-1)=a.bv.take (adk a.bv-1):=by rw [uv];exact ac6 (by rw [AC];omega)
   have U:oI ((fh a.af (a.bv[i]!).2.2.2).az,(fh a.af (a.bv[i]!).2.2.2).be,(fh a.af (a.bv[i]!).2.2.2).bi,adk a.bv-1,((a.bv.set (adk a.bv-1) a.bv[i]!).set i a.bv[adk a.bv-1]!).length,(i:Int),(a.bv.set (adk a.bv-1) a.bv[i]!).set i a.bv[adk a.bv-1]!,(a.aj.set (Ev.n a.bv[i]!) (-1)).set (Ev.n a.bv[adk a.bv-1]!) (i:Int))=
    adm (((iG a.bv[adk a.bv-1]! i (a.bv.set (adk a.bv-1) a.bv[i]!) (a.aj.set (Ev.n a.bv[i]!) (-1))).1:Int),(iG a.bv[adk a.bv-1]! i (a.bv.set (adk a.bv-1) a.bv[i]!) (a.aj.set (Ev.n a.bv[i]!) (-1))).2.1.set (iG a.bv[adk a.bv-1]! i (a.bv.set (adk a.bv-1) a.bv[i]!) (a.aj.set (Ev.n a.bv[i]!) (-1))).1 a.bv[adk a.bv-1]!,(iG a.bv[adk a.bv-1]! i (a.bv.set (adk a.bv-1) a.bv[i]!) (a.aj.set (Ev.n a.bv[i]!) (-1))).2.2.set (Ev.n a.bv[adk a.bv-1]!) ((iG a.bv[adk a.bv-1]! i (a.bv.set (adk a.bv-1) a.bv[i]!) (a.aj.set (Ev.n a.bv[i]!) (-1))).1:Int)):=by
    unfold oI;exact U0 (n:=adk a.bv-1) (c0:=((fh a.af (a.bv[i]!).2.2.2).az,(fh a.af (a.bv[i]!).2.2.2).be,(fh a.af (a.bv[i]!).2.2.2).bi,adk a.bv-1,((a.bv.set (adk a.bv-1) a.bv[i]!).set i a.bv[adk a.bv-1]!).length,(i:Int),(a.bv.set (adk a.bv-1) a.bv[i]!).set i a.bv[adk a.bv-1]!,(a.aj.set (Ev.n a.bv[i]!) (-1)).set (Ev.n a.bv[adk a.bv-1]!) (i:Int))) hx c1 i _ _ cells dC x1 rc rc
   have ul:=U7 (x:=a.bv[adk a.bv-1]!) i (a.bv.set (adk a.bv-1) a.bv[i]!) (a.aj.set (Ev.n a.bv[i]!) (-1));have un:=P9 (x:=a.bv[adk a.bv-1]!) i (a.bv.set (adk a.bv-1) a.bv[i]!) (a.aj.set (Ev.n a.bv[i]!) (-1));have uc:=fun w hw=>yV (x:=a.bv[adk a.bv-1]!) cells dC (i:=i) rfl w hw
   have Ox:lQ (adk a.bv-1) (iG a.bv[adk a.bv-1]! i (a.bv.set (adk a.bv-1) a.bv[i]!) (a.aj.set (Ev.n a.bv[i]!) (-1))).2.1 (iG a.bv[adk a.bv-1]! i (a.bv.set (adk a.bv-1) a.bv[i]!) (a.aj.set (Ev.n a.bv[i]!) (-1))).2.2:=by refine ⟨by rw [un.1,rc];omega,by rw [un.1,rc];omega,fun w hw=>?_⟩;rw [un.2];exact uc w hw
   have D:mg ((fh a.af (a.bv[i]!).2.2.2).az,(fh a.af (a.bv[i]!).2.2.2).be,(fh a.af (a.bv[i]!).2.2.2).bi,adk a.bv-1,((a.bv.set (adk a.bv-1) a.bv[i]!).set i a.bv[adk a.bv-1]!).length,((iG a.bv[adk a.bv-1]! i (a.bv.set (adk a.bv-1) a.bv[i]!) (a.aj.set (Ev.n a.bv[i]!) (-1))).1:Int),(iG a.bv[adk a.bv-1]! i (a.bv.set (adk a.bv-1) a.bv[i]!) (a.aj.set (Ev.n a.bv[i]!) (-1))).2.1.set (iG a.bv[adk a.bv-1]! i (a.bv.set (adk a.bv-1) a.bv[i]!) (a.aj.set (Ev.n a.bv[i]!) (-1))).1 a.bv[adk a.bv-1]!,(iG a.bv[adk a.bv-1]! i (a.bv.set (adk a.bv-1) a.bv[i]!) (a.aj.set (Ev.n a.bv[i]!) (-1))).2.2.set (Ev.n a.bv[adk a.bv-1]!) ((iG a.bv[adk a.bv-1]! i (a.bv.set (adk a.bv-1) a.bv[i]!) (a.aj.set (Ev.n a.bv[i]!) (-1))).1:Int))=
    adm (cu (adk a.bv-1) a.bv[adk a.bv-1]! i (a.bv.set (adk a.bv-1) a.bv[i]!) (a.aj.set (Ev.n a.bv[i]!) (-1))):=by
    unfold mg
    exact Mc (n:=adk a.bv-1) (c0:=((fh a.af (a.bv[i]!).2.2.2).az,(fh a.af (a.bv[i]!).2.2.2).be,(fh a.af (a.bv[i]!).2.2.2).bi,adk a.bv-1,((a.bv.set (adk a.bv-1) a.bv[i]!).set i a.bv[adk a.bv-1]!).length,((iG a.bv[adk a.bv-1]! i (a.bv.set (adk a.bv-1) a.bv[i]!) (a.aj.set (Ev.n a.bv[i]!) (-1))).1:Int),(iG a.bv[adk a.bv-1]! i (a.bv.set (adk a.bv-1) a.bv[i]!) (a.aj.set (Ev.n a.bv[i]!) (-1))).2.1.set (iG a.bv[adk a.bv-1]! i (a.bv.set (adk a.bv-1) a.bv[i]!) (a.aj.set (Ev.n a.bv[i]!) (-1))).1 a.bv[adk a.bv-1]!,(iG a.bv[adk a.bv-1]! i (a.bv.set (adk a.bv-1) a.bv[i]!) (a.aj.set (Ev.n a.bv[i]!) (-1))).2.2.set (Ev.n a.bv[adk a.bv-1]!) ((iG a.bv[adk a.bv-1]! i (a.bv.set (adk a.bv-1) a.bv[i]!) (a.aj.set (Ev.n a.bv[i]!) (-1))).1:Int))) hx c1 (adk a.bv) (iG a.bv[adk a.bv-1]! i (a.bv.set (adk a.bv-1) a.bv[i]!) (a.aj.set (Ev.n a.bv[i]!) (-1))).1 (iG a.bv[adk a.bv-1]! i (a.bv.set (adk a.bv-1) a.bv[i]!) (a.aj.set (Ev.n a.bv[i]!) (-1))).2.1 (iG a.bv[adk a.bv-1]! i (a.bv.set (adk a.bv-1) a.bv[i]!) (a.aj.set (Ev.n a.bv[i]!) (-1))).2.2 (by omega) Ox (by omega) (by rw [un.2];exact x1) rc rc
   have st:=Cp (n:=(adk a.bv-1)) (x:=a.bv[adk a.bv-1]!) (i:=i) (H:=(a.bv.set (adk a.bv-1) a.bv[i]!)) (W:=(a.aj.set (Ev.n a.bv[i]!) (-1))) dC;have st2:=Cp (n:=(adk a.bv-1)) (x:=a.bv[adk a.bv-1]!) (i:=i) (H:=a.bv) (W:=(a.aj.set (Ev.n a.bv[i]!) (-1))) dC;rw [tk,st2] at st;injection st with st1 NI;simp only [lc,sw,ao,iU _ (adk a.bv-1) (show (adk a.bv)-1<=((a.bv.set (adk a.bv-1) a.bv[i]!).set i a.bv[adk a.bv-1]!).length by rw [rc,rc];omega),g2,gv',ws,hs,U,D,<- st1,<- NI]
 rw [bF (show (i:Int)=((adk a.bv-1:Nat):Int) by omega),lw dC]
 have ws:cp a.aj (a.bv[i]!).2.2.2.1 (-1)=a.aj.set (Ev.n a.bv[i]!) (-1):=rfl;simp only [lm,iU a.bv (adk a.bv-1) (by omega),ao,gv,ws]
end
abbrev qP:=Int×Int×Int
theorem ez.fit {a:aK} (ok:ez a):yW a:=by have bd:=ok.bd;have:=ok.so.fl;have:=ok.so.n2;exact ⟨by omega,by omega,by omega,fun w hw=>(ok.ev w hw).2.1⟩
theorem zJ (l:List qP) (id:Int) (hl:(adk l)<=1000000) (hs: ∀i j,i<j->j<adk l->(l[i]!).1<(l[j]!).1):
 (∀k,k<adk l->(l[k]!).1=id->aN l id ()=adm ((k:Int),adr))/\
 ((∀k,k<adk l->(l[k]!).1≠id)-> ∃m,m<=adk l/\(∀i,i<m->(l[i]!).1<id)/\(∀i,m<=i->i<adk l->id<(l[i]!).1)/\aN l id ()=adm ((m:Int),ads)):=by
 obtain ⟨m,m1,m2,m3⟩:=L' (fun i=>(l[i]!).1) id (adk l) hs;have run:aN l id ()=aB aO (l,id,((adk l):Int),(m:Int),(m:Int)):=by
  unfold aN;refine zA (body:=aO) (fun lo hi=>(l,id,((adk l):Int),(lo:Int),(hi:Int))) (adk l) m (fun i=>(l[i]!).1<id) (fun lo hi h1 h2=>?_) m2 (fun i h1 h2 h3=>by have:=m3 i h1 h2;omega) (adk l) 0 (adk l) (by omega) (by omega) m1 (v6 _);have e1:adt ((lo:Int)<(hi:Int))=adr:=aF (by omega);have hh:=P1 (a:=lo) (b:=hi) (by omega) (by omega);unfold aO qz;simp only [e1,lc,hh,aq l ((lo+hi) / 2) (by omega),iE,ao,aQ (show (lo+hi) / 2<1000000000 by omega)];constructor
  · intro h
    have:adt (iO (l[(lo+hi) / 2]!).1 id<0)=adr:=by rcases c6 (l[(lo+hi) / 2]!).1 id with ⟨a,e⟩|⟨a,e⟩|⟨a,e⟩<;>rw [e]<;>first|rfl|omega
    rw [this];rfl
  intro h
  have:adt (iO (l[(lo+hi) / 2]!).1 id<0)=ads:=by rcases c6 (l[(lo+hi) / 2]!).1 id with ⟨a,e⟩|⟨a,e⟩|⟨a,e⟩<;>rw [e]<;>first|rfl|omega
  rw [this];rfl
 have fin:aB aO (l,id,((adk l):Int),(m:Int),(m:Int))=if m<adk l/\(l[m]!).1=id then adm ((m:Int),adr) else adm ((m:Int),ads):=by
  have e1:adt ((m:Int)<(m:Int))=ads:=aA (by omega)
  by_cases hm:m<adk l
  · have e2:adt ((m:Int)<((adk l):Int))=adr:=aF (by omega)
    have body:aO (l,id,((adk l):Int),(m:Int),(m:Int))=adm (.done ((m:Int),iO (l[m]!).1 id==0)):=by unfold aO qz;simp only [e1,e2,lc,lm,aq l m hm,iE,ao]
    rw [aG body];rcases c6 (l[m]!).1 id with ⟨a,e⟩|⟨a,e⟩|⟨a,e⟩
    · rw [e,lw (fun h=>by omega)];rfl
    · rw [e,ls ⟨hm,a⟩];rfl
    rw [e,lw (fun h=>by omega)];rfl
  have e2:adt ((m:Int)<((adk l):Int))=ads:=aA (by omega)
  have body:aO (l,id,((adk l):Int),(m:Int),(m:Int))=adm (.done ((m:Int),ads)):=by unfold aO;simp only [e1,e2,lm]
  rw [aG body,lw (fun h=>hm h.1)]
 rw [run,fin];constructor
 · intro k hk he
   have hkm:k=m:=by
    rcases ac2 k m with h|h|h
    · have:=m2 k h;omega
    · exact h
    have h1:=m3 m (v6 _) (by omega)
    have h2:=hs m k h hk;omega
   subst hkm;rw [ls ⟨hk,he⟩]
 intro h
 refine ⟨m,m1,m2,fun i h1 h2=>?_,?_⟩
 · have:=m3 i h1 h2
   have:=h i h2;omega
 rw [lw (fun k=>h m k.1 k.2)]
theorem ai2:cZ=aN:=rfl
theorem U9:cR=aN:=rfl
theorem abK:cW=aN:=rfl
theorem s6 {α:Type} (l:List α) (k:Nat):l.eraseIdx k=l.take k++l.drop (k+1):=List.eraseIdx_eq_take_drop_succ l k
theorem Ed (l:List qP) (k:Nat) (hk:k<adk l): ∃L:List qP,eW ((k:Int),((k+1:Nat):Int),l)=adm (adk l-1,adk l,L)/\L.take (adk l-1)=l.eraseIdx k:=by
 unfold eW;have e1:adt ((0:Int)<=(k:Int))=adr:=aF (by omega);have e2:adt ((k:Int)<=((k+1:Nat):Int))=adr:=aF (by omega);have e3:adt (((k+1:Nat):Int)<=((adk l):Int))=adr:=aF (by omega);have e4:adt (((adk l):Int)<=((adk l):Int))=adr:=aF (by omega);have e5:((k:Int)==((k+1:Nat):Int))=ads:=dE (by omega);have e6:adt ((0:Int)<=((k+1:Nat):Int))=adr:=aF (by omega);have e7:adt ((k:Int)<=((adk l):Int))=adr:=aF (by omega);have dr:(l.drop (k+1)).take (adk l- (k+1))=l.drop (k+1):=EQ (by rw [acf];exact v6 _);have dl:(l.drop (k+1)).length=adk l- (k+1):=acf;simp only [ay,e1,e2,e3,e4,e5,e6,e7,ad7,lc,lm,iU l k (by omega),ao,ut,Nat.zero_add,dr,dl,NE,Bool.and_true]
 by_cases h:k+1=adk l
 · have em:(l.drop (k+1)).isEmpty=adr:=by rw [acy,abA];omega
   have n1:adc (adk l-k) 0=ads:=by
    cases hb:adc (adk l-k) 0 with
    |false=>rfl
    |true=>have:=acl hb;omega
   have n2:Nat.ble (k+(adk l-k)) (adk l)=adr:=UV (by omega);have ll:(fD l k (acV (adk l-k) ((0:Int),(0:Int),(0:Int)))).length=(adk l):=by unfold fD;simp;omega
   simp only [em,lc,n1,lm,n2,ll,beq_self_eq_true];refine ⟨_,by rw [show k=adk l-1 by omega],?_⟩;rw [s6,show (adk l)-1=k by omega];unfold fD;rw [PP,If (by rw [AC];omega),acX,adh];rw [aci (by omega),acF]
 have em:(l.drop (k+1)).isEmpty=ads:=by
  cases hb:(l.drop (k+1)).isEmpty with
  |false=>rfl
  |true=>rw [acy,abA] at hb;omega
 have n1:Nat.ble (k+(adk l- (k+1))) (adk l)=adr:=UV (by omega);have n2:adt ((0:Int)<=((k+(adk l- (k+1)):Nat):Int))=adr:=aF (by omega);have n3:adt (((k+(adk l- (k+1)):Nat):Int)<=((adk l):Int))=adr:=aF (by omega);have n4:adc (adk l- (k+(adk l- (k+1)))) 0=ads:=by
  cases hb:adc (adk l- (k+(adk l- (k+1)))) 0 with
  |false=>rfl
  |true=>have:=acl hb;omega
 have l1:(fD l k (l.drop (k+1))).length=(adk l):=by unfold fD;simp;omega
 have n5:Nat.ble (k+(adk l- (k+1))+(adk l- (k+(adk l- (k+1))))) (adk l)=adr:=UV (by omega);have l2:(fD (fD l k (l.drop (k+1))) (k+(adk l- (k+1))) (acV (adk l- (k+(adk l- (k+1)))) ((0:Int),(0:Int),(0:Int)))).length=(adk l):=by unfold fD;simp;omega
 simp only [em,lm,n1,lc,n2,n3,ad7,n4,l1,n5,l2,beq_self_eq_true];refine ⟨_,by rw [show k+(adk l- (k+1))=adk l-1 by omega],?_⟩;rw [s6];have:k+(adk l- (k+1))=adk l-1:=by omega
 unfold fD;rw [PP,If (by simp;omega),acX,adh,PP];rw [show (l.take k++(l.drop (k+1)++l.drop (k+(l.drop (k+1)).length)))=(l.take k++l.drop (k+1))++l.drop (k+(l.drop (k+1)).length) by rw [PP]];rw [If (by simp;omega),EQ (by simp;omega)]
theorem Oy:gX=eW:=rfl
theorem GW {α:Type} [Inhabited α] {l:List α} {k i:Nat}:(l.eraseIdx k)[i]! =if i<k then l[i]! else l[i+1]!:=by
 rw [s6]
 by_cases hk:k<adk l
 · by_cases h:i<k
   · rw [ls h,fU (by rw [AC];omega),kN h]
   rw [lw h,iD (by rw [AC];omega),pF,AC]
   congr 1;omega
 have e1:l.take k=l:=EQ (by omega)
 have e2:l.drop (k+1)=[]:=aci (by omega);rw [e1,e2,acF];split
 · rfl
 rw [getElem!_neg l i (by omega),getElem!_neg l (i+1) (by omega)]
def eX (x:Int×Int):Prop:=0<=x.1/\x.1<=65535/\0<=x.2/\x.2<=65535/\x.1≠x.2
theorem Ap (x:Int×Int):sL x=adm (adt (eX x)):=by
 obtain ⟨a,b⟩:=x;unfold sL;dsimp only
 by_cases h1:0<=a
 · by_cases h3:0<=b
   · have e1:adt (0<=if b<a then b else a)=adr:=aF (by split<;>omega)
     rw [e1]
     by_cases h2:a<=65535
     · by_cases h4:b<=65535
       · have e2:adt ((if b>a then b else a)<=65535)=adr:=aF (by split<;>omega)
         rw [e2]
         by_cases h5:a=b
         · rw [bF h5,aA (p:=eX (a,b)) (fun h=>h.2.2.2.2 h5)];rfl
         rw [cO h5,aF (p:=eX (a,b)) ⟨h1,h2,h3,h4,h5⟩];rfl
       have e2:adt ((if b>a then b else a)<=65535)=ads:=aA (by split<;>omega)
       rw [e2,aA (p:=eX (a,b)) (fun h=>h4 h.2.2.2.1)];rfl
     have e2:adt ((if b>a then b else a)<=65535)=ads:=aA (by split<;>omega)
     rw [e2,aA (p:=eX (a,b)) (fun h=>h2 h.2.1)];rfl
   have e1:adt (0<=if b<a then b else a)=ads:=aA (by split<;>omega)
   rw [e1,aA (p:=eX (a,b)) (fun h=>h3 h.2.2.1)];rfl
 have e1:adt (0<=if b<a then b else a)=ads:=aA (by split<;>omega)
 rw [e1,aA (p:=eX (a,b)) (fun h=>h1 h.1)];rfl
theorem Aq (x:Int×Int):sR x=adm (adt (eX x)):=by
 obtain ⟨a,b⟩:=x;unfold sR;dsimp only
 by_cases h1:0<=a
 · by_cases h2:a<=65535
   · by_cases h3:0<=b
     · by_cases h4:b<=65535
       · by_cases h5:a=b
         · rw [bF h5,aF h1,aF h2,aF h3,aF h4,aA (p:=eX (a,b)) (fun h=>h.2.2.2.2 h5)];rfl
         rw [cO h5,aF h1,aF h2,aF h3,aF h4,aF (p:=eX (a,b)) ⟨h1,h2,h3,h4,h5⟩];rfl
       rw [aF h1,aF h2,aF h3,aA h4,aA (p:=eX (a,b)) (fun h=>h4 h.2.2.2.1)];rfl
     rw [aF h1,aF h2,aA h3,aA (p:=eX (a,b)) (fun h=>h3 h.2.2.1)];rfl
   rw [aF h1,aA h2,aA (p:=eX (a,b)) (fun h=>h2 h.2.1)];rfl
 rw [aA h1,aA (p:=eX (a,b)) (fun h=>h1 h.1)];rfl
structure ek (c:bm):Prop where
 len:(adk c.ce)<=200
 n0:0<=c.aL
 n1:c.aL<=1000000
 cv: ∀i,i<adk c.ce->eX (c.ce[i]!).2
 nr: ∀i,i<adk c.ce->0<=(c.ce[i]!).1/\(c.ce[i]!).1<c.aL
 up: ∀i j,i<j->j<adk c.ce->(c.ce[i]!).1<(c.ce[j]!).1
 nd: ∀i j,i<j->j<adk c.ce->(c.ce[i]!).2≠(c.ce[j]!).2
def yZ (l:List qP) (i:Nat):Int:=if i=0 then -1 else (l[i-1]!).1
def Oz (c:bm) (i:Nat):Prop:=eX (c.ce[i]!).2/\(∀j,j<i->(c.ce[j]!).2≠(c.ce[i]!).2)/\yZ c.ce i<(c.ce[i]!).1/\(c.ce[i]!).1<c.aL
theorem ek.iff {c:bm} (h1:(adk c.ce)<=200) (h2:0<=c.aL) (h3:c.aL<=1000000):ek c↔ ∀i,i<adk c.ce->Oz c i:=by
 constructor
 · intro ok i hi
   refine ⟨ok.cv i hi,fun j hj=>ok.nd j i hj hi,?_,(ok.nr i hi).2⟩;unfold yZ;split
   · have:=(ok.nr i hi).1;omega
   exact ok.up (i-1) i (by omega) hi
 intro h
 have low: ∀i,i<adk c.ce->0<=(c.ce[i]!).1:=by
  intro i
  induction i with
  |zero=>intro hi;have:=(h 0 hi).2.2.1;unfold yZ at this;rw [ls rfl] at this;omega
  |succ i ih=>intro hi;have h1:=(h (i+1) hi).2.2.1;unfold yZ at h1;rw [lw (by omega),show i+1-1=i by omega] at h1;have:=ih (by omega);omega
 have up: ∀i j,i<j->j<adk c.ce->(c.ce[i]!).1<(c.ce[j]!).1:=by
  intro i j
  induction j with
  |zero=>intro h;omega
  |succ j ih=>
   intro lS hj;have h1:=(h (j+1) hj).2.2.1;unfold yZ at h1;rw [lw (by omega),show j+1-1=j by omega] at h1
   by_cases e:i=j
   · subst e;exact h1
   have:=ih (by omega) (by omega)
   omega
 exact ⟨h1,h2,h3,fun i hi=>(h i hi).1,fun i hi=>⟨low i hi,(h i hi).2.2.2⟩,up,fun i j lS hj=>(h j hj).2.1 i lS⟩
theorem GX (l:List qP) (k:Nat) (a b:Int):oe [a,b] ((l.take k).map fun x=>[x.2.1,x.2.2])=adr:=by unfold oe;rw [List.all_eq_true];intro x hx;obtain ⟨y,hy,rfl⟩:=M2.1 hx;rfl
theorem GY (l:List qP) (k:Nat) (x:Int×Int):Es ((l.take k).map fun y=>[y.2.1,y.2.2]) [x.1,x.2]=adt (∃j,j<k/\j<adk l/\(l[j]!).2=x):=by
 unfold Es;rw [acj,List.any_eq_true,decide_eq_true_iff];constructor
 · rintro ⟨y,hy,he⟩
   obtain ⟨z,hz,rfl⟩:=M2.1 hy;obtain ⟨j,h1,h2,rfl⟩:=bS.1 hz;have:[x.1,x.2]=[(l[j]!).2.1,(l[j]!).2.2]:=by simpa using he
   injection this with e1 e2;injection e2 with e2 _;exact ⟨j,h1,h2,IR e1.symm e2.symm⟩
 rintro ⟨j,h1,h2,h3⟩
 refine ⟨[(l[j]!).2.1,(l[j]!).2.2],M2.2 ⟨l[j]!,bS.2 ⟨j,h1,h2,rfl⟩,rfl⟩,?_⟩;rw [h3];simp
theorem uU (c:bm):pj c=adm (if ek c then 0 else 8):=by
 unfold pj;simp only [ay]
 by_cases h1:200<adk c.ce
 · rw [aF (show (200:Int)<((adk c.ce):Int) by omega),lw (fun h=>by have:=h.len;omega)];rfl
 rw [aA (show¬(200:Int)<((adk c.ce):Int) by omega)]
 by_cases h2:c.aL<0
 · rw [aF h2,lw (fun h=>by have:=h.n0;omega)];rfl
 rw [aA h2]
 by_cases h3:1000000<c.aL
 · rw [aF h3,lw (fun h=>by have:=h.n1;omega)];rfl
 rw [aA h3];simp only [lm];have key:=c7 (body:=pW) (fun i=>(yZ c.ce i,c.ce,((adk c.ce):Int),(i:Int),c.aL,c.ce,(c.ce.take i).map fun x=>[x.2.1,x.2.2])) (adk c.ce) (fun i=> ¬Oz c i) (r:=8) (e:=0) (fun i hi=>by
  have e1:adt ((i:Int)<((adk c.ce):Int))=adr:=aF (by omega);have has:Lk ((c.ce.take i).map fun x=>[x.2.1,x.2.2]) [(c.ce[i]!).2.1,(c.ce[i]!).2.2]=adm (adt (∃j,j<i/\j<adk c.ce/\(c.ce[j]!).2=(c.ce[i]!).2)):=by unfold Lk;rw [GX,GY];rfl
  have nx:(c.ce.take (i+1)).map (fun x=>[x.2.1,x.2.2])=((c.ce.take i).map fun x=>[x.2.1,x.2.2])++[[(c.ce[i]!).2.1,(c.ce[i]!).2.2]]:=by rw [gb hi,List.map_append];rfl
  have ln:yZ c.ce (i+1)=(c.ce[i]!).1:=by unfold yZ;rw [lw (by omega),show i+1-1=i by omega]
  unfold pW;simp only [e1,lc,aq c.ce i hi,ao,Ap,has,nx,ln,aQ (show i<1000000000 by omega)];unfold Oz
  by_cases b1:eX (c.ce[i]!).2
  case neg=>rw [aA b1];exact ⟨fun _=>rfl,fun h=>absurd (pp.1 h).1 b1⟩
  rw [aF b1]
  by_cases b2: ∃j,j<i/\j<adk c.ce/\(c.ce[j]!).2=(c.ce[i]!).2
  · rw [aF b2]
    refine ⟨fun _=>rfl,fun h=>?_⟩;obtain ⟨j,j1,j2,j3⟩:=b2;exact absurd j3 ((pp.1 h).2.1 j j1)
  rw [aA b2];have b2': ∀j,j<i->(c.ce[j]!).2≠(c.ce[i]!).2:=fun j hj he=>b2 ⟨j,hj,by omega,he⟩
  by_cases b3:(c.ce[i]!).1<=yZ c.ce i
  · rw [aF b3]
    exact ⟨fun _=>rfl,fun h=>absurd (pp.1 h).2.2.1 (by omega)⟩
  rw [aA b3]
  by_cases b4:c.aL<=(c.ce[i]!).1
  · rw [aF b4]
    exact ⟨fun _=>rfl,fun h=>absurd (pp.1 h).2.2.2 (by omega)⟩
  rw [aA b4];have ins:Ll ((c.ce.take i).map fun x=>[x.2.1,x.2.2]) [(c.ce[i]!).2.1,(c.ce[i]!).2.2]=adm (((c.ce.take i).map fun x=>[x.2.1,x.2.2])++[[(c.ce[i]!).2.1,(c.ce[i]!).2.2]]):=by unfold Ll Nw;rw [GX,GY,aA b2];rfl
  rw [ins];exact ⟨fun h=>absurd ⟨b1,b2',by omega,by omega⟩ h,fun _=>rfl⟩) (by
  unfold pW;have:adt (((adk c.ce):Int)<((adk c.ce):Int))=ads:=aA (by omega);simp only [this,lm])
 have h0:yZ c.ce 0= -1:=rfl;rw [h0] at key
 by_cases ok:ek c
 · rw [ls ok]
   exact key.2 fun i hi=>pp.2 ((ek.iff (by omega) (by omega) (by omega)).1 ok i hi)
 rw [lw ok]
 rw [ek.iff (by omega) (by omega) (by omega)] at ok;obtain ⟨i,h⟩:=ww.1 ok;obtain ⟨hi,hx⟩:=Do.1 h;exact key.1 ⟨i,hi,hx⟩
theorem Mm (c:bm) (i:Nat) (hi:i<adk c.ce) (hl:(adk c.ce)<=200):
 ((∃j,j<i/\(c.ce[j]!).2=(c.ce[i]!).2)->aB fx ((i:Int),0,c.aL,c.ce,c.ce[i]!)=adm (.done 8))/\
 ((∀j,j<i-> ¬(c.ce[j]!).2=(c.ce[i]!).2)->aB fx ((i:Int),0,c.aL,c.ce,c.ce[i]!)=adm (.next (((i+1:Nat):Int),c.aL,c.ce))):=by
 refine c7 (body:=fx) (fun j=>((i:Int),(j:Int),c.aL,c.ce,c.ce[i]!)) i (fun j=>(c.ce[j]!).2=(c.ce[i]!).2) (r:= .done 8) (e:= .next (((i+1:Nat):Int),c.aL,c.ce)) (fun j hj=>?_) ?_
 · have e1:adt ((j:Int)<(i:Int))=adr:=aF (by omega)
   unfold fx;simp only [e1,lc,aq c.ce j (by omega),ao,aQ (show j<1000000000 by omega)];generalize c.ce[j]! =x;generalize c.ce[i]! =y;constructor
   · intro h;rw [dy (congrArg ad0 h),dy (congrArg ad2 h)];rfl
   intro h
   by_cases h1:x.2.1=y.2.1
   · rw [dy h1,dE (fun h2=>h (IR h1 h2))];rfl
   rw [dE h1];rfl
 unfold fx
 have:adt ((i:Int)<(i:Int))=ads:=aA (by omega);simp only [this,lm,aQ (show i<1000000000 by omega)]
theorem y4 (c:bm):qG c=adm (if ek c then 0 else 8):=by
 unfold qG;simp only [ay]
 by_cases h1:200<adk c.ce
 · rw [aF (show (200:Int)<((adk c.ce):Int) by omega),lw (fun h=>by have:=h.len;omega)];rfl
 rw [aA (show¬(200:Int)<((adk c.ce):Int) by omega)]
 by_cases h2:c.aL<0
 · rw [aF h2,lw (fun h=>by have:=h.n0;omega)];rfl
 rw [aA h2]
 by_cases h3:1000000<c.aL
 · rw [aF h3,lw (fun h=>by have:=h.n1;omega)];rfl
 rw [aA h3];simp only [lm];have key:=c7 (body:=oy) (fun i=>((i:Int),c.aL,c.ce)) (adk c.ce) (fun i=> ¬(eX (c.ce[i]!).2/\0<=(c.ce[i]!).1/\(c.ce[i]!).1<c.aL/\(0<i->(c.ce[i-1]!).1<(c.ce[i]!).1)/\ ∀j,j<i-> ¬(c.ce[j]!).2=(c.ce[i]!).2)) (r:=8) (e:=0) (fun i hi=>by
  have e1:adt ((i:Int)<((adk c.ce):Int))=adr:=aF (by omega);have l1:=Mm c i hi (by omega);unfold oy;simp only [ay,e1,lc,aq c.ce i hi,ao,Aq]
  by_cases b1:eX (c.ce[i]!).2
  case neg=>rw [aA b1];exact ⟨fun _=>rfl,fun h=>absurd (pp.1 h).1 b1⟩
  rw [aF b1]
  by_cases b2:(c.ce[i]!).1<0
  · rw [aF b2]
    exact ⟨fun _=>rfl,fun h=>absurd (pp.1 h).2.1 (by omega)⟩
  rw [aA b2]
  by_cases b3:c.aL<=(c.ce[i]!).1
  · rw [aF b3]
    exact ⟨fun _=>rfl,fun h=>absurd (pp.1 h).2.2.1 (by omega)⟩
  rw [aA b3];simp only [sp,lm];have go:(0<i->(c.ce[i-1]!).1<(c.ce[i]!).1)->(¬(eX (c.ce[i]!).2/\0<=(c.ce[i]!).1/\(c.ce[i]!).1<c.aL/\(0<i->(c.ce[i-1]!).1<(c.ce[i]!).1)/\ ∀j,j<i-> ¬(c.ce[j]!).2=(c.ce[i]!).2)->aB fx ((i:Int),0,c.aL,c.ce,c.ce[i]!)=adm (.done 8))/\
   (¬¬(eX (c.ce[i]!).2/\0<=(c.ce[i]!).1/\(c.ce[i]!).1<c.aL/\(0<i->(c.ce[i-1]!).1<(c.ce[i]!).1)/\ ∀j,j<i-> ¬(c.ce[j]!).2=(c.ce[i]!).2)->aB fx ((i:Int),0,c.aL,c.ce,c.ce[i]!)=adm (.next (((i+1:Nat):Int),c.aL,c.ce))):=by
   intro hp;constructor
   · intro h
     refine l1.1 (Classical.byContradiction fun hx=>h ⟨b1,by omega,by omega,hp,fun j hj he=>hx ⟨j,hj,he⟩⟩)
   intro h
   exact l1.2 (pp.1 h).2.2.2.2
  by_cases b4:0<i
  · have f1:adt ((0:Int)<(i:Int))=adr:=aF (by omega)
    simp only [f1,lc,mU (show i<1000000000 by omega) b4,aq c.ce (i-1) (by omega),ao]
    by_cases b5:(c.ce[i]!).1<=(c.ce[i-1]!).1
    · rw [aF b5]
      exact ⟨fun _=>rfl,fun h=>absurd ((pp.1 h).2.2.2.1 b4) (by omega)⟩
    rw [aA b5]
    exact go fun _=>by omega
  · have f1:adt ((0:Int)<(i:Int))=ads:=aA (by omega)
    rw [f1];exact go fun h=>absurd h b4) (by
  unfold oy;have:adt (((adk c.ce):Int)<((adk c.ce):Int))=ads:=aA (by omega);simp only [ay,this,lm])
 have same:ek c↔ ∀i,i<adk c.ce->(eX (c.ce[i]!).2/\0<=(c.ce[i]!).1/\(c.ce[i]!).1<c.aL/\(0<i->(c.ce[i-1]!).1<(c.ce[i]!).1)/\ ∀j,j<i-> ¬(c.ce[j]!).2=(c.ce[i]!).2):=by
  constructor
  · intro ok i hi
    exact ⟨ok.cv i hi,(ok.nr i hi).1,(ok.nr i hi).2,fun h=>ok.up (i-1) i (by omega) hi,fun j hj=>ok.nd j i hj hi⟩
  intro h
  rw [ek.iff (by omega) (by omega) (by omega)];intro i hi;obtain ⟨a1,a2,a3,a4,a5⟩:=h i hi;refine ⟨a1,a5,?_,a3⟩;unfold yZ;split
  · omega
  exact a4 (by omega)
 by_cases ok:ek c
 · rw [ls ok]
   exact key.2 fun i hi=>pp.2 (same.1 ok i hi)
 rw [lw ok]
 rw [same] at ok;obtain ⟨i,h⟩:=ww.1 ok;obtain ⟨hi,hx⟩:=Do.1 h;exact key.1 ⟨i,hi,hx⟩
def rZ (l:List qP) (x:Int×Int):Prop:= ∃i,i<adk l/\(l[i]!).2=x
theorem Mn (l:List qP) (x:Int×Int) (hl:(adk l)<=1000000):cj l x=adm (adt (rZ l x)):=by
 unfold cj fb;have key:=jZ (body:=de) (fun i=>(l,x.1,x.2,((adk l):Int),(i:Int))) (adk l) (fun i=>(l[i]!).2=x) (fun i=>(i:Int)) (e:= -1) (fun i hi=>by
  have e1:adt ((i:Int)<((adk l):Int))=adr:=aF (by omega);unfold de Ba;simp only [e1,lc,aq l i hi,ao,aQ (show i<1000000000 by omega)];generalize l[i]! =y;constructor
  · intro h;rw [dy (congrArg ad0 h),dy (congrArg ad2 h)];rfl
  · intro h
    by_cases h1:y.2.1=x.1
    · rw [dy h1,dE (fun h2=>h (IR h1 h2))];rfl
    rw [dE h1];rfl) (by
  unfold de;have:adt (((adk l):Int)<((adk l):Int))=ads:=aA (by omega);simp only [this,lm])
 rw [ay]
 by_cases hx:rZ l x
 · obtain ⟨k,h1,h2,h3⟩:=least hx
   have:=key.1 k h1 h2 h3;rw [show ((0:Nat):Int)=0 from rfl] at this;rw [this,aF hx];simp only [ao,aF (show (0:Int)<=(k:Int) by omega)]
 have:=key.2 fun i hi he=>hx ⟨i,hi,he⟩
 rw [show ((0:Nat):Int)=0 from rfl] at this;rw [this,aA hx];rfl
theorem DA:dR=cj:=rfl
theorem xi (c:bm) (x:Int×Int) (hl:(adk c.ce)<=1000000):sq c x=adm (adt (rZ c.ce x)):=by
 unfold sq;have key:=c7 (body:=rX) (fun i=>((i:Int),c.aL,c.ce,x)) (adk c.ce) (fun i=>(c.ce[i]!).2=x) (r:=adr) (e:=ads) (fun i hi=>by
  have e1:adt ((i:Int)<((adk c.ce):Int))=adr:=aF (by omega);unfold rX;simp only [ay,e1,lc,aq c.ce i hi,ao,aQ (show i<1000000000 by omega)];generalize c.ce[i]! =y;constructor
  · intro h;rw [dy (congrArg ad0 h),dy (congrArg ad2 h)];rfl
  · intro h
    by_cases h1:y.2.1=x.1
    · rw [dy h1,dE (fun h2=>h (IR h1 h2))];rfl
    rw [dE h1];rfl) (by
  unfold rX;have:adt (((adk c.ce):Int)<((adk c.ce):Int))=ads:=aA (by omega);simp only [ay,this,lm])
 by_cases hx:rZ c.ce x
 · rw [aF hx];exact key.1 hx
 rw [aA hx];exact key.2 fun i hi he=>hx ⟨i,hi,he⟩
def oL (c:bm) (x:Int×Int):bm:=⟨c.aL+1,c.ce++[(c.aL,x)]⟩
def Cq (c:bm):Prop:=adk c.ce=200\/c.aL=1000000
theorem Mo {c:bm} (ok:ek c) {x:Int×Int} (hx:eX x):Cf c x=adm (if rZ c.ce x then (⟨0,[]⟩,0,14) else if Cq c then (⟨0,[]⟩,0,18) else (oL c x,c.aL,0)):=by
 have:=ok.len;have:=ok.n0;have:=ok.n1;unfold Cf;rw [uU,ls ok,Ap,aF hx,Mn _ _ (by omega)];simp only [ao,show ((0:Int) !=0)=ads from rfl,lm,sp,ay]
 by_cases h1:rZ c.ce x
 · rw [aF h1,ls h1];rfl
 rw [aA h1,lw h1];unfold Cq
 by_cases h2:(adk c.ce)=200
 · rw [dy (show ((adk c.ce):Int)=200 by omega),ls (.inl h2)];rfl
 rw [dE (show¬((adk c.ce):Int)=200 by omega)]
 by_cases h3:c.aL=1000000
 · rw [dy h3,ls (.inr h3)];rfl
 rw [dE h3,lw (by omega)];have e:aa .i64 (c.aL+1)=c.aL+1:=by rw [wi];omega
 simp only [lm,bk (show (adk c.ce)<=1048576 by omega),ao,dO (show (adk c.ce)+[(c.aL,x)].length<=1048576 by simp;omega),e];rfl
theorem J' {c:bm} (ok:ek c) {x:Int×Int} (hx:eX x):Ds c x=adm (if rZ c.ce x then (⟨0,[]⟩,0,14) else if Cq c then (⟨0,[]⟩,0,18) else (oL c x,c.aL,0)):=by
 have:=ok.len;have:=ok.n0;have:=ok.n1;unfold Ds w8;rw [y4,ls ok,Aq,aF hx,xi _ _ (by omega)];simp only [ao,show ((0:Int) !=0)=ads from rfl,lm,sp,ay]
 by_cases h1:rZ c.ce x
 · rw [aF h1,ls h1];rfl
 rw [aA h1,lw h1];unfold Cq
 by_cases h2:(adk c.ce)=200
 · rw [dy (show ((adk c.ce):Int)=200 by omega),ls (.inl h2)];rfl
 rw [dE (show¬((adk c.ce):Int)=200 by omega)]
 by_cases h3:c.aL=1000000
 · rw [dy h3,ls (.inr h3)];rfl
 rw [dE h3,lw (by omega)];have e:aa .i64 (c.aL+1)=c.aL+1:=by rw [wi];omega
 simp only [lm,bk (show (adk c.ce)<=1048576 by omega),ao,dO (show (adk c.ce)+[(c.aL,x)].length<=1048576 by simp;omega),e];rfl
theorem s7 {c:bm} {x:Int×Int} {i:Nat}:(oL c x).ce[i]! =if i<(adk c.ce) then c.ce[i]! else if i=(adk c.ce) then (c.aL,x) else default:=by
 show (c.ce++[(c.aL,x)])[i]! =_
 by_cases h:i<adk c.ce
 · rw [ls h,fU h]
 rw [lw h,iD (by omega)]
 by_cases e:i=adk c.ce
 · rw [ls e,e,ach];rfl
 rw [lw e,getElem!_neg _ _ (by simp;omega)]
theorem zK {c:bm} {x:Int×Int}:(oL c x).ce.length=adk c.ce+1:=by show (c.ce++[(c.aL,x)]).length=_;simp
theorem OA {c:bm} (ok:ek c) {x:Int×Int} (hx:eX x) (hn: ¬rZ c.ce x) (hf: ¬Cq c):ek (oL c x):=by
 have h1:=ok.len;have h2:=ok.n0;have h3:=ok.n1;unfold Cq at hf;refine ⟨by rw [zK];omega,by show 0<=c.aL+1;omega,by show c.aL+1<=1000000;omega,?_,?_,?_,?_⟩
 · intro i hi
   rw [zK] at hi;rw [s7]
   by_cases h:i<adk c.ce
   · rw [ls h];exact ok.cv i h
   rw [lw h,ls (by omega)];exact hx
 · intro i hi
   rw [zK] at hi;rw [s7];show 0<=_/\_<c.aL+1
   by_cases h:i<adk c.ce
   · rw [ls h];have:=ok.nr i h;omega
   rw [lw h,ls (by omega)];dsimp only;omega
 · intro i j lS hj
   rw [zK] at hj;rw [s7,s7,ls (by omega)]
   by_cases h:j<adk c.ce
   · rw [ls h];exact ok.up i j lS h
   rw [lw h,ls (by omega)]
   exact (ok.nr i (by omega)).2
 intro i j lS hj
 rw [zK] at hj;rw [s7,s7,ls (by omega)]
 by_cases h:j<adk c.ce
 · rw [ls h];exact ok.nd i j lS h
 rw [lw h,ls (by omega)]
 exact fun he=>hn ⟨i,by omega,he⟩
def mi (c:bm) (k:Nat):bm:=⟨c.aL,c.ce.eraseIdx k⟩
theorem P' {α:Type} {l:List α} {k:Nat} (hk:k<adk l):(l.eraseIdx k).length=adk l-1:=by rw [List.length_eraseIdx,ls hk]
theorem GZ {c:bm} (ok:ek c) {k:Nat} (hk:k<adk c.ce):ek (mi c k):=by
 have h1:=ok.len;have len:(mi c k).ce.length=adk c.ce-1:=P' hk;have cell: ∀i,∃j,i<=j/\j<=i+1/\(i<adk c.ce-1->j<adk c.ce)/\(mi c k).ce[i]! =c.ce[j]!/\(i<k->j=i)/\(k<=i->j=i+1):=by
  intro i
  by_cases h:i<k
  · exact ⟨i,by omega,by omega,by omega,by show (c.ce.eraseIdx k)[i]! =_;rw [GW,ls h],fun _=>rfl,by omega⟩
  exact ⟨i+1,by omega,by omega,by omega,by show (c.ce.eraseIdx k)[i]! =_;rw [GW,lw h],by omega,fun _=>rfl⟩
 refine ⟨by omega,ok.n0,ok.n1,?_,?_,?_,?_⟩
 · intro i hi
   obtain ⟨j,j1,j2,j3,j4,j5,j6⟩:=cell i;rw [j4];exact ok.cv j (j3 (by omega))
 · intro i hi
   obtain ⟨j,j1,j2,j3,j4,j5,j6⟩:=cell i;rw [j4];exact ok.nr j (j3 (by omega))
 · intro i i' lS hi
   obtain ⟨j,j1,j2,j3,j4,j5,j6⟩:=cell i;obtain ⟨m,m1,m2,m3,m4,m5,m6⟩:=cell i';rw [j4,m4];exact ok.up j m (by omega) (m3 (by omega))
 intro i i' lS hi
 obtain ⟨j,j1,j2,j3,j4,j5,j6⟩:=cell i;obtain ⟨m,m1,m2,m3,m4,m5,m6⟩:=cell i';rw [j4,m4];exact ok.nd j m (by omega) (m3 (by omega))
theorem G0 {c:bm} (ok:ek c) {k:Nat} (hk:k<adk c.ce) {n:Int} (hn:(c.ce[k]!).1=n):qA c n=adm (mi c k,(c.ce[k]!).2,0):=by have h1:=ok.len;unfold qA Dq;obtain ⟨L,d1,d2⟩:=Ed c.ce k hk;rw [uU,ls ok,(zJ c.ce n (by omega) ok.up).1 k hk hn];simp only [ao,show ((0:Int) !=0)=ads from rfl,lm,sp,bk (show (adk c.ce)<=1048576 by omega),aQ (show k<1000000000 by omega),d1,aq c.ce k hk,d2];rfl
theorem Ka {l:List qP} {k:Nat} (hk:k<adk l) (hs: ∀i j,i<j->j<adk l->(l[i]!).1<(l[j]!).1) {n:Int} (hn:(l[k]!).1=n):l.filter (fun x=>x.1 !=n)=l.eraseIdx k:=by
 rw [s6];have e:l.filter (fun x=>x.1 !=n)=(l.take k++l[k]!::l.drop (k+1)).filter (fun x=>x.1 !=n):=congrArg _ (UR hk);rw [e,acs,List.filter_cons_of_neg (by rw [hn];simp)]
 congr 1
 · rw [aco]
   intro x hx;obtain ⟨i,h1,h2,rfl⟩:=bS.1 hx;have:=hs i k h1 hk;exact cO (by omega)
 rw [aco]
 intro x hx;obtain ⟨i,h1,rfl⟩:=aP.1 hx;rw [acf] at h1;rw [pF];have:=hs k (k+1+i) (by omega) (by omega);exact cO (by omega)
theorem DB {c:bm} (ok:ek c) {k:Nat} (hk:k<adk c.ce) {n:Int} (hn:(c.ce[k]!).1=n):uM c n=adm (mi c k):=by
 have h1:=ok.len;unfold uM;have key:=bT (body:=jN) (fun i=>(n,(i:Int),c.aL,c.ce,0,c.aL,(c.ce.take i).filter (fun x=>x.1 !=n))) (adk c.ce) (fun i hi=>by
  have e1:adt ((i:Int)<((adk c.ce):Int))=adr:=aF (by omega);have nx:(c.ce.take (i+1)).filter (fun x=>x.1 !=n)=(c.ce.take i).filter (fun x=>x.1 !=n)++(if (c.ce[i]!).1 !=n then [c.ce[i]!] else []):=by rw [gb hi,acs,List.filter_cons,List.filter_nil]
  have fl:((c.ce.take i).filter (fun x=>x.1 !=n)).length<=200:=ada (List.length_filter_le _ _) (by rw [AC];omega);unfold jN;simp only [ay,e1,lc,aq c.ce i hi,ao,aQ (show i<1000000000 by omega),nx]
  by_cases h:(c.ce[i]!).1=n
  · rw [bF h];simp
  rw [cO h]
  simp only [lc,if_true,dO (show ((c.ce.take i).filter (fun x=>x.1 !=n)).length+[c.ce[i]!].length<=1048576 by simp only [acw,acE];omega),ao])
 have fin:jN (n,((adk c.ce):Int),c.aL,c.ce,0,c.aL,(c.ce.take (adk c.ce)).filter (fun x=>x.1 !=n))=adm (.done (mi c k)):=by unfold jN;have:adt (((adk c.ce):Int)<((adk c.ce):Int))=ads:=aA (by omega);simp only [ay,this,lm,List.take_length];rw [Ka hk ok.up hn];rfl
 refine Eq.trans ?_ (aG fin);exact key
def mA (l:List Pt) (id:Int):Prop:= ∃k,k<adk l/\(l[k]!).1=id
noncomputable def bW (l:List Pt) (id:Int):Pt:=if h:mA l id then l[h.choose]! else (-1,0,0)
theorem Cr {l:List Pt} (hs:iQ l) {k:Nat} (hk:k<adk l) {id:Int} (h:(l[k]!).1=id):bW l id=l[k]!:=by have hp:mA l id:=⟨k,hk,h⟩;unfold bW;rw [dif_pos hp];have:=hp.choose_spec;rw [Om hs this.1 hk (by rw [this.2,h])]
theorem cU {l:List Pt} (ok:bM l) {id:Int} (h:mA l id):ff (bW l id)/\(bW l id).1=id:=by obtain ⟨k,hk,he⟩:=h;rw [Cr ok.2.2 hk he];exact ⟨ok.2.1 _ (aV hk),he⟩
theorem DC {l:List Pt} {id:Int} (h: ¬mA l id):bW l id=(-1,0,0):=by unfold bW;rw [dif_neg h]
theorem lR {l:List Pt} (ok:bM l) (id:Int):jd ⟨l⟩ id=adm (bW l id):=by
 have h1:=ok.1;have bs:=zJ l id (by omega) (fun i j=>nK ok.2.2);unfold jd;dsimp only;rw [U9]
 by_cases h:mA l id
 · obtain ⟨k,hk,he⟩:=h
   rw [bs.1 k hk he];simp only [ao,sp,lm,aq l k hk,Cr ok.2.2 hk he]
 obtain ⟨m,m1,m2,m3,e⟩:=bs.2 (fun k hk he=>h ⟨k,hk,he⟩)
 rw [e,DC h];rfl
theorem xj {l:List Pt} (ok:bM l) {id:Int} (h:mA l id): ∃k,k<adk l/\ga ⟨l⟩ id=adm (k:Int)/\l[k]! =bW l id:=by have h1:=ok.1;obtain ⟨k,hk,he⟩:=h;exact ⟨k,hk,RD ok.2.2 (by omega) hk he,(Cr ok.2.2 hk he).symm⟩
theorem OB {l:List Pt} (ok:bM l) {id:Int} (h: ¬mA l id):ga ⟨l⟩ id=adm (-1):=by have h1:=ok.1;exact abI (by omega) fun k hk he=>h ⟨k,hk,he⟩
def ig (l:List Pt) (x:Int×Int):Prop:=mA l x.1/\mA l x.2
noncomputable def bo (l:List Pt) (x t:Int×Int):(Int×Int)×Bool:=jO (bW l x.2) (bW l x.1) t
theorem uV {l:List Pt} (ok:bM l) {x t:Int×Int} (hx:eX x) (ht:aX t) (h64:jf t):
 pq ⟨l⟩ x t=adm (if ig l x then ((bo l x t).1,(bo l x t).2,0) else ((0,0),ads,8)):=by
 unfold pq;rw [lR ok,lR ok];simp only [ao,EB h64];have bad: ¬ff (-1,0,0):=by unfold ff;dsimp only;omega
 by_cases h1:mA l x.1
 · by_cases h2:mA l x.2
   · obtain ⟨p1,p2⟩:=cU ok h1
     obtain ⟨q1,q2⟩:=cU ok h2;rw [ls ⟨q1,p1,ht,by rw [p2,q2];exact fun h=>hx.2.2.2.2 h.symm⟩,ls ⟨h1,h2⟩];rfl
   rw [DC h2,lw (fun h=>bad h.1),lw (fun h=>bad h.1),lw (fun h=>h2 h.2)]
 rw [DC h1,lw (fun h=>bad h.2.1),lw (fun h=>bad h.2.1),lw (fun h=>h1 h.1)]
theorem uW {l:List Pt} (ok:bM l) {x t:Int×Int} (h64:jf t) (hb:ig l x):pz ⟨l⟩ x t=adm (bo l x t):=by obtain ⟨h1,h2⟩:=hb;obtain ⟨j,j1,j2,j3⟩:=xj ok h1;obtain ⟨k,k1,k2,k3⟩:=xj ok h2;unfold pz;simp only [j2,k2,ao,aq l j j1,aq l k k1,j3,k3,Oj (cU ok h2).1 (cU ok h1).1 h64];rfl
theorem U' (c:bm) {l:List Pt} (ok:bM l) (hl:(adk c.ce)<=200):tY c ⟨l⟩=adm (adt (∀i,i<adk c.ce->ig l (c.ce[i]!).2)):=by
 unfold tY;have key:=c7 (body:=oz) (fun i=>((i:Int),c.aL,c.ce,l)) (adk c.ce) (fun i=> ¬ig l (c.ce[i]!).2) (r:=ads) (e:=adr) (fun i hi=>by
  have e1:adt ((i:Int)<((adk c.ce):Int))=adr:=aF (by omega);unfold oz ig;simp only [ay,e1,lc,aq c.ce i hi,ao,aQ (show i<1000000000 by omega)]
  by_cases h1:mA l (c.ce[i]!).2.1
  · obtain ⟨k,k1,k2,_⟩:=xj ok h1
    rw [k2];simp only [ao,aA (show¬(k:Int)<0 by omega),lm]
    by_cases h2:mA l (c.ce[i]!).2.2
    · obtain ⟨j,j1,j2,_⟩:=xj ok h2
      rw [j2];simp only [ao,aA (show¬(j:Int)<0 by omega),lm];exact ⟨fun h=>absurd ⟨h1,h2⟩ h,fun _=>trivial⟩
    rw [OB ok h2]
    exact ⟨fun _=>rfl,fun h=>absurd (pp.1 h).2 h2⟩
  · rw [OB ok h1]
    exact ⟨fun _=>rfl,fun h=>absurd (pp.1 h).1 h1⟩) (by
  unfold oz;have:adt (((adk c.ce):Int)<((adk c.ce):Int))=ads:=aA (by omega);simp only [ay,this,lm])
 by_cases hx: ∀i,i<adk c.ce->ig l (c.ce[i]!).2
 · rw [aF hx];exact key.2 fun i hi=>pp.2 (hx i hi)
 rw [aA hx]
 obtain ⟨i,h⟩:=ww.1 hx;obtain ⟨hi,hx⟩:=Do.1 h;exact key.1 ⟨i,hi,hx⟩
def aR (l:List Pt) (t:Int×Int) (H:List Ev):List qP->List qP->Prop
 | [],ds=>ds=[]
 |x::cs,ds=>((bo l x.2 t).2=adr-> ∃d yq,ds=d::yq/\d.1=x.1/\((bo l x.2 t).1.1,(bo l x.2 t).1.2,x.1,d.2)∈H/\aR l t H cs yq)/\((bo l x.2 t).2=ads->aR l t H cs ds)
structure aU (c:aI):Prop where
 iR:aX c.ci
 fQ:jf c.ci
 kQ:bM c.ii.am
 s8:ek c.ai
 ky:ez c.ae
 G1:(adk c.ae.aj)=200
 hd:(adk c.ae.bv)=adk c.io
 known: ∀i,i<adk c.ai.ce->ig c.ii.am (c.ai.ce[i]!).2
 Ar:aR c.ii.am c.ci c.ae.bv c.ai.ce c.io
structure s9 (c:aI):Prop where
 fQ:jf c.ci
 ag:yW c.ae
 du:(adk c.io)<=1000000
theorem adg {a:aK} (ok:ez a) (w2:(adk a.aj)=200) (t:Int×Int) (n:Int) (h:Int×Int):
 (0<=h.1/\h.1<200/\0<=a.aj[h.1.toNat]!/\a.bv[(a.aj[h.1.toNat]!).toNat]! =(t.1,t.2,n,h))↔((t.1,t.2,n,h):Ev)∈a.bv:=by
 have wl:=ok.wl;have hu:=ok.so.ul;constructor
 · rintro ⟨h1,h2,h3,h4⟩
   cases hb:a.af.be[h.1.toNat]! with
   |false=>have:=ok.un h.1.toNat (by omega) hb;omega
   |true=>have:=ok.fwd h.1.toNat (by omega) hb;rw [<- h4];exact aV (by omega)
 intro hm
 obtain ⟨w,hw,he⟩:=aP.1 hm;obtain ⟨b1,b2,b3,b4,b5⟩:=ok.back hw;have e:Ev.ix a.bv[w]! =h.1:=by rw [he]
 have e2:Ev.n a.bv[w]! =h.1.toNat:=by rw [he]
 rw [e] at b1 b2;rw [e2] at b5;refine ⟨b1,by omega,by omega,?_⟩;rw [b5,ut,he]
theorem Va {a:aK} (ok:ez a) {i:Nat} (hi:i<adk a.af.az) (h:0<=a.aj[i]!):a.aj[i]!<(adk a.bv):=by
 cases hb:a.af.be[i]! with
 |false=>have:=ok.un i hi hb;omega
 |true=>exact (ok.fwd i hi hb).2.1
theorem ss {α:Type} [Inhabited α] {l:List α} {i:Nat} (h:i<adk l):l.drop i=l[i]!::l.drop (i+1):=by rw [getElem!_pos l i h];exact List.drop_eq_getElem_cons h
theorem Mp {c:aI} (iR:aX c.ci) (fQ:jf c.ci) (kQ:bM c.ii.am) (s8:ek c.ai) (ky:ez c.ae) (w2:(adk c.ae.aj)=200):
 ∀(d i:Nat) (ds:List qP),adk c.ai.ce-i<=d->i<=adk c.ai.ce->adk ds<=1000000->
  aB cH (ds,c.ai.ce,((adk c.ai.ce):Int),(i:Int),c.ci.1,c.ci.2,c.ii.am,c.ai.aL,c.ai.ce,c.ae.af.az,c.ae.af.be,c.ae.af.bi,c.ae.bv,c.ae.aj,c.io)=
   adm (.done (if (∀j,i<=j->j<adk c.ai.ce->ig c.ii.am (c.ai.ce[j]!).2)/\aR c.ii.am c.ci c.ae.bv (c.ai.ce.drop i) ds then 0 else 8)):=by
 have hl:=s8.len;have wl:=ky.wl;have fin: ∀(ds:List qP),aB cH (ds,c.ai.ce,((adk c.ai.ce):Int),((adk c.ai.ce):Int),c.ci.1,c.ci.2,c.ii.am,c.ai.aL,c.ai.ce,c.ae.af.az,c.ae.af.be,c.ae.af.bi,c.ae.bv,c.ae.aj,c.io)=adm (.done (if ds=[] then 0 else 8)):=by
  intro ds;refine aG ?_;unfold cH;have e1:adt (((adk c.ai.ce):Int)<((adk c.ai.ce):Int))=ads:=aA (by omega);simp only [ay,e1,lm];cases ds with
  |nil=>rw [aA (by simp),ls rfl];rfl
  |cons d ds=>rw [aF (by simp),lw (by simp)];rfl
 intro d
 induction d with
 |zero=>
  intro i ds hd hi VY;have:i=(adk c.ai.ce):=by omega
  subst this;rw [fin ds,ab0];have:((∀j,adk c.ai.ce<=j->j<adk c.ai.ce->ig c.ii.am (c.ai.ce[j]!).2)/\aR c.ii.am c.ci c.ae.bv [] ds)↔ds=[]:=⟨fun h=>h.2,fun h=>⟨fun j h1 h2=>by omega,h⟩⟩
  by_cases h:ds=[]
  · rw [ls h,ls (this.2 h)]
  rw [lw h,lw (fun k=>h (this.1 k))]
 |succ d ih=>
  intro i ds hd hi VY
  by_cases he:i=adk c.ai.ce
  · subst he
    rw [fin ds,ab0];have:((∀j,adk c.ai.ce<=j->j<adk c.ai.ce->ig c.ii.am (c.ai.ce[j]!).2)/\aR c.ii.am c.ci c.ae.bv [] ds)↔ds=[]:=⟨fun h=>h.2,fun h=>⟨fun j h1 h2=>by omega,h⟩⟩
    by_cases h:ds=[]
    · rw [ls h,ls (this.2 h)]
    rw [lw h,lw (fun k=>h (this.1 k))]
  have sE:i<(adk c.ai.ce):=by omega
  have e1:adt ((i:Int)<((adk c.ai.ce):Int))=adr:=aF (by omega);have hw:=uV kQ (x:=(c.ai.ce[i]!).2) (t:=(c.ci.1,c.ci.2)) (s8.cv i sE) iR fQ;have dr:=ss sE;have all:(∀j,i<=j->j<adk c.ai.ce->ig c.ii.am (c.ai.ce[j]!).2)↔(ig c.ii.am (c.ai.ce[i]!).2/\ ∀j,i+1<=j->j<adk c.ai.ce->ig c.ii.am (c.ai.ce[j]!).2):=by
   constructor
   · intro h;exact ⟨h i (v6 _) sE,fun j h1 h2=>h j (by omega) h2⟩
   rintro ⟨h1,h2⟩ j h3 h4
   by_cases e:j=i
   · rw [e];exact h1
   exact h2 j (by omega) h4
  have sc:=aQ (show i<1000000000 by omega)
  by_cases hb:ig c.ii.am (c.ai.ce[i]!).2
  case neg=>rw [lw (fun h=>hb (all.1 h.1).1)];refine aG ?_;unfold cH;simp only [e1,lc,aq c.ai.ce i sE,ao,hw,lw hb];rfl
  rw [ls hb] at hw
  by_cases is:(bo c.ii.am (c.ai.ce[i]!).2 c.ci).2=adr
  case neg=>
   have is':(bo c.ii.am (c.ai.ce[i]!).2 c.ci).2=ads:=by simpa using is
   rw [aT (y:=(ds,c.ai.ce,((adk c.ai.ce):Int),((i+1:Nat):Int),c.ci.1,c.ci.2,c.ii.am,c.ai.aL,c.ai.ce,c.ae.af.az,c.ae.af.be,c.ae.af.bi,c.ae.bv,c.ae.aj,c.io)) (by unfold cH;simp only [e1,lc,aq c.ai.ce i sE,ao,hw,sc,is',show ((0:Int) !=0)=ads from rfl,lm,NE]),ih (i+1) ds (by omega) (by omega) VY];have same:((∀j,i<=j->j<adk c.ai.ce->ig c.ii.am (c.ai.ce[j]!).2)/\aR c.ii.am c.ci c.ae.bv (c.ai.ce.drop i) ds)↔((∀j,i+1<=j->j<adk c.ai.ce->ig c.ii.am (c.ai.ce[j]!).2)/\aR c.ii.am c.ci c.ae.bv (c.ai.ce.drop (i+1)) ds):=by
    rw [dr,all];constructor
    · rintro ⟨⟨_,h1⟩,h2⟩;exact ⟨h1,h2.2 is'⟩
    rintro ⟨h1,h2⟩;exact ⟨⟨hb,h1⟩,fun h=>absurd h is,fun _=>h2⟩
   simp only [same]
  have stop:(¬((∀j,i<=j->j<adk c.ai.ce->ig c.ii.am (c.ai.ce[j]!).2)/\aR c.ii.am c.ci c.ae.bv (c.ai.ce.drop i) ds))->cH (ds,c.ai.ce,((adk c.ai.ce):Int),(i:Int),c.ci.1,c.ci.2,c.ii.am,c.ai.aL,c.ai.ce,c.ae.af.az,c.ae.af.be,c.ae.af.bi,c.ae.bv,c.ae.aj,c.io)=adm (.done (.done 8))->aB cH (ds,c.ai.ce,((adk c.ai.ce):Int),(i:Int),c.ci.1,c.ci.2,c.ii.am,c.ai.aL,c.ai.ce,c.ae.af.az,c.ae.af.be,c.ae.af.bi,c.ae.bv,c.ae.aj,c.io)=
   adm (.done (if (∀j,i<=j->j<adk c.ai.ce->ig c.ii.am (c.ai.ce[j]!).2)/\aR c.ii.am c.ci c.ae.bv (c.ai.ce.drop i) ds then 0 else 8)):=by
   intro h1 h2;rw [lw h1];exact aG h2
  cases ds with
  |nil=>
   refine stop (fun h=>?_) ?_
   · rw [dr] at h
     obtain ⟨d,yq,h1,_⟩:=h.2.1 is;cases h1
   unfold cH
   simp only [e1,lc,aq c.ai.ce i sE,ao,hw,is,show ((0:Int) !=0)=ads from rfl,lm,sp];rfl
  |cons d0 ds=>
   have l0:((((d0::ds).length:Nat):Int)==0)=ads:=dE (by simp;omega);have g0:aH (d0::ds) 0=adm d0:=rfl;have Ar: ∀P:Prop,(P↔d0.1=(c.ai.ce[i]!).1/\(((bo c.ii.am (c.ai.ce[i]!).2 c.ci).1.1,(bo c.ii.am (c.ai.ce[i]!).2 c.ci).1.2,(c.ai.ce[i]!).1,d0.2):Ev)∈c.ae.bv)-> ¬P-> ¬((∀j,i<=j->j<adk c.ai.ce->ig c.ii.am (c.ai.ce[j]!).2)/\aR c.ii.am c.ci c.ae.bv (c.ai.ce.drop i) (d0::ds)):=by intro P hP hn h;rw [dr] at h;obtain ⟨d,yq,h1,h2,h3,_⟩:=h.2.1 is;injection h1 with h1 _;subst h1;exact hn (hP.2 ⟨h2,h3⟩)
   by_cases b1:d0.1=(c.ai.ce[i]!).1
   case neg=>refine stop (Ar (d0.1=(c.ai.ce[i]!).1/\_) acg (fun h=>b1 h.1)) ?_;unfold cH;simp only [ay,e1,lc,aq c.ai.ce i sE,ao,hw,is,show ((0:Int) !=0)=ads from rfl,lm,sp,l0,g0,cO b1]
   have ea:=adg ky w2 (bo c.ii.am (c.ai.ce[i]!).2 c.ci).1 (c.ai.ce[i]!).1 d0.2
   by_cases b2:d0.2.1<0
   · refine stop (Ar (d0.1=(c.ai.ce[i]!).1/\_) acg (fun h=>by have:=(ea.2 h.2).1;omega)) ?_
     unfold cH;simp only [ay,e1,lc,aq c.ai.ce i sE,ao,hw,is,show ((0:Int) !=0)=ads from rfl,lm,sp,l0,g0,bF b1,aF b2]
   by_cases b3:200<=d0.2.1
   · refine stop (Ar (d0.1=(c.ai.ce[i]!).1/\_) acg (fun h=>by have:=(ea.2 h.2).2.1;omega)) ?_
     unfold cH;simp only [ay,e1,lc,aq c.ai.ce i sE,ao,hw,is,show ((0:Int) !=0)=ads from rfl,lm,sp,l0,g0,bF b1,aA b2,aF b3]
   have gw:=dD (l:=c.ae.aj) (i:=d0.2.1) (by omega) (by omega)
   by_cases b4:c.ae.aj[d0.2.1.toNat]!<0
   · refine stop (Ar (d0.1=(c.ai.ce[i]!).1/\_) acg (fun h=>by have:=(ea.2 h.2).2.2.1;omega)) ?_
     unfold cH;simp only [ay,e1,lc,aq c.ai.ce i sE,ao,hw,is,show ((0:Int) !=0)=ads from rfl,lm,sp,l0,g0,bF b1,aA b2,aA b3,gw,aF b4]
   have gh:=dD (l:=c.ae.bv) (i:=c.ae.aj[d0.2.1.toNat]!) (by omega) (Va ky (by omega) (by omega));have sl:fG (d0::ds) 1 ((((d0::ds).length:Nat):Int))=adm ds:=by unfold fG;rw [ls ⟨by omega,by simp;omega,by omega⟩];simp
   have evq: ∀(e:Ev) (p:Int×Int) (n:Int) (h:Int×Int),((e.1==p.1)&&((e.2.1==p.2)&&((e.2.2.1==n)&&((e.2.2.2.1==h.1)&&(e.2.2.2.2==h.2)))))=adt (e=(p.1,p.2,n,h)):=by
    intro e p n h;rw [acj,decide_eq_true_iff];simp only [acA,beq_iff_eq];constructor
    · rintro ⟨h1,h2,h3,h4,h5⟩
      exact IR h1 (IR h2 (IR h3 (IR h4 h5)))
    intro h;rw [h];exact ⟨rfl,rfl,rfl,rfl,rfl⟩
   have amz:=evq c.ae.bv[(c.ae.aj[d0.2.1.toNat]!).toNat]! (bo c.ii.am (c.ai.ce[i]!).2 c.ci).1 (c.ai.ce[i]!).1 d0.2
   by_cases b5:c.ae.bv[(c.ae.aj[d0.2.1.toNat]!).toNat]! =((bo c.ii.am (c.ai.ce[i]!).2 c.ci).1.1,(bo c.ii.am (c.ai.ce[i]!).2 c.ci).1.2,(c.ai.ce[i]!).1,d0.2)
   case neg=>refine stop (Ar (d0.1=(c.ai.ce[i]!).1/\_) acg (fun h=>b5 (ea.2 h.2).2.2.2)) ?_;unfold cH;simp only [ay,e1,lc,aq c.ai.ce i sE,ao,hw,is,show ((0:Int) !=0)=ads from rfl,lm,sp,l0,g0,bF b1,aA b2,aA b3,gw,aA b4,gh];rw [amz,aA b5];rfl
   have zS:=ea.1 ⟨by omega,by omega,by omega,b5⟩;rw [aT (y:=(ds,c.ai.ce,((adk c.ai.ce):Int),((i+1:Nat):Int),c.ci.1,c.ci.2,c.ii.am,c.ai.aL,c.ai.ce,c.ae.af.az,c.ae.af.be,c.ae.af.bi,c.ae.bv,c.ae.aj,c.io)) (by unfold cH;simp only [ay,e1,lc,aq c.ai.ce i sE,ao,hw,is,show ((0:Int) !=0)=ads from rfl,lm,sp,l0,g0,bF b1,aA b2,aA b3,gw,aA b4,gh,sl,sc];rw [amz,aF b5];rfl),ih (i+1) ds (by omega) (by omega) (by simp at VY;omega)];have same:((∀j,i<=j->j<adk c.ai.ce->ig c.ii.am (c.ai.ce[j]!).2)/\aR c.ii.am c.ci c.ae.bv (c.ai.ce.drop i) (d0::ds))↔((∀j,i+1<=j->j<adk c.ai.ce->ig c.ii.am (c.ai.ce[j]!).2)/\aR c.ii.am c.ci c.ae.bv (c.ai.ce.drop (i+1)) ds):=by
    rw [dr,all];constructor
    · rintro ⟨⟨_,h1⟩,h2⟩
      obtain ⟨d,yq,k1,k2,k3,k4⟩:=h2.1 is;injection k1 with k1 k5;subst k5;exact ⟨h1,k4⟩
    rintro ⟨h1,h2⟩
    exact ⟨⟨hb,h1⟩,fun _=>⟨d0,ds,rfl,b1,zS,h2⟩,fun h=>by rw [is] at h;cases h⟩
   simp only [same]
theorem aU.iff {c:aI} (fit:s9 c):aU c↔aX c.ci/\bM c.ii.am/\ek c.ai/\ez c.ae/\adk c.ae.aj=200/\adk c.ae.bv=adk c.io/\(∀i,i<adk c.ai.ce->ig c.ii.am (c.ai.ce[i]!).2)/\aR c.ii.am c.ci c.ae.bv c.ai.ce c.io:=
 ⟨fun h=>⟨h.iR,h.kQ,h.s8,h.ky,h.G1,h.hd,h.known,h.Ar⟩,fun ⟨h1,h2,h3,h4,h5,h6,h7,h8⟩=>⟨h1,fit.fQ,h2,h3,h4,h5,h6,h7,h8⟩⟩
theorem aU.fit {c:aI} (ok:aU c):s9 c:=⟨ok.fQ,ok.ky.fit,by have:=ok.hd;have:=ok.ky.bd;omega⟩
theorem Mq {c:aI} {n0 n1 n2 n3:Int}:
 aB eG (4,0,c.ci.1,c.ci.2,c.ii.am,c.ai.aL,c.ai.ce,c.ae.af.az,c.ae.af.be,c.ae.af.bi,c.ae.bv,c.ae.aj,c.io,[n0,n1,n2,n3])=
  if n0=0/\n1=0/\n2=0/\n3=0 then aB eG (4,4,c.ci.1,c.ci.2,c.ii.am,c.ai.aL,c.ai.ce,c.ae.af.az,c.ae.af.be,c.ae.af.bi,c.ae.bv,c.ae.aj,c.io,[n0,n1,n2,n3]) else adm 8:=by
 have st: ∀(i:Nat) (n:Int),i<4->aH [n0,n1,n2,n3] (i:Int)=adm n->aB eG (4,(i:Int),c.ci.1,c.ci.2,c.ii.am,c.ai.aL,c.ai.ce,c.ae.af.az,c.ae.af.be,c.ae.af.bi,c.ae.bv,c.ae.aj,c.io,[n0,n1,n2,n3])=
  if n=0 then aB eG (4,((i+1:Nat):Int),c.ci.1,c.ci.2,c.ii.am,c.ai.aL,c.ai.ce,c.ae.af.az,c.ae.af.be,c.ae.af.bi,c.ae.bv,c.ae.aj,c.io,[n0,n1,n2,n3]) else adm 8:=by
  intro i n hi hg;have e1:adt ((i:Int)<4)=adr:=aF (by omega)
  by_cases h:n=0
  · rw [ls h]
    refine aT ?_;unfold eG;simp only [e1,lc,hg,ao,bF h,lm,aQ (show i<1000000000 by omega)]
  rw [lw h]
  refine aG ?_;unfold eG;simp only [e1,lc,hg,ao,cO h]
 have s0:=st 0 n0 (by omega) rfl;have s1:=st 1 n1 (by omega) rfl;have s2:=st 2 n2 (by omega) rfl;have s3:=st 3 n3 (by omega) rfl;have c0:((0:Nat):Int)=0:=rfl;have c4:((3+1:Nat):Int)=4:=rfl;rw [c0] at s0;rw [c4] at s3;rw [s0]
 by_cases h0:n0=0
 · rw [ls h0,show ((0+1:Nat):Int)=((1:Nat):Int) from rfl,s1]
   by_cases h1:n1=0
   · rw [ls h1,show ((1+1:Nat):Int)=((2:Nat):Int) from rfl,s2]
     by_cases h2:n2=0
     · rw [ls h2,show ((2+1:Nat):Int)=((3:Nat):Int) from rfl,s3]
       by_cases h3:n3=0
       · rw [ls h3,ls ⟨h0,h1,h2,h3⟩]
       rw [lw h3,lw (fun h=>h3 h.2.2.2)]
     rw [lw h2,lw (fun h=>h2 h.2.2.1)]
   rw [lw h1,lw (fun h=>h1 h.2.1)]
 rw [lw h0,lw (fun h=>h0 h.1)]
theorem jQ {c:aI} (fit:s9 c):fB c=adm (if aU c then 0 else 8):=by
 unfold fB;rw [dz fit.fQ,jP,uU,iV _ fit.ag];simp only [ao];have h4:Int.ofNat [if aX c.ci then (0:Int) else 8,s5 c.ii.am,if ek c.ai then (0:Int) else 8,if ez c.ae then (0:Int) else 8].length=4:=rfl;rw [h4,Mq];have z: ∀(p:Prop) [Decidable p],(if p then (0:Int) else 8)=0↔p:=fun p _=>by by_cases h:p<;>simp [h]
 simp only [z,j0];have f1:=aU.iff fit
 by_cases ok:aX c.ci/\bM c.ii.am/\ek c.ai/\ez c.ae
 case neg=>rw [lw ok,lw (c:=aU c) (fun h=>ok ⟨h.iR,h.kQ,h.s8,h.ky⟩)]
 obtain ⟨iR,kQ,s8,ky⟩:=ok;rw [ls ⟨iR,kQ,s8,ky⟩]
 by_cases w2:(adk c.ae.aj)=200
 case neg=>rw [lw (c:=aU c) (fun h=>w2 h.G1)];refine aG ?_;unfold eG;simp only [ay,aA (show¬(4:Int)<4 by omega),lm,cO (show¬((adk c.ae.aj):Int)=200 by omega),lc]
 by_cases hd:(adk c.ae.bv)=adk c.io
 case neg=>rw [lw (c:=aU c) (fun h=>hd h.hd)];refine aG ?_;unfold eG;simp only [ay,aA (show¬(4:Int)<4 by omega),lm,bF (show ((adk c.ae.aj):Int)=200 by omega),cO (show¬((adk c.ae.bv):Int)=((adk c.io):Int) by omega),lc]
 have run:=Mp iR fit.fQ kQ s8 ky w2 (adk c.ai.ce) 0 c.io (by omega) (by omega) fit.du;rw [acn] at run;have same:((∀j,0<=j->j<adk c.ai.ce->ig c.ii.am (c.ai.ce[j]!).2)/\aR c.ii.am c.ci c.ae.bv c.ai.ce c.io)↔aU c:=by
  rw [f1];constructor
  · rintro ⟨h1,h2⟩;exact ⟨iR,kQ,s8,ky,w2,hd,fun i hi=>h1 i (by omega) hi,h2⟩
  rintro ⟨_,_,_,_,_,_,h1,h2⟩;exact ⟨fun j _ hj=>h1 j hj,h2⟩
 simp only [same] at run;refine aG ?_;unfold eG;simp only [ay,aA (show¬(4:Int)<4 by omega),lm,bF (show ((adk c.ae.aj):Int)=200 by omega),bF (show ((adk c.ae.bv):Int)=((adk c.io):Int) by omega)];exact run
theorem abL {a:aK} (ok:ez a) (h:Int×Int):sT a h=adm (if uu a.af h then (a.bv[(a.aj[h.1.toNat]!).toNat]!,0) else ((0,0,0,0,0),6)):=by
 unfold sT;rw [yX a ok.fit,ls ok,P7 ok.so];simp only [ao,show ((0:Int) !=0)=ads from rfl,lm]
 by_cases lv:uu a.af h
 · obtain ⟨i,hi,hw,hh⟩:=ok.live lv
   have:=lv.1;have:=lv.2.1;have:=ok.wl;rw [aF lv,ls lv,dD (l:=a.aj) lv.1 (by omega),hw];simp only [sp,lm,ao,aq a.bv i hi,ut]
 rw [aA lv,lw lv];rfl
theorem Mr {c:aI} (fQ:jf c.ci) (kQ:bM c.ii.am) (s8:ek c.ai) (ky:ez c.ae) (w2:(adk c.ae.aj)=200) (hdu:(adk c.io)<=1000000)
 (kn: ∀i,i<adk c.ai.ce->ig c.ii.am (c.ai.ce[i]!).2):
 ∀(d i k:Nat),adk c.ai.ce-i<=d->i<=adk c.ai.ce->k<=adk c.io->
  aB dv ((k:Int),(i:Int),c.ci.1,c.ci.2,c.ii.am,c.ai.aL,c.ai.ce,c.ae.af.az,c.ae.af.be,c.ae.af.bi,c.ae.bv,c.ae.aj,c.io)=
   adm (if aR c.ii.am c.ci c.ae.bv (c.ai.ce.drop i) (c.io.drop k) then 0 else 8):=by
 have hl:=s8.len;have wl:=ky.wl;have fin: ∀k:Nat,k<=adk c.io->aB dv ((k:Int),((adk c.ai.ce):Int),c.ci.1,c.ci.2,c.ii.am,c.ai.aL,c.ai.ce,c.ae.af.az,c.ae.af.be,c.ae.af.bi,c.ae.bv,c.ae.aj,c.io)=adm (if aR c.ii.am c.ci c.ae.bv (c.ai.ce.drop (adk c.ai.ce)) (c.io.drop k) then 0 else 8):=by
  intro k hk;rw [ab0];refine aG ?_;unfold dv;have e1:adt (((adk c.ai.ce):Int)<((adk c.ai.ce):Int))=ads:=aA (by omega);simp only [ay,e1,lm];have:aR c.ii.am c.ci c.ae.bv [] (c.io.drop k)↔k=(adk c.io):=by show c.io.drop k=[]↔_;rw [abA];omega
  by_cases h:k=adk c.io
  · rw [ls (this.2 h),bF (by omega)];rfl
  rw [lw (fun x=>h (this.1 x)),cO (by omega)];rfl
 intro d
 induction d with
 |zero=>
  intro i k hd hi hk;have:i=(adk c.ai.ce):=by omega
  subst this;exact fin k hk
 |succ d ih=>
  intro i k hd hi hk
  by_cases he:i=adk c.ai.ce
  · subst he;exact fin k hk
  have sE:i<(adk c.ai.ce):=by omega
  have e1:adt ((i:Int)<((adk c.ai.ce):Int))=adr:=aF (by omega);have hw:=uW kQ (x:=(c.ai.ce[i]!).2) (t:=(c.ci.1,c.ci.2)) fQ (kn i sE);have dr:=ss sE;have sc:=aQ (show i<1000000000 by omega);have sk:=aQ (show k<1000000000 by omega)
  by_cases is:(bo c.ii.am (c.ai.ce[i]!).2 c.ci).2=adr
  case neg=>
   have is':(bo c.ii.am (c.ai.ce[i]!).2 c.ci).2=ads:=by simpa using is
   rw [aT (y:=((k:Int),((i+1:Nat):Int),c.ci.1,c.ci.2,c.ii.am,c.ai.aL,c.ai.ce,c.ae.af.az,c.ae.af.be,c.ae.af.bi,c.ae.bv,c.ae.aj,c.io)) (by unfold dv;simp only [ay,e1,lc,aq c.ai.ce i sE,ao,hw,sc,is',NE]),ih (i+1) k (by omega) (by omega) hk];have same:aR c.ii.am c.ci c.ae.bv (c.ai.ce.drop i) (c.io.drop k)↔aR c.ii.am c.ci c.ae.bv (c.ai.ce.drop (i+1)) (c.io.drop k):=by rw [dr];exact ⟨fun h=>h.2 is',fun h=>⟨fun h'=>absurd h' is,fun _=>h⟩⟩
   simp only [same]
  have stop:(¬aR c.ii.am c.ci c.ae.bv (c.ai.ce.drop i) (c.io.drop k))->dv ((k:Int),(i:Int),c.ci.1,c.ci.2,c.ii.am,c.ai.aL,c.ai.ce,c.ae.af.az,c.ae.af.be,c.ae.af.bi,c.ae.bv,c.ae.aj,c.io)=adm (.done 8)->
   aB dv ((k:Int),(i:Int),c.ci.1,c.ci.2,c.ii.am,c.ai.aL,c.ai.ce,c.ae.af.az,c.ae.af.be,c.ae.af.bi,c.ae.bv,c.ae.aj,c.io)=adm (if aR c.ii.am c.ci c.ae.bv (c.ai.ce.drop i) (c.io.drop k) then 0 else 8):=by
   intro h1 h2;rw [lw h1];exact aG h2
  by_cases Sa:k=adk c.io
  · refine stop (fun h=>?_) ?_
    · rw [dr] at h
      obtain ⟨d,yq,h1,_⟩:=h.1 is;rw [Sa,ab0] at h1;cases h1
    unfold dv
    simp only [ay,e1,lc,aq c.ai.ce i sE,ao,hw,is,sp,lm,aF (show ((adk c.io):Int)<=(k:Int) by omega)]
  have Js:k<(adk c.io):=by omega
  have dk:=ss Js;have e2:adt (((adk c.io):Int)<=(k:Int))=ads:=aA (by omega);have Ar: ¬((c.io[k]!).1=(c.ai.ce[i]!).1/\(((bo c.ii.am (c.ai.ce[i]!).2 c.ci).1.1,(bo c.ii.am (c.ai.ce[i]!).2 c.ci).1.2,(c.ai.ce[i]!).1,(c.io[k]!).2):Ev)∈c.ae.bv)-> ¬aR c.ii.am c.ci c.ae.bv (c.ai.ce.drop i) (c.io.drop k):=by intro hn h;rw [dr,dk] at h;obtain ⟨d,yq,h1,h2,h3,_⟩:=h.1 is;injection h1 with h1 _;subst h1;exact hn ⟨h2,h3⟩
  by_cases b1:(c.io[k]!).1=(c.ai.ce[i]!).1
  case neg=>refine stop (Ar (fun h=>b1 h.1)) ?_;unfold dv;simp only [ay,e1,lc,aq c.ai.ce i sE,ao,hw,is,sp,lm,e2,aq c.io k Js,cO b1]
  have fi:=abL ky (c.io[k]!).2;have ea:=adg ky w2 (bo c.ii.am (c.ai.ce[i]!).2 c.ci).1 (c.ai.ce[i]!).1 (c.io[k]!).2;have fi':sT (aK.mk (aS.mk c.ae.af.az c.ae.af.be c.ae.af.bi) c.ae.bv c.ae.aj) (c.io[k]!).2=_:=fi
  by_cases lv:uu c.ae.af (c.io[k]!).2
  case neg=>
   rw [lw lv] at fi';refine stop (Ar (fun h=>lv ?_)) ?_
   · obtain ⟨w,Sb,gL⟩:=aP.1 h.2
     have:=(ky.handle Sb).1
     rwa [gL] at this
   unfold dv
   simp only [ay,e1,lc,aq c.ai.ce i sE,ao,hw,is,sp,lm,e2,aq c.io k Js,bF b1,fi',show ((6:Int) !=0)=adr from rfl]
  rw [ls lv] at fi';obtain ⟨w,hw1,VZ,hw3⟩:=ky.live lv;rw [VZ,ut] at fi';have q1:(0<=(c.io[k]!).2.1/\(c.io[k]!).2.1<200/\0<=c.ae.aj[(c.io[k]!).2.1.toNat]!):=⟨lv.1,by have:=lv.2.1;omega,by rw [VZ];omega⟩
  by_cases b2:(c.ae.bv[w]!).2.2.1=(c.ai.ce[i]!).1
  case neg=>
   refine stop (Ar (fun h=>b2 ?_)) ?_
   · have:=(ea.2 h.2).2.2.2
     rw [VZ,ut] at this;rw [this]
   unfold dv
   simp only [ay,e1,lc,aq c.ai.ce i sE,ao,hw,is,sp,lm,e2,aq c.io k Js,bF b1,fi',show ((0:Int) !=0)=ads from rfl,cO b2]
  have teq:((c.ae.bv[w]!).1==(bo c.ii.am (c.ai.ce[i]!).2 c.ci).1.1&&(c.ae.bv[w]!).2.1==(bo c.ii.am (c.ai.ce[i]!).2 c.ci).1.2)=adt (((c.ae.bv[w]!).1,(c.ae.bv[w]!).2.1)=(bo c.ii.am (c.ai.ce[i]!).2 c.ci).1):=by
   rw [acj,decide_eq_true_iff];simp only [acA,beq_iff_eq];constructor
   · rintro ⟨h1,h2⟩;exact IR h1 h2
   intro h;rw [<- h];exact ⟨rfl,rfl⟩
  by_cases b3:((c.ae.bv[w]!).1,(c.ae.bv[w]!).2.1)=(bo c.ii.am (c.ai.ce[i]!).2 c.ci).1
  case neg=>
   refine stop (Ar (fun h=>b3 ?_)) ?_
   · have:=(ea.2 h.2).2.2.2
     rw [VZ,ut] at this;rw [this]
   unfold dv
   simp only [ay,e1,lc,aq c.ai.ce i sE,ao,hw,is,sp,lm,e2,aq c.io k Js,bF b1,fi',show ((0:Int) !=0)=ads from rfl,bF b2];rw [teq,aA b3];rfl
  have zS:=ea.1 ⟨q1.1,q1.2.1,q1.2.2,by rw [VZ,ut];have t1:=congrArg ad0 b3;have t2:=congrArg ad2 b3;exact IR t1 (IR t2 (IR b2 hw3))⟩;rw [aT (y:=(((k+1:Nat):Int),((i+1:Nat):Int),c.ci.1,c.ci.2,c.ii.am,c.ai.aL,c.ai.ce,c.ae.af.az,c.ae.af.be,c.ae.af.bi,c.ae.bv,c.ae.aj,c.io)) (by unfold dv;simp only [ay,e1,lc,aq c.ai.ce i sE,ao,hw,is,sp,lm,e2,aq c.io k Js,bF b1,fi',show ((0:Int) !=0)=ads from rfl,bF b2,sc,sk];rw [teq,aF b3];rfl),ih (i+1) (k+1) (by omega) (by omega) (by omega)];have same:aR c.ii.am c.ci c.ae.bv (c.ai.ce.drop i) (c.io.drop k)↔aR c.ii.am c.ci c.ae.bv (c.ai.ce.drop (i+1)) (c.io.drop (k+1)):=by
   rw [dr,dk];constructor
   · intro h2
     obtain ⟨d,yq,k1,k2,k3,k4⟩:=h2.1 is;injection k1 with k1 k5;subst k5;exact k4
   intro h2
   exact ⟨fun _=>⟨_,_,rfl,b1,zS,h2⟩,fun h=>by rw [is] at h;cases h⟩
  simp only [same]
theorem G2 {c:aI} (fit:s9 c):ua c=adm (if aU c then 0 else 8):=by
 unfold ua;rw [lP fit.fQ,GB,y4,yX _ fit.ag];simp only [ao]
 by_cases iR:aX c.ci
 case neg=>rw [lw iR,lw (c:=aU c) (fun h=>iR h.iR)];rfl
 rw [ls iR]
 by_cases kQ:bM c.ii.am
 case neg=>rw [cO (fun h=>kQ (j0.1 h)),lw (c:=aU c) (fun h=>kQ h.kQ)];rfl
 rw [bF (j0.2 kQ)]
 by_cases s8:ek c.ai
 case neg=>rw [lw s8,lw (c:=aU c) (fun h=>s8 h.s8)];rfl
 rw [ls s8];have kn:=U' c.ai kQ s8.len;simp only [show ((0:Int) !=0)=ads from rfl,lm,kn,ao]
 by_cases known: ∀i,i<adk c.ai.ce->ig c.ii.am (c.ai.ce[i]!).2
 case neg=>rw [aA known,lw (c:=aU c) (fun h=>known h.known)];rfl
 rw [aF known]
 by_cases ky:ez c.ae
 case neg=>rw [lw ky,lw (c:=aU c) (fun h=>ky h.ky)];rfl
 rw [ls ky];simp only [ay,show ((0:Int) !=0)=ads from rfl,lm,sp]
 by_cases w2:(adk c.ae.aj)=200
 case neg=>rw [cO (by omega),lw (c:=aU c) (fun h=>w2 h.G1)];rfl
 rw [bF (by omega)]
 by_cases hd:(adk c.ae.bv)=adk c.io
 case neg=>rw [cO (by omega),lw (c:=aU c) (fun h=>hd h.hd)];rfl
 rw [bF (by omega)];have run:=Mr fit.fQ kQ s8 ky w2 fit.du known (adk c.ai.ce) 0 0 (by omega) (by omega) (by omega);rw [acn,acn] at run;have same:aR c.ii.am c.ci c.ae.bv c.ai.ce c.io↔aU c:=by rw [aU.iff fit];exact ⟨fun h=>⟨iR,kQ,s8,ky,w2,hd,known,h⟩,fun h=>h.2.2.2.2.2.2.2⟩
 simp only [same] at run;simp only [lm];exact run
section
variable {l : List Pt} {t : Int × Int}
theorem aR.ij {H:List Ev} {x:qP} {cs ds:List qP} (h:(bo l x.2 t).2=adr):aR l t H (x::cs) ds↔ ∃d yq,ds=d::yq/\d.1=x.1/\(((bo l x.2 t).1.1,(bo l x.2 t).1.2,x.1,d.2):Ev)∈H/\aR l t H cs yq:=
 ⟨fun k=>k.1 h,fun k=>⟨fun _=>k,fun k'=>(by rw [h] at k';cases k')⟩⟩
theorem aR.fM {H:List Ev} {x:qP} {cs ds:List qP} (h:(bo l x.2 t).2=ads):aR l t H (x::cs) ds↔aR l t H cs ds:=
 ⟨fun k=>k.2 h,fun k=>⟨fun k'=>(by rw [h] at k';cases k'),fun _=>k⟩⟩
theorem aR.mono {H H':List Ev}: ∀{cs ds:List qP},(∀x∈cs,∀e:Ev,e.num=x.1->e∈H->e∈H')->aR l t H cs ds->aR l t H' cs ds
 | [],_,_,h=>h
 |x::cs,ds,hm,h=>by
  have Bs: ∀y∈cs,∀e:Ev,e.num=y.1->e∈H->e∈H':=fun y hy=>hm y (by simp [hy])
  cases hx:(bo l x.2 t).2 with
  |true=>rw [aR.ij hx] at h ⊢;obtain ⟨d,yq,h1,h2,h3,h4⟩:=h;exact ⟨d,yq,h1,h2,hm x (by simp) _ rfl h3,aR.mono Bs h4⟩
  |false=>rw [aR.fM hx] at h ⊢;exact aR.mono Bs h
theorem aR.io {H:List Ev}: ∀{cs ds:List qP},aR l t H cs ds-> ∀d∈ds,∃x∈cs,d.1=x.1/\(bo l x.2 t).2=adr/\(((bo l x.2 t).1.1,(bo l x.2 t).1.2,x.1,d.2):Ev)∈H
 | [],ds,h,d,hd=>by have:ds=[]:=h;subst this;cases hd
 |x::cs,ds,h,d,hd=>by
  cases hx:(bo l x.2 t).2 with
  |true=>
   rw [aR.ij hx] at h;obtain ⟨e,yq,h1,h2,h3,h4⟩:=h;subst h1;rcases acq.1 hd with rfl|hd
   · exact ⟨x,by simp,h2,hx,h3⟩
   obtain ⟨y,hy,k⟩:=aR.io h4 d hd
   exact ⟨y,by simp [hy],k⟩
  |false=>rw [aR.fM hx] at h;obtain ⟨y,hy,k⟩:=aR.io h d hd;exact ⟨y,by simp [hy],k⟩
theorem aR.has {H:List Ev}: ∀{cs ds:List qP},aR l t H cs ds-> ∀x∈cs,(bo l x.2 t).2=adr-> ∃d∈ds,d.1=x.1/\(((bo l x.2 t).1.1,(bo l x.2 t).1.2,x.1,d.2):Ev)∈H
 | [],_,_,x,hx,_=>by cases hx
 |y::cs,ds,h,x,hx,hf=>by
  cases hy:(bo l y.2 t).2 with
  |true=>
   rw [aR.ij hy] at h;obtain ⟨e,yq,h1,h2,h3,h4⟩:=h;subst h1;rcases acq.1 hx with rfl|hx
   · exact ⟨e,by simp,h2,h3⟩
   obtain ⟨d,hd,k⟩:=aR.has h4 x hx hf
   exact ⟨d,by simp [hd],k⟩
  |false=>
   rw [aR.fM hy] at h;rcases acq.1 hx with rfl|hx
   · rw [hf] at hy;cases hy
   exact aR.has h x hx hf
def Up (cs:List qP):Prop:=cs.Pairwise fun x y=>x.1<y.1
theorem sd {cs:List qP}:Up cs↔ ∀i j,i<j->j<adk cs->(cs[i]!).1<(cs[j]!).1:=by
 unfold Up;rw [List.pairwise_iff_getElem];constructor
 · intro h i j lS hj
   rw [getElem!_pos cs i (by omega),getElem!_pos cs j hj];exact h i j (by omega) hj lS
 intro h i j hi hj lS
 have:=h i j lS hj
 rwa [getElem!_pos cs i hi,getElem!_pos cs j hj] at this
theorem aR.up {H:List Ev}: ∀{cs ds:List qP},aR l t H cs ds->Up cs->Up ds
 | [],ds,h,_=>by have:ds=[]:=h;subst this;exact List.Pairwise.nil
 |x::cs,ds,h,hu=>by
  have CH:=acu.1 hu;cases hx:(bo l x.2 t).2 with
  |true=>rw [aR.ij hx] at h;obtain ⟨e,yq,h1,h2,h3,h4⟩:=h;subst h1;refine acu.2 ⟨fun d hd=>?_,aR.up h4 CH.2⟩;obtain ⟨y,hy,k,_⟩:=aR.io h4 d hd;have:=CH.1 y hy;omega
  |false=>rw [aR.fM hx] at h;exact aR.up h CH.2
theorem aR.snoc {H:List Ev}: ∀{cs ds:List qP} {x:qP},aR l t H cs ds->((bo l x.2 t).2=ads->aR l t H (cs++[x]) ds)/\
 (∀d:qP,(bo l x.2 t).2=adr->d.1=x.1->(((bo l x.2 t).1.1,(bo l x.2 t).1.2,x.1,d.2):Ev)∈H->aR l t H (cs++[x]) (ds++[d]))
 | [],ds,x,h=>by have:ds=[]:=h;subst this;refine ⟨fun hx=>(aR.fM hx).2 rfl,fun d hx h1 h2=>(aR.ij hx).2 ⟨d,[],rfl,h1,h2,rfl⟩⟩
 |y::cs,ds,x,h=>by
  cases hy:(bo l y.2 t).2 with
  |true=>rw [aR.ij hy] at h;obtain ⟨e,yq,h1,h2,h3,h4⟩:=h;subst h1;have ih:=aR.snoc (x:=x) h4;refine ⟨fun hx=>(aR.ij hy).2 ⟨e,yq,rfl,h2,h3,ih.1 hx⟩,fun d hx k1 k2=>(aR.ij hy).2 ⟨e,yq++[d],rfl,h2,h3,ih.2 d hx k1 k2⟩⟩
  |false=>rw [aR.fM hy] at h;have ih:=aR.snoc (x:=x) h;exact ⟨fun hx=>(aR.fM hy).2 (ih.1 hx),fun d hx k1 k2=>(aR.fM hy).2 (ih.2 d hx k1 k2)⟩
theorem aR.erase {H:List Ev}: ∀{cs ds:List qP} {i:Nat},aR l t H cs ds->i<adk cs->((bo l (cs[i]!).2 t).2=ads->aR l t H (cs.eraseIdx i) ds)/\
 ((bo l (cs[i]!).2 t).2=adr-> ∃k,k<adk ds/\(ds[k]!).1=(cs[i]!).1/\(((bo l (cs[i]!).2 t).1.1,(bo l (cs[i]!).2 t).1.2,(cs[i]!).1,(ds[k]!).2):Ev)∈H/\aR l t H (cs.eraseIdx i) (ds.eraseIdx k))
 | [],_,i,_,hi=>by cases hi
 |y::cs,ds,0,h,_=>by show ((bo l y.2 t).2=ads->aR l t H cs ds)/\((bo l y.2 t).2=adr-> ∃k,k<adk ds/\(ds[k]!).1=y.1/\(((bo l y.2 t).1.1,(bo l y.2 t).1.2,y.1,(ds[k]!).2):Ev)∈H/\aR l t H cs (ds.eraseIdx k));refine ⟨fun hy=>(aR.fM hy).1 h,fun hy=>?_⟩;obtain ⟨e,yq,h1,h2,h3,h4⟩:=(aR.ij hy).1 h;subst h1;exact ⟨0,by simp,h2,h3,h4⟩
 |y::cs,ds,i+1,h,hi=>by
  have sE:i<(adk cs):=by simpa using hi
  show ((bo l (cs[i]!).2 t).2=ads->aR l t H (y::cs.eraseIdx i) ds)/\((bo l (cs[i]!).2 t).2=adr-> ∃k,k<adk ds/\(ds[k]!).1=(cs[i]!).1/\(((bo l (cs[i]!).2 t).1.1,(bo l (cs[i]!).2 t).1.2,(cs[i]!).1,(ds[k]!).2):Ev)∈H/\aR l t H (y::cs.eraseIdx i) (ds.eraseIdx k));cases hy:(bo l y.2 t).2 with
  |true=>obtain ⟨e,yq,h1,h2,h3,h4⟩:=(aR.ij hy).1 h;subst h1;have ih:=aR.erase (i:=i) h4 sE;refine ⟨fun hx=>(aR.ij hy).2 ⟨e,yq,rfl,h2,h3,ih.1 hx⟩,fun hx=>?_⟩;obtain ⟨k,k1,k2,k3,k4⟩:=ih.2 hx;exact ⟨k+1,by simp;omega,k2,k3,(aR.ij hy).2 ⟨e,yq.eraseIdx k,rfl,h2,h3,k4⟩⟩
  |false=>have h:=(aR.fM hy).1 h;have ih:=aR.erase (i:=i) h sE;refine ⟨fun hx=>(aR.fM hy).2 (ih.1 hx),fun hx=>?_⟩;obtain ⟨k,k1,k2,k3,k4⟩:=ih.2 hx;exact ⟨k,k1,k2,k3,(aR.fM hy).2 k4⟩
end
theorem Ee {H:List Ev} {ns:List Int} (hd:ns.Nodup) (hl:(adk H)<=adk ns) (he: ∀n∈ns,∃e∈H,Ev.num e=n): ∀e∈H,Ev.num e∈ns:=by
 have pos: ∀n,n∈ns-> ∃w,w<adk H/\Ev.num H[w]! =n:=fun n hn=>by obtain ⟨e,he,h2⟩:=he n hn;obtain ⟨w,hw,rfl⟩:=aP.1 he;exact ⟨w,hw,h2⟩
 let f:Int->Nat:=fun n=>if h: ∃w,w<adk H/\Ev.num H[w]! =n then h.choose else 0
 have hf: ∀n∈ns,f n<adk H/\Ev.num H[f n]! =n:=fun n hn=>by have h:=pos n hn;show (if h: ∃w,w<adk H/\Ev.num H[w]! =n then h.choose else 0)<_/\Ev.num H[(if h: ∃w,w<adk H/\Ev.num H[w]! =n then h.choose else 0)]! =n;rw [dif_pos h];exact h.choose_spec
 have full:=D' (n:=adk H) (l:=ns.map f) (zI hd fun x hx y hy h=>by
  have h1:=(hf x hx).2;have h2:=(hf y hy).2;rw [h] at h1;omega) (fun x hx=>by
  obtain ⟨n,hn,rfl⟩:=M2.1 hx;exact (hf n hn).1) (by rw [acS];exact hl)
 intro e hm;obtain ⟨w,hw,rfl⟩:=aP.1 hm;obtain ⟨n,hn,h⟩:=M2.1 (full w hw);rw [<- h,(hf n hn).2];exact hn
theorem Ms {cs:List qP} (h:Up cs):(cs.map fun x=>x.1).Nodup:=by
 refine zI ?_ ?_
 · unfold Up at h
   exact h.imp fun Qv he=>by rw [he] at Qv;omega
 intro x hx y hy he
 obtain ⟨i,hi,rfl⟩:=aP.1 hx;obtain ⟨j,hj,rfl⟩:=aP.1 hy;rcases ac2 i j with h1|h1|h1
 · have:=sd.1 h i j h1 hj;omega
 · rw [h1]
 have:=sd.1 h j i h1 hi;omega
theorem aU.tc {c:aI} (ok:aU c):Up c.ai.ce:=sd.2 ok.s8.up
theorem aU.G3 {c:aI} (ok:aU c):Up c.io:=ok.Ar.up ok.tc
theorem aU.zU {c:aI} (ok:aU c): ∀e∈c.ae.bv,∃d∈c.io,d.1=Ev.num e:=by have:=Ee (H:=c.ae.bv) (Ms ok.G3) (by rw [acS,ok.hd];exact v6 _) (fun n hn=>by obtain ⟨d,hd,rfl⟩:=M2.1 hn;obtain ⟨x,hx,h1,h2,h3⟩:=ok.Ar.io d hd;exact ⟨_,h3,h1.symm⟩);intro e he;obtain ⟨d,hd,h⟩:=M2.1 (this e he);exact ⟨d,hd,h⟩
end Go.Proofs.YtlnclppkepgdmaaGreat
