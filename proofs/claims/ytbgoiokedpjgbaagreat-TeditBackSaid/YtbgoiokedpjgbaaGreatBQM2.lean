/- Plain laws (2). -/
import Derived.Test.YtbgoiokedpjgbaaGreatBQM1
open Classical renaming not_not->ut,not_forall->EQ,not_imp->If
open List renaming length_set->v6,length_take->F0s,take_of_length_le->IR,take_append_of_le_length->M2,mem_map->PP,append_assoc->acl,drop_length->ae9,drop_eq_nil_iff->af2,length_append->af4,set_eq_of_length_le->af6,length_drop->af7,drop_eq_nil_of_le->afc,drop_zero->afh,filter_eq_self->afi,mem_cons->afk,getElem?_take->afm,filter_append->afo,pairwise_cons->afE,getElem?_set->afF,length_cons->afI,isEmpty_iff->afK,length_nil->afR,append_nil->afS,length_map->afU,replicate->afV,take_take->aga,set_comm->agd,length->agG
open Bool renaming not_true->ww,not_false->UV,eq_iff_iff->aff,and_eq_true->afQ,and_self->agj,true->agJ,false->agM
open Int renaming toNat_natCast->AC,lt_irrefl->afj
open Nat renaming le_refl->Do,ble_eq_true_of_le->adc,lt_trichotomy->af5,sub_self->afb,eq_of_beq_eq_true->afg,le_trans->agr,beq->agt,min_self->agx
open Prod renaming ext->NE,fst->agb,snd->agc
open Iff renaming rfl->afa
open Option renaming some->agH
open Decidable renaming decide->agO
namespace Go.Proofs.YtbgoiokedpjgbaaGreat
open Go.Vm Classical
theorem Kb (a:aK) (fit:yt a) (so:eK a.af) (wl:(agG a.aq)=agG a.af.aA):
 az kL (a.aq,((agG a.aq):Int),0,a.af.aA,a.af.be,a.af.bi,a.bv,a.aq)=agH (if (∀i,i<agG a.af.aA->Gt a i)/\(∀k,k<agG a.bv->Hv a.bv k) then 0 else 8):=by
 have hu:=so.ul;have hn:=so.n2;have hh:=fit.hp;have BY:=Ka a.bv a.af.aA a.af.bi a.aq a.af.be fit.hp fit.Ph
 have key:=dh (body:=kL) (fun i=>(a.aq,((agG a.aq):Int),(i:Int),a.af.aA,a.af.be,a.af.bi,a.bv,a.aq)) (agG a.aq) (fun i=> ¬Gt a i) (r:=8) (e:=if (∀k,k<agG a.bv->Hv a.bv k) then 0 else 8) (fun i hi=>by
  have e1:agO ((i:Int)<((agG a.aq):Int))=agJ:=aD (by omega)
  unfold kL;simp only [ay,e1,lw,ar a.aq i hi,ar a.af.be i (by omega),ar a.af.aA i (by omega),aj,aR (show i<1000000000 by omega)]
  unfold Gt;generalize a.aq[i]! =w at*;cases hb:a.af.be[i]! with
  |false=>
   simp only [UV,lw]
   by_cases hw:w= -1
   · rw [bn hw]
     exact ⟨fun h=>absurd ⟨fun h=>(by cases h),fun _=>hw⟩ h,fun _=>rfl⟩
   rw [cK hw]
   exact ⟨fun _=>rfl,fun h=>absurd ((ut.1 h).2 trivial) hw⟩
  |true=>
   simp only [ww,ol]
   by_cases b1:w<0
   · rw [aD b1]
     exact ⟨fun _=>rfl,fun h=>absurd ((ut.1 h).1 trivial).1 (by omega)⟩
   by_cases b2:((agG a.bv):Int)<=w
   · rw [aC b1,aD b2]
     exact ⟨fun _=>rfl,fun h=>absurd ((ut.1 h).1 trivial).2.1 (by omega)⟩
   rw [aC b1,aC b2];simp only [ol,dG (l:=a.bv) (i:=w) (by omega) (by omega),aj]
   by_cases b3:(a.bv[w.toNat]!).2.2.2.1=i
   · by_cases b4:(a.bv[w.toNat]!).2.2.2.2=a.af.aA[i]!
     · rw [ei b3,ei b4]
       exact ⟨fun h=>absurd ⟨fun _=>⟨by omega,by omega,b3,b4⟩,fun h=>(by cases h)⟩ h,fun _=>rfl⟩
     rw [ei b3,dO b4]
     exact ⟨fun _=>rfl,fun h=>absurd ((ut.1 h).1 trivial).2.2.2 b4⟩
   rw [dO b3]
   exact ⟨fun _=>rfl,fun h=>absurd ((ut.1 h).1 trivial).2.2.1 b3⟩) (by
  unfold kL
  have:agO (((agG a.aq):Int)<((agG a.aq):Int))=agM:=aC (by omega)
  simp only [ay,this,ol]
  by_cases hx: ∀k,k<agG a.bv->Hv a.bv k
  · rw [pp hx];exact BY.1 hx
  rw [rc hx];exact BY.2 hx)
 by_cases hw: ∀i,i<agG a.af.aA->Gt a i
 · refine (key.2 fun i hi=>ut.2 (hw i (by omega))).trans ?_
   by_cases hx: ∀k,k<agG a.bv->Hv a.bv k
   · rw [pp hx,pp ⟨hw,hx⟩]
   rw [rc hx,rc (fun h=>hx h.2)]
 rw [rc (fun h=>hw h.1)]
 obtain ⟨i,h⟩:=EQ.1 hw;obtain ⟨hi,hx⟩:=If.1 h;exact key.1 ⟨i,by omega,hx⟩
theorem kN (a:aK) (fit:yt a):kx a=agH (if eH a then 0 else 8):=by
 have hh:=fit.hp;unfold kx;rw [uF _ fit.fr];simp only [ay]
 by_cases so:eK a.af
 case neg=>rw [rc so,rc (fun h=>so h.so)];rfl
 have hu:=so.ul;have hn:=so.n2;have hf:=so.fl;rw [pp so];simp only [aj,show ((0:Int) !=0)=agM from rfl,ol]
 by_cases wl:(agG a.aq)=agG a.af.aA
 case neg=>
  rw [cK (by omega),rc (fun h=>wl h.wl)];rfl
 rw [bn (by omega)]
 have e:aa .i64 (((agG a.af.be):Int) - ((agG a.af.bi):Int))=((agG a.af.aA-(agG a.af.bi):Nat):Int):=by rw [wi];omega
 rw [e]
 by_cases hl:(agG a.bv)+agG a.af.bi=agG a.af.aA
 case neg=>
  rw [cK (by omega),rc (fun h=>hl h.hl)];rfl
 rw [bn (by omega)]
 simp only [ol];rw [Kb a fit so wl]
 by_cases ok:eH a
 · rw [pp ok,pp ok.to]
 rw [rc ok,rc]
 intro h;exact ok (eH.of fit so wl hl h.1 h.2)
theorem Wb {x y:Ev} (hx:o4 (x.1,x.2.1)) (hy:o4 (y.1,y.2.1)):dZ x y=agH (agO (less x y)):=by
 unfold dZ less;rw [Gd hx hy];simp only [aj];generalize zE (x.1,x.2.1) (y.1,y.2.1)=c
 by_cases h1:c<0
 · simp [h1]
 by_cases h2:c=0
 · subst h2;simp
 simp only [h1,dO h2,h2,decide_false,ol,false_or,false_and]
theorem Rg {s:bc} (ok:eK s) (h:Int×Int):sQ s h=agH (agO (tU s h)):=by
 have hu:=ok.ul;unfold sQ tU;simp only [ay]
 by_cases a1:0<=h.1
 · by_cases a2:h.1<agG s.aA
   · simp only [a1,a2,decide_true,lw,dG (l:=s.be) a1 (by omega),dG (l:=s.aA) a1 a2,aj,true_and]
     generalize s.aA[h.1.toNat]! =u;cases s.be[h.1.toNat]!<;>simp [Rb]
   simp [a1,a2]
 simp [a1]
theorem SW (a:aK) (so:eK a.af):rS a=agH (agO (agG a.aq=agG a.af.aA/\agG a.bv+agG a.af.bi=agG a.af.aA/\ ∀i,i<agG a.af.aA->Gt a i)):=by
 have hu:=so.ul;have hn:=so.n2;have hf:=so.fl;unfold rS;simp only [ay]
 by_cases wl:(agG a.aq)=agG a.af.aA
 case neg=>
  rw [cK (by omega),aC (fun h=>wl h.1)];rfl
 rw [bn (by omega)]
 have e:aa .i64 (((agG a.af.aA):Int) - ((agG a.af.bi):Int))=((agG a.af.aA-(agG a.af.bi):Nat):Int):=by rw [wi];omega
 rw [e]
 by_cases hl:(agG a.bv)+agG a.af.bi=agG a.af.aA
 case neg=>
  rw [cK (by omega),aC (fun h=>hl h.2.1)];rfl
 rw [bn (by omega)]
 simp only [ol];have key:=dh (body:=mR) (fun i=>(((agG a.af.aA):Int),(i:Int),a.af.aA,a.af.be,a.af.bi,a.bv,a.aq)) (agG a.af.aA) (fun i=> ¬Gt a i) (r:=agM) (e:=agJ) (fun i hi=>by
  have e1:agO ((i:Int)<((agG a.af.aA):Int))=agJ:=aD (by omega)
  unfold mR;simp only [ay,e1,lw,ar a.aq i (by omega),ar a.af.be i (by omega),aj,aR (show i<1000000000 by omega)]
  unfold Gt;generalize a.aq[i]! =w at*;cases hb:a.af.be[i]! with
  |false=>
   simp only [UV,lw]
   by_cases hw:w= -1
   · rw [bn hw]
     exact ⟨fun h=>absurd ⟨fun h=>(by cases h),fun _=>hw⟩ h,fun _=>rfl⟩
   rw [cK hw]
   exact ⟨fun _=>rfl,fun h=>absurd ((ut.1 h).2 trivial) hw⟩
  |true=>
   simp only [ww,ol]
   by_cases b1:w<0
   · rw [aD b1]
     exact ⟨fun _=>rfl,fun h=>absurd ((ut.1 h).1 trivial).1 (by omega)⟩
   by_cases b2:((agG a.bv):Int)<=w
   · rw [aC b1,aD b2]
     exact ⟨fun _=>rfl,fun h=>absurd ((ut.1 h).1 trivial).2.1 (by omega)⟩
   rw [aC b1,aC b2];simp only [ol,dG (l:=a.bv) (i:=w) (by omega) (by omega),aj]
   by_cases b3:(a.bv[w.toNat]!).2.2.2.1=i
   · rw [bn b3]
     simp only [ol];rw [Rg (s:=⟨a.af.aA,a.af.be,a.af.bi⟩) so];have lv:tU ⟨a.af.aA,a.af.be,a.af.bi⟩ (a.bv[w.toNat]!).2.2.2↔(a.bv[w.toNat]!).2.2.2.2=a.af.aA[i]!:=by
      unfold tU;dsimp only;rw [b3];constructor
      · intro h;exact h.2.2.2.symm
      intro h;exact ⟨by omega,by omega,by rw [AC];exact hb,by rw [AC];exact h.symm⟩
     simp only [aj,lv]
     by_cases b4:(a.bv[w.toNat]!).2.2.2.2=a.af.aA[i]!
     · rw [aD b4]
       exact ⟨fun h=>absurd ⟨fun _=>⟨by omega,by omega,b3,b4⟩,fun h=>(by cases h)⟩ h,fun _=>rfl⟩
     rw [aC b4]
     exact ⟨fun _=>rfl,fun h=>absurd ((ut.1 h).1 trivial).2.2.2 b4⟩
   rw [cK b3]
   exact ⟨fun _=>rfl,fun h=>absurd ((ut.1 h).1 trivial).2.2.1 b3⟩) (by
  unfold mR
  have:agO (((agG a.af.aA):Int)<((agG a.af.aA):Int))=agM:=aC (by omega)
  simp only [this,ol])
 by_cases hw: ∀i,i<agG a.af.aA->Gt a i
 · rw [aD ⟨wl,hl,hw⟩]
   exact key.2 fun i hi=>ut.2 (hw i hi)
 rw [aC (fun h=>hw h.2.2)]
 obtain ⟨i,h⟩:=EQ.1 hw;obtain ⟨hi,hx⟩:=If.1 h;exact key.1 ⟨i,hi,hx⟩
theorem MN (H:List Ev) (u fr W:List Int) (us:List Bool) (k:Nat) (hk:k<agG H) (hl:(agG H)<=1000000) (x:Ev):
 ((∃j,j<k/\(H[j]!).2.2.1=x.2.2.1)->az jO ((k:Int),0,u,us,fr,H,W,x)=agH (.done 8))/\
 ((∀j,j<k-> ¬(H[j]!).2.2.1=x.2.2.1)->az jO ((k:Int),0,u,us,fr,H,W,x)=agH (.next (((k+1:Nat):Int),u,us,fr,H,W))):=by
 refine dh (body:=jO) (fun j=>((k:Int),(j:Int),u,us,fr,H,W,x)) k (fun j=>(H[j]!).2.2.1=x.2.2.1) (r:= .done 8) (e:= .next (((k+1:Nat):Int),u,us,fr,H,W)) (fun j hj=>?_) ?_
 · have e1:agO ((j:Int)<(k:Int))=agJ:=aD (by omega)
   unfold jO;simp only [e1,lw,ar H j (by omega),aj,aR (show j<1000000000 by omega)]
   constructor
   · intro h;rw [ei h];rfl
   intro h;rw [dO h];rfl
 unfold jO
 have:agO ((k:Int)<(k:Int))=agM:=aC (by omega)
 simp only [this,ol,aR (show k<1000000000 by omega)]
theorem MO (H:List Ev) (u fr W:List Int) (us:List Bool) (hl:(agG H)<=1000000) (yu: ∀w,w<agG H->o4 ((H[w]!).1,(H[w]!).2.1)):
 az jP (1,u,us,fr,H,W)=agH (.done (if∀k,0<k->k<agG H-> ¬less H[k]! H[(k-1) / 2]! then 0 else 8)):=by
 by_cases h0:(agG H)=0
 · rw [pp (fun k _ hk=>by omega)]
   refine aH ?_;unfold jP
   have:agO ((1:Int)<((agG H):Int))=agM:=aC (by omega)
   simp only [ay,this,ol]
 have key:=dh (body:=jP) (fun i=>(((i+1:Nat):Int),u,us,fr,H,W)) (agG H-1) (fun i=>less H[i+1]! H[i / 2]!) (r:= .done 8) (e:= .done 0) (fun i hi=>by
  have e1:agO (((i+1:Nat):Int)<((agG H):Int))=agJ:=aD (by omega)
  unfold jP;simp only [ay,e1,lw,rj (show i<1000000000 by omega),ar H (i+1) (by omega),ar H (i / 2) (by omega),aj,Wb (yu (i+1) (by omega)) (yu (i / 2) (by omega)),aR (show i+1<1000000000 by omega)]
  constructor
  · intro h;rw [aD h];rfl
  · intro h;rw [aC h];rfl) (by
  unfold jP
  have:agO (((agG H-1+1:Nat):Int)<((agG H):Int))=agM:=aC (by omega)
  simp only [ay,this,ol])
 by_cases ho: ∀k,0<k->k<agG H-> ¬less H[k]! H[(k-1) / 2]!
 · rw [pp ho]
   refine key.2 fun i hi hc=>ho (i+1) (by omega) (by omega) ?_
   rwa [show (i+1-1) / 2=i / 2 by omega]
 rw [rc ho]
 obtain ⟨k,h⟩:=EQ.1 ho;obtain ⟨k0,h⟩:=If.1 h;obtain ⟨hk,hx⟩:=If.1 h;refine key.1 ⟨k-1,by omega,?_⟩
 rw [show k-1+1=k by omega]
 exact ut.1 hx
def Kc (H:List Ev) (k:Nat):Prop:=cC ((H[k]!).1,(H[k]!).2.1)/\0<=(H[k]!).2.2.1/\(H[k]!).2.2.1<=1000000/\(∀j,j<k-> ¬(H[j]!).2.2.1=(H[k]!).2.2.1)
theorem yv (a:aK) (fit:yt a):qL a=agH (if eH a then 0 else 8):=by
 have hh:=fit.hp;unfold qL;rw [Gs _ fit.fr]
 by_cases so:eK a.af
 case neg=>rw [rc so,rc (fun h=>so h.so)];rfl
 rw [pp so];simp only [aj,show ((0:Int) !=0)=agM from rfl,ol,SW a so]
 by_cases pl:(agG a.aq)=agG a.af.aA/\agG a.bv+agG a.af.bi=agG a.af.aA/\ ∀i,i<agG a.af.aA->Gt a i
 case neg=>
  rw [aC pl,rc (fun h=>pl ⟨h.wl,h.hl,h.to.1⟩)];rfl
 rw [aD pl];obtain ⟨wl,hl,hw⟩:=pl;simp only [ww,ol];have key:=dh (body:=oD) (fun k=>((k:Int),a.af.aA,a.af.be,a.af.bi,a.bv,a.aq)) (agG a.bv) (fun k=> ¬Kc a.bv k) (r:=8) (e:=if∀k,0<k->k<agG a.bv-> ¬less a.bv[k]! a.bv[(k-1) / 2]! then 0 else 8) (fun k hk=>by
  have e1:agO ((k:Int)<((agG a.bv):Int))=agJ:=aD (by omega)
  have l1:=MN a.bv a.af.aA a.af.bi a.aq a.af.be k hk hh a.bv[k]!;unfold oD;simp only [ay,e1,lw,ar a.bv k hk,aj,yo (fit.Ph k hk)];unfold Kc
  by_cases b1:cC ((a.bv[k]!).1,(a.bv[k]!).2.1)
  case neg=>
   rw [rc b1];exact ⟨fun _=>rfl,fun h=>absurd (ut.1 h).1 b1⟩
  rw [pp b1]
  by_cases b2:(a.bv[k]!).2.2.1<0
  · rw [aD b2]
    exact ⟨fun _=>rfl,fun h=>absurd (ut.1 h).2.1 (by omega)⟩
  by_cases b3:1000000<(a.bv[k]!).2.2.1
  · rw [aC b2,aD b3]
    exact ⟨fun _=>rfl,fun h=>absurd (ut.1 h).2.2.1 (by omega)⟩
  rw [aC b2,aC b3];simp only [show ((0:Int) !=0)=agM from rfl,ol]
  by_cases b4: ∃j,j<k/\(a.bv[j]!).2.2.1=(a.bv[k]!).2.2.1
  · refine ⟨fun _=>l1.1 b4,fun h=>?_⟩
    obtain ⟨j,j1,j2⟩:=b4;exact absurd j2 ((ut.1 h).2.2.2 j j1)
  · have b4': ∀j,j<k-> ¬(a.bv[j]!).2.2.1=(a.bv[k]!).2.2.1:=fun j h1 h2=>b4 ⟨j,h1,h2⟩
    exact ⟨fun h=>absurd ⟨b1,by omega,by omega,b4'⟩ h,fun _=>l1.2 b4'⟩) (by
  unfold oD
  have:agO (((agG a.bv):Int)<((agG a.bv):Int))=agM:=aC (by omega)
  simp only [ay,this,ol];exact MO a.bv _ _ _ _ hh fit.Ph)
 have same:eH a↔(∀k,k<agG a.bv->Kc a.bv k)/\ ∀k,0<k->k<agG a.bv-> ¬less a.bv[k]! a.bv[(k-1) / 2]!:=by
  constructor
  · intro ok
    refine ⟨fun k hk=>?_,ok.ord⟩
    have:=ok.to.2 k hk
    exact ⟨this.1,this.2.1,this.2.2.1,this.2.2.2.1⟩
  rintro ⟨h1,h2⟩
  refine eH.of fit so wl hl hw fun k hk=>?_
  obtain ⟨c1,c2,c3,c4⟩:=h1 k hk;refine ⟨c1,c2,c3,c4,fun k0=>?_⟩
  unfold Pj;rw [pp ⟨c1,(h1 ((k-1) / 2) (by omega)).1⟩,B0]
  exact h2 k k0 hk
 by_cases he: ∀k,k<agG a.bv->Kc a.bv k
 · refine (key.2 fun i hi=>ut.2 (he i hi)).trans ?_
   by_cases ho: ∀k,0<k->k<agG a.bv-> ¬less a.bv[k]! a.bv[(k-1) / 2]!
   · rw [pp ho,pp (same.2 ⟨he,ho⟩)]
   rw [rc ho,rc (fun h=>ho (same.1 h).2)]
 rw [rc (fun h=>he (same.1 h).1)]
 obtain ⟨i,h⟩:=EQ.1 he;obtain ⟨hi,hx⟩:=If.1 h;exact key.1 ⟨i,hi,hx⟩
theorem Ab {l:List Ev} {n:Nat} {e:Ev} (hn:n<=agG l):e∈l.take n↔ ∃w,w<n/\l[w]! =e:=by
 rw [cf];constructor
 · rintro ⟨i,h1,_,h3⟩;exact ⟨i,h1,h3⟩
 rintro ⟨i,h1,h3⟩;exact ⟨i,h1,by omega,h3⟩
theorem af0 {s:bc} (so:eK s) {n:Nat} {H:List Ev} {W:List Int} (E:Ev->Prop) (hn:n<=agG H) (wl:(agG W)=agG s.aA) (hl:n+agG s.bi=agG s.aA)
 (ix: ∀w,w<n->0<=(H[w]!).ix/\(H[w]!).ix<agG W/\W[(H[w]!).n]! =(w:Int)) (mem: ∀e,(∃w,w<n/\H[w]! =e)↔E e) (ord: ∀k,0<k->k<n-> ¬less H[k]! H[(k-1) / 2]!)
 (ue: ∀i,i<agG s.aA->s.be[i]! =agJ-> ∃e:Ev,E e/\e.ix=i/\e.2.2.2.2=s.aA[i]!) (un: ∀i,i<agG s.aA->s.be[i]! =agM->W[i]! = -1)
 (ev: ∀e,E e->pE e) (A2: ∀e f:Ev,E e->E f->e.num=f.num->e.ix=f.ix):eH ⟨s,H.take n,W⟩:=by
 have len:(H.take n).length=n:=by rw [F0s];omega
 have cell: ∀w,w<n->(H.take n)[w]! =H[w]!:=fun w hw=>iN hw
 refine ⟨so,wl,by show (H.take n).length+_=_;rw [len];exact hl,?_,un,?_,?_,?_⟩
 · intro i hi hu
   dsimp only at hi hu ⊢;rw [len];obtain ⟨e,he,e1,e2⟩:=ue i hi hu;obtain ⟨w,hw,rfl⟩:=(mem e).2 he;obtain ⟨a1,a2,a3⟩:=ix w hw;have hn':(H[w]!).n=i:=by show ((H[w]!).ix).toNat=i;omega
   rw [hn'] at a3;rw [a3,AC,cell w hw];exact ⟨by omega,by omega,e1,e2⟩
 · intro w hw
   dsimp only at hw ⊢;rw [len] at hw;rw [cell w hw];exact ev _ ((mem _).1 ⟨w,hw,rfl⟩)
 · intro v w hv hw
   dsimp only at hw ⊢;rw [len] at hw;rw [cell v (by omega),cell w hw]
   intro hc
   have:=A2 _ _ ((mem _).1 ⟨v,by omega,rfl⟩) ((mem _).1 ⟨w,hw,rfl⟩) hc
   obtain ⟨a1,a2,a3⟩:=ix v (by omega)
   obtain ⟨b1,b2,b3⟩:=ix w hw;have hn':(H[v]!).n=(H[w]!).n:=by show ((H[v]!).ix).toNat=((H[w]!).ix).toNat;rw [this]
   rw [hn'] at a3;omega
 intro k k0 hk
 dsimp only at hk ⊢;rw [len] at hk;rw [cell k hk,cell _ (by omega)]
 exact ord k k0 hk
theorem uI {s:bc} (so:eK s) {n:Nat} {x:Ev} {M:Ev->Prop} {K:Nat->Prop} {H H1:List Ev} {W W1:List Int} (st:zn n x M K H W H1 W1) (hn:n<=agG H) (wl:(agG W)=agG s.aA) (hl:n+agG s.bi=agG s.aA)
 (ue: ∀i,i<agG s.aA->s.be[i]! =agJ-> ∃e:Ev,(e=x\/M e)/\e.ix=i/\e.2.2.2.2=s.aA[i]!) (un: ∀i,i<agG s.aA->s.be[i]! =agM->K i/\W[i]! = -1)
 (ev: ∀e,(e=x\/M e)->pE e) (A2: ∀e f:Ev,(e=x\/M e)->(f=x\/M f)->e.num=f.num->e.ix=f.ix):eH ⟨s,H1.take n,W1⟩:=by
 refine af0 so (fun e=>e=x\/M e) (by rw [st.hl];exact hn) (by rw [st.wl];exact wl) hl (by rw [st.wl];exact st.ix) st.mem st.ord ue ?_ ev A2
 intro i hi hu;rw [st.out i (un i hi hu).1];exact (un i hi hu).2
theorem eH.bd {a:aK} (ok:eH a):(agG a.bv)<=200/\agG a.aq<=200:=by
 have:=ok.hl;have:=ok.wl;have:=ok.so.n2
 omega
theorem eH.cells {a:aK} (ok:eH a):lU (agG a.bv) a.bv a.aq:=by
 have:=ok.bd
 refine ⟨Do _,by omega,fun w hw=>?_⟩
 obtain ⟨b1,b2,b3,b4,b5⟩:=ok.back hw;exact ⟨ok.ev w hw,b1,by rw [ok.wl];exact b2⟩
theorem eH.inj {a:aK} (ok:eH a) {v w:Nat} (hv:v<agG a.bv) (hw:w<agG a.bv) (h:Ev.ix a.bv[v]! =Ev.ix a.bv[w]!):v=w:=by
 have h1:=(ok.back hv).2.2.2.2;have h2:=(ok.back hw).2.2.2.2
 have:Ev.n a.bv[v]! =Ev.n a.bv[w]!:=by show (Ev.ix a.bv[v]!).toNat=(Ev.ix a.bv[w]!).toNat;rw [h]
 rw [this] at h1;omega
theorem eH.MI {a:aK} (ok:eH a) {i k:Nat} (i0:0<i) (k0:0<k) (hk:k<agG a.bv) (hp:(k-1) / 2=i): ¬less a.bv[k]! a.bv[(i-1) / 2]!:=by
 have h1:=ok.ord k k0 hk;rw [hp] at h1;exact zm (ok.ev _ (by omega)).den (ok.ev _ (by omega)).den (ok.ev _ hk).den (ok.ord i i0 (by omega)) h1
theorem eH.live {a:aK} (ok:eH a) {h:Int×Int} (lv:tU a.af h): ∃i,i<agG a.bv/\a.aq[h.1.toNat]! =(i:Int)/\(a.bv[i]!).2.2.2=h:=by
 obtain ⟨l1,l2,l3,l4⟩:=lv;obtain ⟨f1,f2,f3,f4⟩:=ok.fwd h.1.toNat (by omega) l3
 refine ⟨(a.aq[h.1.toNat]!).toNat,by omega,by omega,?_⟩
 have e1:(a.bv[(a.aq[h.1.toNat]!).toNat]!).2.2.2.1=h.1:=by
  have:Ev.ix a.bv[(a.aq[h.1.toNat]!).toNat]! =(h.1.toNat:Int):=f3
  have h2:Ev.ix a.bv[(a.aq[h.1.toNat]!).toNat]! =(a.bv[(a.aq[h.1.toNat]!).toNat]!).2.2.2.1:=rfl;omega
 exact NE e1 (by rw [f4,l4])
theorem eH.handle {a:aK} (ok:eH a) {i:Nat} (hi:i<agG a.bv):tU a.af (a.bv[i]!).2.2.2/\a.aq[((a.bv[i]!).2.2.2.1).toNat]! =(i:Int):=by
 obtain ⟨b1,b2,b3,b4,b5⟩:=ok.back hi;exact ⟨⟨b1,b2,b3,b4⟩,b5⟩
theorem eH.EA {a:aK} (ok:eH a) {i:Nat} (hi:i<agG a.af.aA) (hu:a.af.be[i]! =agJ): ∃w,w<agG a.bv/\Ev.ix a.bv[w]! =i/\(a.bv[w]!).2.2.2.2=a.af.aA[i]!:=by
 obtain ⟨f1,f2,f3,f4⟩:=ok.fwd i hi hu;exact ⟨(a.aq[i]!).toNat,by omega,f3,f4⟩
theorem eH.Iu {a:aK} (ok:eH a) {i:Nat} (hu:a.af.be[i]! =agM) {w:Nat} (hw:w<agG a.bv):Ev.n a.bv[w]!≠i:=by
 intro h
 have:=(ok.back hw).2.2.1
 rw [h,hu] at this;cases this
theorem eH.A2 {a:aK} (ok:eH a) {v w:Nat} (hv:v<agG a.bv) (hw:w<agG a.bv) (h:Ev.num a.bv[v]! =Ev.num a.bv[w]!):v=w:=by
 rcases af5 v w with h1|h1|h1
 · exact absurd h (ok.nd v w h1 hw)
 · exact h1
 exact absurd h.symm (ok.nd w v h1 hv)
theorem eQ {α:Type} [Inhabited α] {l:List α} {k:Nat} {v:α} (h:l[k]! =v):l.set k v=l:=by
 by_cases hk:k<agG l
 · apply qP (by rw [v6])
   intro i hi;rw [aU];split
   · rename_i e;rw [e.1];exact h.symm
   rfl
 exact af6 (by omega)
def pF (x:Ev) (t:Int×Int):Ev:=(t.1,t.2,x.2.2)
noncomputable def jA (a:aK) (i:Nat) (t:Int×Int):aK:=⟨a.af,(cE (agG a.bv) (pF a.bv[i]! t) i a.bv a.aq).1,(cE (agG a.bv) (pF a.bv[i]! t) i a.bv a.aq).2⟩
theorem Gu {a:aK} (ok:eH a) {i:Nat} (hi:i<agG a.bv) {t:Int×Int} (ht:cC t) (h64:o4 t):pE (pF a.bv[i]! t):=by
 have:=ok.ev i hi
 exact ⟨ht,h64,this.2.2.1,this.2.2.2⟩
theorem Gv {a:aK} (ok:eH a) {i:Nat} (hi:i<agG a.bv) (t:Int×Int):AZ (agG a.bv) (pF a.bv[i]! t) (fun e=> ∃w,w<agG a.bv/\w≠i/\a.bv[w]! =e) a.bv a.aq i:=by
 obtain ⟨b1,b2,b3,b4,b5⟩:=ok.back hi;refine ⟨hi,Do _,fun w hw J8=>?_,b1,by rw [ok.wl];exact b2,fun e=>afa⟩
 obtain ⟨c1,c2,c3,c4,c5⟩:=ok.back hw;exact ⟨c1,by rw [ok.wl];exact c2,c5,fun h=>J8 (ok.inj hw hi h)⟩
theorem Iv {a:aK} (ok:eH a) (i:Nat):Ord (agG a.bv) a.bv i:=
 ⟨fun w hw=>(ok.ev w hw).den,fun k k0 hk _ _=>ok.ord k k0 hk,fun i0 _k k0 hk hp=>ok.MI i0 k0 hk hp⟩
theorem mI {a:aK} (ok:eH a) {i:Nat} (hi:i<agG a.bv) {t:Int×Int} (ht:cC t):
 zn (agG a.bv) (pF a.bv[i]! t) (fun e=> ∃w,w<agG a.bv/\w≠i/\a.bv[w]! =e) (fun k=>k≠Ev.n (pF a.bv[i]! t)/\ ∀w,w<agG a.bv->w≠i->Ev.n a.bv[w]!≠k) a.bv a.aq (jA a i t).bv (jA a i t).aq:=
 yq (x:=pF a.bv[i]! t) ht.1 (Gv ok hi t) (Iv ok i)
theorem C8 {a:aK} (ok:eH a) {i:Nat} (hi:i<agG a.bv) {t:Int×Int} (ht:cC t):(jA a i t).bv.length=agG a.bv/\(jA a i t).aq.length=(agG a.aq):=
 ⟨(mI ok hi ht).hl,(mI ok hi ht).wl⟩
theorem SX {a:aK} (ok:eH a) {i:Nat} (hi:i<agG a.bv) {t:Int×Int} (ht:cC t) (e:Ev):e∈(jA a i t).bv↔(e=pF a.bv[i]! t\/(e∈a.bv/\e≠a.bv[i]!)):=by
 have st:=mI ok hi ht;have h1:e∈(jA a i t).bv↔ ∃w,w<agG a.bv/\((jA a i t).bv)[w]! =e:=by
  rw [aS,(C8 ok hi ht).1]
 rw [h1];refine (st.mem e).trans ?_;constructor
 · rintro (h|⟨w,hw,J8,rfl⟩)
   · exact .inl h
   exact .inr ⟨aX hw,fun h=>J8 (ok.inj hw hi (by rw [h]))⟩
 rintro (h|⟨h,dW⟩)
 · exact .inl h
 obtain ⟨w,hw,rfl⟩:=aS.1 h
 exact .inr ⟨w,hw,fun h=>dW (by rw [h]),rfl⟩
theorem Wc {a:aK} (ok:eH a) {i:Nat} (hi:i<agG a.bv) {t:Int×Int} (ht:cC t) (h64:o4 t):eH (jA a i t):=by
 have st:=mI ok hi ht;have len:=(C8 ok hi ht).1;have hx:Ev.ix (pF a.bv[i]! t)=Ev.ix a.bv[i]!:=rfl;have key:=uI ok.so st (Do _) ok.wl ok.hl (fun j hj hu=>by
  obtain ⟨w,hw,e1,e2⟩:=ok.EA hj hu
  by_cases e:w=i
  · subst e;exact ⟨pF a.bv[w]! t,.inl rfl,e1,e2⟩
  · exact ⟨a.bv[w]!,.inr ⟨w,hw,e,rfl⟩,e1,e2⟩) (fun j hj hu=>⟨⟨(ok.Iu hu hi).symm,fun w hw _=>ok.Iu hu hw⟩,ok.un j hj hu⟩) (by
  rintro e (rfl|⟨w,hw,_,rfl⟩)
  · exact Gu ok hi ht h64
  · exact ok.ev w hw) (by
  rintro e f (rfl|⟨v,hv,hvi,rfl⟩) (rfl|⟨w,hw,J8,rfl⟩) he
  · rfl
  · exact absurd (ok.A2 hi hw he).symm J8
  · exact absurd (ok.A2 hv hi he) hvi
  rw [ok.A2 hv hw he])
 have:(jA a i t).bv.take (agG a.bv)=(jA a i t).bv:=IR (by rw [len];exact Do _)
 show eH ⟨a.af,(jA a i t).bv,(jA a i t).aq⟩;rw [<- this];exact key
theorem MP {a:aK} (ok:eH a) (fit:yt a) {h:Int×Int} {i:Nat} (hi:i<agG a.bv) (hh:(a.bv[i]!).2.2.2=h):oA a h=agH ((i:Int),0):=by
 obtain ⟨lv,wv⟩:=ok.handle hi;rw [hh] at lv;unfold oA;rw [kN a fit,pp ok];simp only [aj,show ((0:Int) !=0)=agM from rfl,ol,DM ok.so,aD lv,ww]
 have:=lv.2.1;have:=lv.1;have:=ok.wl
 have e:(a.bv[i]!).2.2.2.1=h.1:=by rw [hh]
 rw [dG (l:=a.aq) lv.1 (by omega),<- e,wv]
 rfl
theorem D8 {a:aK} (ok:eH a) (fit:yt a) {h t:Int×Int} {i:Nat} (hi:i<agG a.bv) (hh:(a.bv[i]!).2.2.2=h) (ht:cC t) (h64:o4 t):rR a h t=agH (jA a i t,0):=by
 have bd:=ok.bd;obtain ⟨b1,b2,b3,b4,b5⟩:=ok.back hi;unfold rR;rw [kN a fit,pp ok,fN h64,pp ht];have pl:=MP ok fit hi hh;have se:=Gn (u:=a.af.aA) (us:=a.af.be) (fr:=a.af.bi) (Gu ok hi ht h64) (show 0<=Ev.ix (pF a.bv[i]! t) from b1) ok.cells rfl hi (show Ev.ix (pF a.bv[i]! t)<(agG a.aq) by rw [ok.wl];exact b2)
 have se':eG (a.af.aA,a.af.be,a.af.bi,(i:Int),t.1,t.2,(a.bv[i]!).2.2.1,(a.bv[i]!).2.2.2.1,(a.bv[i]!).2.2.2.2,a.bv,a.aq)=agH (cE (agG a.bv) (pF a.bv[i]! t) i a.bv a.aq):=se
 simp only [aj,gt_iff_lt,afj,if_false,show ((0:Int) !=0)=agM from rfl,ol,pl,aZ (show (agG a.bv)<=1048576 by omega),aZ (show (agG a.aq)<=1048576 by omega),ar a.bv i hi,se']
 rfl
theorem qh {a:aK} (ok:eH a):lI a=agH a:=by
 have bd:=ok.bd;unfold lI;simp only [uG ok.so,aj,aZ (show (agG a.bv)<=1048576 by omega),aZ (show (agG a.aq)<=1048576 by omega)]
theorem C9 {a:aK} (ok:eH a) {h t:Int×Int} {i:Nat} (hi:i<agG a.bv) (hh:(a.bv[i]!).2.2.2=h) (ht:cC t) (h64:o4 t):pY a h t=agH (jA a i t):=by
 have bd:=ok.bd;obtain ⟨b1,b2,b3,b4,b5⟩:=ok.back hi;obtain ⟨lv,wv⟩:=ok.handle hi;have hx:=Gu ok hi ht h64;have x1:Ev.ix (pF a.bv[i]! t)<(agG a.aq):=by rw [ok.wl];exact b2
 have st:=mI ok hi ht;obtain ⟨j,H1,W1,e1,e3,e4,e5,e6,e7,e8,e9,e10⟩:=Ex (x:=pF a.bv[i]! t) ht.1 i a.bv a.aq (Gv ok hi t) (Iv ok i);have w1:a.aq.set (Ev.n (pF a.bv[i]! t)) (i:Int)=a.aq:=eQ b5;unfold pY;rw [qh ok];have g1:aI a.aq h.1=agH (i:Int):=by
  have e:(a.bv[i]!).2.2.2.1=h.1:=by rw [hh]
  rw [dG (l:=a.aq) (i:=h.1) (by rw [<- e];exact b1) (by rw [<- e,ok.wl];exact b2),<- e,wv]
 have u1:oo ((i:Int),a.af.aA,a.af.be,a.af.bi,a.bv.set i (pF a.bv[i]! t),a.aq)=agH ((j:Int),a.af.aA,a.af.be,a.af.bi,H1.set j (pF a.bv[i]! t),W1.set (Ev.n (pF a.bv[i]! t)) (j:Int)):=by
  unfold oo
  have:=V9 (c0:=((i:Int),a.af.aA,a.af.be,a.af.bi,a.bv.set i (pF a.bv[i]! t),a.aq)) (u:=a.af.aA) (us:=a.af.be) (fr:=a.af.bi) hx b1 rfl rfl rfl i a.bv a.aq ok.cells hi rfl x1 v6 rfl
  rw [w1,e1] at this;exact this
 have Pk:lU (agG a.bv) H1 W1:=by
  refine ⟨by rw [e5];exact Do _,by omega,fun w hw=>?_⟩
  exact ⟨(yr ok.cells hi e1 w hw).1,(yr ok.cells hi e1 w hw).2.1,by rw [e6];exact (yr ok.cells hi e1 w hw).2.2⟩
 have d1:mc ((j:Int),a.af.aA,a.af.be,a.af.bi,H1.set j (pF a.bv[i]! t),W1.set (Ev.n (pF a.bv[i]! t)) (j:Int))=agH (a.af.aA,a.af.be,a.af.bi,(cE (agG a.bv) (pF a.bv[i]! t) i a.bv a.aq).1,(cE (agG a.bv) (pF a.bv[i]! t) i a.bv a.aq).2):=by
  unfold mc
  have:=ML (c0:=((j:Int),a.af.aA,a.af.be,a.af.bi,H1.set j (pF a.bv[i]! t),W1.set (Ev.n (pF a.bv[i]! t)) (j:Int))) (n:=agG a.bv) (u:=a.af.aA) (us:=a.af.be) (fr:=a.af.bi) hx b1 rfl rfl rfl (agG a.bv) j H1 W1 (by omega) Pk e3.lt e5 (by rw [e6];exact x1) v6 v6
  rw [this];unfold cE;rw [e1]
 have s1:bZ a.bv (i:Int) (t.1,t.2,(a.bv[i]!).2.2)=a.bv.set i (pF a.bv[i]! t):=rfl;simp only [aj,g1,ar a.bv i hi,s1,u1,d1];rfl
theorem Iw (H:List Ev) (n:Int) (hl:(agG H)<=1000000):cQ H n=agH (agO (∃w,w<agG H/\(H[w]!).2.2.1=n)):=by
 unfold cQ eE;have key:=hO (body:=cP) (fun i=>(H,n,((agG H):Int),(i:Int))) (agG H) (fun i=>(H[i]!).2.2.1=n) (fun i=>(i:Int)) (e:= -1) (fun i hi=>by
  have e1:agO ((i:Int)<((agG H):Int))=agJ:=aD (by omega)
  unfold cP uD;simp only [e1,lw,ar H i hi,aj,aR (show i<1000000000 by omega)]
  constructor
  · intro h;rw [ei h];rfl
  · intro h;rw [dO h];rfl) (by
  unfold cP
  have:agO (((agG H):Int)<((agG H):Int))=agM:=aC (by omega)
  simp only [this,ol])
 rw [ay]
 by_cases hx: ∃w,w<agG H/\(H[w]!).2.2.1=n
 · obtain ⟨k,h1,h2,h3⟩:=least hx
   have:=key.1 k h1 h2 h3
   rw [show ((0:Nat):Int)=0 from rfl] at this;rw [this,aD hx];simp only [aj,aD (show (0:Int)<=(k:Int) by omega)]
 have:=key.2 fun i hi he=>hx ⟨i,hi,he⟩
 rw [show ((0:Nat):Int)=0 from rfl] at this;rw [this,aC hx];rfl
noncomputable def dp (a:aK) (t:Int×Int) (n:Int):Ev:=(t.1,t.2,n,kC a.af)
noncomputable def kD (a:aK) (t:Int×Int) (n:Int):aK:=
 ⟨gr a.af,(cE (agG a.bv+1) (dp a t n) (agG a.bv) (a.bv++[dp a t n]) a.aq).1,(cE (agG a.bv+1) (dp a t n) (agG a.bv) (a.bv++[dp a t n]) a.aq).2⟩
section
variable {a : aK} (ok : eH a) (op : xn a.af) {t : Int × Int} (ht : cC t) (h64 : o4 t) {n : Int} (n0 : 0 <= n) (n1 : n <= 1000000)
include ok op
theorem B2:Ev.ix (dp a t n)=(cY a.af:Int)/\cY a.af<agG a.af.aA/\a.af.be[cY a.af]! =agM/\agG a.af.bi=(gr a.af).bi.length+1:=by
 obtain ⟨h1,h2,h3⟩:=zl ok.so op.1;refine ⟨rfl,h1,?_,?_⟩
 · have:=ok.so.uf (cY a.af) h1
   cases h:a.af.be[cY a.af]! with
   |false=>rfl
   |true=>exact absurd h3 (this.1 h)
 show _=(a.af.bi.take (agG a.af.bi-1)).length+1
 have:=op.1
 rw [F0s];omega
theorem Ix:AZ (agG a.bv+1) (dp a t n) (fun e=>e∈a.bv) (a.bv++[dp a t n]) a.aq (agG a.bv):=by
 obtain ⟨h1,h2,h3,h4⟩:=B2 (t:=t) (n:=n) ok op;have cell: ∀w,w<agG a.bv->(a.bv++[dp a t n])[w]! =a.bv[w]!:=fun w hw=>de hw
 refine ⟨by omega,by simp,fun w hw J8=>?_,by rw [h1];omega,by rw [h1,ok.wl];omega,fun e=>?_⟩
 · have WW:w<(agG a.bv):=by omega
   rw [cell w WW];obtain ⟨c1,c2,c3,c4,c5⟩:=ok.back WW;refine ⟨c1,by rw [ok.wl];exact c2,c5,fun h=>?_⟩
   rw [h1] at h
   have:Ev.n a.bv[w]! =cY a.af:=by show (Ev.ix a.bv[w]!).toNat=_;omega
   exact ok.Iu h3 WW this
 constructor
 · rintro ⟨w,hw,J8,rfl⟩
   rw [cell w (by omega)]
   exact aX (by omega)
 intro h
 obtain ⟨w,hw,rfl⟩:=aS.1 h;exact ⟨w,by omega,by omega,cell w hw⟩
theorem MQ (ht:cC t):Ord (agG a.bv+1) (a.bv++[dp a t n]) (agG a.bv):=by
 have _:=op;have cell: ∀w,w<agG a.bv->(a.bv++[dp a t n])[w]! =a.bv[w]!:=fun w hw=>de hw
 refine ⟨fun w hw=>?_,fun k k0 hk k1 k2=>?_,fun i0 k k0 hk hp=>by omega⟩
 · by_cases h:w<agG a.bv
   · rw [cell w h];exact (ok.ev w h).den
   have:w=(agG a.bv):=by omega
   subst this;rw [ej (Do _),afb];exact ht.1
 rw [cell k (by omega),cell _ (by omega)]
 exact ok.ord k k0 (by omega)
theorem wQ (ht:cC t):zn (agG a.bv+1) (dp a t n) (fun e=>e∈a.bv) (fun k=>k≠Ev.n (dp a t n)/\ ∀w,w<agG a.bv+1->w≠agG a.bv->Ev.n (a.bv++[dp a t n])[w]!≠k) (a.bv++[dp a t n]) a.aq (kD a t n).bv (kD a t n).aq:=
 yq (x:=dp a t n) ht.1 (Ix ok op) (MQ ok op ht)
theorem B3 (ht:cC t):(kD a t n).bv.length=agG a.bv+1:=by
 have:=(wQ (n:=n) ok op ht).hl
 rw [this];simp
theorem MR (ht:cC t) (e:Ev):e∈(kD a t n).bv↔(e=dp a t n\/e∈a.bv):=by
 have st:=wQ (n:=n) ok op ht;rw [aS,B3 ok op ht];exact st.mem e
theorem Ke (ht:cC t) (h64:o4 t) (n0:0<=n) (n1:n<=1000000):pE (dp a t n):=by
 have _:=ok;have _:=op;exact ⟨ht,h64,n0,n1⟩
theorem Rh (ht:cC t) (h64:o4 t) (n0:0<=n) (n1:n<=1000000) (nn: ∀e∈a.bv,Ev.num e≠n):eH (kD a t n):=by
 have st:=wQ (n:=n) ok op ht;have len:=B3 (n:=n) ok op ht;obtain ⟨h1,h2,h3,h4⟩:=B2 (t:=t) (n:=n) ok op;have hu:=ok.so.ul;have ul:(gr a.af).aA.length=(agG a.af.aA):=v6;have key:=uI (V5 ok.so op) st (by simp) (by rw [ul];exact ok.wl) (by rw [ul];have:=ok.hl;omega) (fun j hj Cl=>by
  rw [ul] at hj;change (a.af.be.set (cY a.af) agJ)[j]! =agJ at Cl;rw [aU] at Cl
  show∃e:Ev,_/\_/\_=(a.af.aA.set (cY a.af) (a.af.aA[cY a.af]!+1))[j]!
  rw [aU]
  by_cases e:j=cY a.af
  · rw [pp ⟨e,h2⟩]
    exact ⟨dp a t n,.inl rfl,by rw [h1,e],rfl⟩
  · rw [rc (fun k=>e k.1)]
    rw [rc (fun k=>e k.1)] at Cl
    obtain ⟨w,hw,e1,e2⟩:=ok.EA hj Cl;exact ⟨a.bv[w]!,.inr (aX hw),e1,e2⟩) (fun j hj Cl=>by
  rw [ul] at hj;change (a.af.be.set (cY a.af) agJ)[j]! =agM at Cl;rw [aU] at Cl
  by_cases e:j=cY a.af
  · rw [pp ⟨e,by omega⟩] at Cl;cases Cl
  · rw [rc (fun k=>e k.1)] at Cl
    refine ⟨⟨?_,fun w hw J8=>?_⟩,ok.un j hj Cl⟩
    · show j≠(Ev.ix (dp a t n)).toNat
      omega
    rw [de (by omega)]
    exact ok.Iu Cl (by omega)) (by
  rintro e (rfl|h)
  · exact Ke ok op ht h64 n0 n1
  · obtain ⟨w,hw,rfl⟩:=aS.1 h
    exact ok.ev w hw) (by
  rintro e f (rfl|he) (rfl|hf) hn
  · rfl
  · exact absurd hn.symm (nn f hf)
  · exact absurd hn (nn e he)
  obtain ⟨v,hv,rfl⟩:=aS.1 he
  obtain ⟨w,hw,rfl⟩:=aS.1 hf;rw [ok.A2 hv hw hn])
 have:(kD a t n).bv.take (agG a.bv+1)=(kD a t n).bv:=IR (by rw [len];exact Do _)
 show eH ⟨gr a.af,(kD a t n).bv,(kD a t n).aq⟩;rw [<- this];exact key
theorem Gw (ht:cC t) (h64:o4 t) (n0:0<=n) (n1:n<=1000000):lU (agG a.bv+1) (a.bv++[dp a t n]) a.aq:=by
 have bd:=ok.bd;obtain ⟨h1,h2,h3,h4⟩:=B2 (t:=t) (n:=n) ok op;refine ⟨by simp,by simp;omega,fun w hw=>?_⟩
 by_cases h:w<agG a.bv
 · rw [de h];exact ok.cells.ev w h
 have:w=(agG a.bv):=by omega
 subst this;rw [ej (Do _),afb];exact ⟨Ke ok op ht h64 n0 n1,by show 0<=Ev.ix (dp a t n);omega,by show Ev.ix (dp a t n)<_;rw [ok.wl];omega⟩
theorem vA (fit:yt a) (ht:cC t) (h64:o4 t) (n0:0<=n) (n1:n<=1000000) (nn: ∀e∈a.bv,Ev.num e≠n):j9 a t n=agH (kD a t n,kC a.af,0):=by
 have bd:=ok.bd;obtain ⟨h1,h2,h3,h4⟩:=B2 (t:=t) (n:=n) ok op;have hn: ¬ ∃w,w<agG a.bv/\(a.bv[w]!).2.2.1=n:=by
  rintro ⟨w,hw,e⟩;exact nn _ (aX hw) e
 unfold j9;rw [kN a fit,pp ok,fN h64,pp ht,Iw _ _ (by omega),aC hn,BZ ok.so,pp op]
 have se:=Gn (u:=(gr a.af).aA) (us:=(gr a.af).be) (fr:=(gr a.af).bi) (Ke ok op ht h64 n0 n1) (show 0<=Ev.ix (dp a t n) by omega) (Gw ok op ht h64 n0 n1) (by simp) (show (agG a.bv)<agG a.bv+1 by omega) (show Ev.ix (dp a t n)<(agG a.aq) by rw [ok.wl];omega)
 have e1:aa .i64 (((a.bv++[dp a t n]).length:Int) -1)=((agG a.bv):Int):=by rw [wi,af4];simp;omega
 have ap:bq a.bv [(t.1,t.2,n,kC a.af)]=agH (a.bv++[dp a t n]):=bT (by simp;omega)
 have se':eG ((gr a.af).aA,(gr a.af).be,(gr a.af).bi,((agG a.bv):Int),t.1,t.2,n,(kC a.af).1,(kC a.af).2,a.bv++[dp a t n],a.aq)=agH (cE (agG a.bv+1) (dp a t n) (agG a.bv) (a.bv++[dp a t n]) a.aq):=se
 simp only [aj,gt_iff_lt,afj,if_false,show ((0:Int) !=0)=agM from rfl,ol,aC (show¬n<0 by omega),aC (show¬1000000<n by omega),aZ (show (agG a.bv)<=1048576 by omega),aZ (show (agG a.aq)<=1048576 by omega),ap,ay,e1,se']
 rfl
theorem xo (ht:cC t) (h64:o4 t) (n0:0<=n) (n1:n<=1000000):eB a t n=agH (kD a t n,kC a.af):=by
 have bd:=ok.bd;obtain ⟨h1,h2,h3,h4⟩:=B2 (t:=t) (n:=n) ok op;unfold eB;rw [qh ok];have e1:aa .i64 (((a.bv++[dp a t n]).length:Int) -1)=((agG a.bv):Int):=by rw [wi,af4];simp;omega
 have ap:bq a.bv [(t.1,t.2,n,kC a.af)]=agH (a.bv++[dp a t n]):=bT (by simp;omega)
 have hx:=Ke (n:=n) ok op ht h64 n0 n1;have last:cE (agG a.bv+1) (dp a t n) (agG a.bv) (a.bv++[dp a t n]) a.aq=_:=MJ (x:=dp a t n) ht.1 (Ix ok op) (MQ ok op ht) (fun k k0 hk hp=>by omega)
 have hs:(a.bv++[dp a t n]).set (agG a.bv) (dp a t n)=a.bv++[dp a t n]:=eQ (by rw [ej (Do _),afb];rfl)
 have ws:bZ a.aq (kC a.af).1 ((agG a.bv):Int)=a.aq.set (Ev.n (dp a t n)) ((agG a.bv):Int):=rfl
 have u1:oq ((gr a.af).aA,(gr a.af).be,(gr a.af).bi,((agG a.bv):Int),a.bv++[dp a t n],a.aq.set (Ev.n (dp a t n)) ((agG a.bv):Int))=agH (((iD (dp a t n) (agG a.bv) (a.bv++[dp a t n]) a.aq).1:Int),(iD (dp a t n) (agG a.bv) (a.bv++[dp a t n]) a.aq).2.1.set (iD (dp a t n) (agG a.bv) (a.bv++[dp a t n]) a.aq).1 (dp a t n),(iD (dp a t n) (agG a.bv) (a.bv++[dp a t n]) a.aq).2.2.set (Ev.n (dp a t n)) ((iD (dp a t n) (agG a.bv) (a.bv++[dp a t n]) a.aq).1:Int)):=by
  unfold oq
  have:=Wa (c0:=((gr a.af).aA,(gr a.af).be,(gr a.af).bi,((agG a.bv):Int),a.bv++[dp a t n],a.aq.set (Ev.n (dp a t n)) ((agG a.bv):Int))) (u:=(gr a.af).aA) (us:=(gr a.af).be) (fr:=(gr a.af).bi) hx (show 0<=Ev.ix (dp a t n) by omega) (agG a.bv) (a.bv++[dp a t n]) a.aq (Gw ok op ht h64 n0 n1) (by omega) (by simp) (by rw [ok.wl];omega) rfl v6
  rw [hs] at this;exact this
 have g1:aI a.aq (kC a.af).1=agH a.aq[cY a.af]!:=ar a.aq (cY a.af) (by rw [ok.wl];exact h2)
 simp only [aj,Gj ok.so op,ap,g1,ay,e1,ws,u1];unfold kD;rw [last]
end
theorem vB {a:aK} (ok:eH a) (op: ¬xn a.af) (fit:yt a) {t:Int×Int} (ht:cC t) (h64:o4 t) {n:Int} (n0:0<=n) (n1:n<=1000000) (nn: ∀e∈a.bv,Ev.num e≠n):j9 a t n=agH (⟨⟨[],[],[]⟩,[],[]⟩,(0,0),18):=by
 have bd:=ok.bd;have hn: ¬ ∃w,w<agG a.bv/\(a.bv[w]!).2.2.1=n:=by
  rintro ⟨w,hw,e⟩;exact nn _ (aX hw) e
 unfold j9;rw [kN a fit,pp ok,fN h64,pp ht,Iw _ _ (by omega),aC hn,BZ ok.so,rc op]
 simp only [aj,gt_iff_lt,afj,if_false,show ((0:Int) !=0)=agM from rfl,ol,aC (show¬n<0 by omega),aC (show¬1000000<n by omega),show ((18:Int) !=0)=agJ from rfl,lw]
theorem tV {l:List Ev} {n i:Nat} {v:Ev}:(l.set i v).take n=(l.take n).set i v:=by
 apply List.ext_getElem?;intro j;rw [afm,afF,afF,afm,F0s]
 by_cases h1:j<n
 · rw [pp h1]
   by_cases h2:i=j
   · subst h2
     by_cases h3:i<agG l
     · rw [pp rfl,pp h3,pp rfl,pp (by omega)]
     rw [pp rfl,rc h3,pp rfl,rc (by omega)]
   rw [rc h2,rc h2,pp h1]
 rw [rc h1]
 by_cases h2:i=j
 · rw [pp h2,rc (by omega)]
 rw [rc h2,rc h1]
theorem MS {n:Nat} {x:Ev}: ∀(i:Nat) (H:List Ev) (W:List Int),i<n->iD x i (H.take n) W=((iD x i H W).1,(iD x i H W).2.1.take n,(iD x i H W).2.2)
 |0,H,W,hi=>by rw [iD,iD]
 |i+1,H,W,hi=>by
  have e:(H.take n)[i / 2]! =H[i / 2]!:=iN (by omega)
  rw [iD,iD,e]
  by_cases h:less x H[i / 2]!
  · rw [pp h,pp h,<- tV]
    exact MS (i / 2) _ _ (by omega)
  rw [rc h,rc h]
termination_by i=>i
decreasing_by omega
theorem Wd {x:Ev}: ∀(i:Nat) (H:List Ev) (W:List Int),(iD x i H W).1<=i
 |0,H,W=>by rw [iD];exact Do _
 |i+1,H,W=>by
  rw [iD];split
  · exact agr (Wd (i / 2) _ _) (by omega)
  exact Do _
termination_by i=>i
decreasing_by omega
theorem Gx {n:Nat} {H:List Ev} {i:Nat} (hk:2*i+1<n):gK n (H.take n) i=gK n H i:=by
 unfold gK
 by_cases h:2*i+2<n
 · rw [iN h,iN (show 2*i+1<n by omega)]
 rw [rc (fun k=>h k.1),rc (fun k=>h k.1)]
theorem MT {n:Nat} {x:Ev} {i:Nat} {H:List Ev} {W:List Int} (h:2*i+1<n) (hl:less H[gK n H i]! x):dL n x i H W=dL n x (gK n H i) (H.set i H[gK n H i]!) (W.set (H[gK n H i]!).n (i:Int)):=by
 rw [dL,dif_pos h,pp hl]
theorem wR {n:Nat} {x:Ev} {i:Nat} {H:List Ev} {W:List Int} (h: ¬(2*i+1<n/\less H[gK n H i]! x)):dL n x i H W=(i,H,W):=by
 rw [dL];split
 · rename_i h1;rw [rc (fun k=>h ⟨h1,k⟩)]
 rfl
theorem Gy {n : Nat} {x : Ev} : ∀ (d i : Nat) (H : List Ev) (W : List Int), n - i <= d -> dL n x i (H.take n) W = ((dL n x i H W).1, (dL n x i H W).2.1.take n, (dL n x i H W).2.2)
  | 0, i, H, W, hd => by
    rw [wR (fun h => by omega), wR (fun h => by omega)]
  | d + 1, i, H, W, hd => by
    have kc := nN n H i
    by_cases h : 2 * i + 1 < n /\ less H[gK n H i]! x
    · have e : (H.take n)[gK n (H.take n) i]! = H[gK n H i]! := by rw [Gx h.1, iN (by omega)]
      rw [MT h.1 h.2, MT (H := H.take n) h.1 (by rw [e]; exact h.2), e, Gx h.1, <- tV]
      exact Gy d _ _ _ (by omega)
    have h' : ¬ (2 * i + 1 < n /\ less (H.take n)[gK n (H.take n) i]! x) := by
      rintro ⟨k1, k2⟩
      rw [Gx k1, iN (by omega)] at k2
      exact h ⟨k1, k2⟩
    rw [wR h, wR h']
theorem Ri {x:Ev}: ∀(i:Nat) (H:List Ev) (W:List Int),(iD x i H W).2.1.length=agG H/\(iD x i H W).2.2.length=agG W
 |0,H,W=>by rw [iD];exact ⟨rfl,rfl⟩
 |i+1,H,W=>by
  rw [iD];split
  · have:=Ri (x:=x) (i / 2) (H.set (i+1) H[i / 2]!) (W.set (H[i / 2]!).n ((i+1:Nat):Int))
    rwa [v6,v6] at this
  exact ⟨rfl,rfl⟩
termination_by i=>i
decreasing_by omega
theorem B4 {n:Nat} {x:Ev} {i:Nat} {H:List Ev} {W:List Int} (hi:i<n):cE n x i (H.take n) W=((cE n x i H W).1.take n,(cE n x i H W).2):=by
 unfold cE;rw [MS i H W hi];dsimp only;rw [Gy n _ _ _ (by omega)]
 dsimp only;rw [tV]
noncomputable def eu (a:aK) (i:Nat):aK:=
 if i<agG a.bv-1 then ⟨fD a.af (a.bv[i]!).2.2.2,(cE (agG a.bv-1) a.bv[agG a.bv-1]! i a.bv (a.aq.set (Ev.n a.bv[i]!) (-1))).1.take (agG a.bv-1),(cE (agG a.bv-1) a.bv[agG a.bv-1]! i a.bv (a.aq.set (Ev.n a.bv[i]!) (-1))).2⟩
 else ⟨fD a.af (a.bv[i]!).2.2.2,a.bv.take (agG a.bv-1),a.aq.set (Ev.n a.bv[i]!) (-1)⟩
section
variable {a : aK} (ok : eH a) {i : Nat} (hi : i < (agG a.bv))
include ok hi
theorem vC {w:Nat} (hw:w<agG a.bv) (dW:w≠i):Ev.n a.bv[w]!≠Ev.n a.bv[i]!:=by
 have h1:=(ok.back hw).1;have h2:=(ok.back hi).1;exact arI h1 h2 fun h=>dW (ok.inj hw hi h)
theorem Iy:lU (agG a.bv-1) a.bv (a.aq.set (Ev.n a.bv[i]!) (-1)):=by
 have c:=ok.cells;refine ⟨by omega,c.hb,fun w hw=>?_⟩
 rw [v6];exact c.ev w (by omega)
theorem We (dI:i<agG a.bv-1):AZ (agG a.bv-1) a.bv[agG a.bv-1]! (fun e=> ∃w,w<agG a.bv-1/\w≠i/\a.bv[w]! =e) a.bv (a.aq.set (Ev.n a.bv[i]!) (-1)) i:=by
 obtain ⟨b1,b2,b3,b4,b5⟩:=ok.back (show (agG a.bv)-1<(agG a.bv) by omega)
 refine ⟨dI,by omega,fun w hw J8=>?_,b1,by rw [v6,ok.wl];exact b2,fun e=>afa⟩
 obtain ⟨c1,c2,c3,c4,c5⟩:=ok.back (show w<(agG a.bv) by omega)
 refine ⟨c1,by rw [v6,ok.wl];exact c2,?_,fun h=>?_⟩
 · rw [aU,rc (fun h=>vC ok hi (show w<(agG a.bv) by omega) J8 h.1)]
   exact c5
 have:=ok.inj (show w<(agG a.bv) by omega) (show (agG a.bv)-1<(agG a.bv) by omega) h
 omega
theorem aeG:Ord (agG a.bv-1) a.bv i:=
 ⟨fun w hw=>(ok.ev w (by omega)).den,fun k k0 hk _ _=>ok.ord k k0 (by omega),fun i0 k k0 hk hp=>ok.MI i0 k0 (by omega) hp⟩
theorem DO (dI:i<agG a.bv-1):
 zn (agG a.bv-1) a.bv[agG a.bv-1]! (fun e=> ∃w,w<agG a.bv-1/\w≠i/\a.bv[w]! =e) (fun k=>k≠Ev.n a.bv[agG a.bv-1]!/\ ∀w,w<agG a.bv-1->w≠i->Ev.n a.bv[w]!≠k) a.bv (a.aq.set (Ev.n a.bv[i]!) (-1))
  (cE (agG a.bv-1) a.bv[agG a.bv-1]! i a.bv (a.aq.set (Ev.n a.bv[i]!) (-1))).1 (cE (agG a.bv-1) a.bv[agG a.bv-1]! i a.bv (a.aq.set (Ev.n a.bv[i]!) (-1))).2:=
 yq (ok.ev (agG a.bv-1) (by omega)).den (We ok hi dI) (aeG ok hi)
theorem Iz:eK (fD a.af (a.bv[i]!).2.2.2):=V4 ok.so (ok.handle hi).1
theorem yw {j:Nat} (hj:j<agG a.af.aA):(fD a.af (a.bv[i]!).2.2.2).be[j]! =if j=Ev.n a.bv[i]! then agM else a.af.be[j]!:=by
 have _:=hi;show (a.af.be.set (Ev.n a.bv[i]!) agM)[j]! =_;rw [aU]
 have:=ok.so.ul
 by_cases e:j=Ev.n a.bv[i]!
 · rw [pp ⟨e,by omega⟩,pp e]
 rw [rc (fun k=>e k.1),rc e]
theorem C':eH (eu a i):=by
 have hb:=ok.back hi;have hl:(agG a.bv)-1+(fD a.af (a.bv[i]!).2.2.2).bi.length=(agG a.af.aA):=by
  show (agG a.bv)-1+(a.af.bi++[_]).length=_;rw [af4]
  have:=ok.hl
  simp only [afI,afR];omega
 have un: ∀j,j<agG a.af.aA->(fD a.af (a.bv[i]!).2.2.2).be[j]! =agM->(a.aq.set (Ev.n a.bv[i]!) (-1))[j]! = -1:=by
  intro j hj hu;rw [yw ok hi hj] at hu;rw [aU]
  by_cases e:j=Ev.n a.bv[i]!
  · rw [pp ⟨e.symm▸rfl,by rw [ok.wl];omega⟩]
  rw [rc e] at hu
  rw [rc (fun k=>e k.1)]
  exact ok.un j hj hu
 unfold eu
 by_cases dI:i<agG a.bv-1
 · rw [pp dI]
   have st:=DO ok hi dI;refine uI (Iz ok hi) st (by omega) (by rw [v6];exact ok.wl) hl (fun j hj hu=>?_) (fun j hj hu=>⟨⟨?_,fun w hw J8=>?_⟩,un j hj hu⟩) ?_ ?_
   · change j<(agG a.af.aA) at hj
     rw [yw ok hi hj] at hu
     by_cases e:j=Ev.n a.bv[i]!
     · rw [pp e] at hu;cases hu
     rw [rc e] at hu
     obtain ⟨w,hw,e1,e2⟩:=ok.EA hj hu;refine ⟨a.bv[w]!,?_,e1,e2⟩
     by_cases mA:w=agG a.bv-1
     · left;rw [mA]
     refine .inr ⟨w,by omega,fun h=>e ?_,rfl⟩
     rw [<- h];show j=(Ev.ix a.bv[w]!).toNat;omega
   · change j<(agG a.af.aA) at hj
     rw [yw ok hi hj] at hu
     by_cases e:j=Ev.n a.bv[i]!
     · rw [e];exact (vC ok hi (by omega) (by omega)).symm
     rw [rc e] at hu
     exact (ok.Iu hu (by omega)).symm
   · change j<(agG a.af.aA) at hj
     rw [yw ok hi hj] at hu
     by_cases e:j=Ev.n a.bv[i]!
     · rw [e];exact vC ok hi (by omega) J8
     rw [rc e] at hu
     exact ok.Iu hu (by omega)
   · rintro e (rfl|⟨w,hw,_,rfl⟩)
     · exact ok.ev _ (by omega)
     exact ok.ev w (by omega)
   rintro e f (rfl|⟨v,hv,hvi,rfl⟩) (rfl|⟨w,hw,J8,rfl⟩) he
   · rfl
   · rw [ok.A2 (by omega) (by omega) he]
   · rw [ok.A2 (by omega) (by omega) he]
   rw [ok.A2 (by omega) (by omega) he]
 rw [rc dI]
 have hie:i=agG a.bv-1:=by omega
 refine af0 (Iz ok hi) (fun e=> ∃w,w<agG a.bv-1/\a.bv[w]! =e) (by omega) (by rw [v6];exact ok.wl) hl (fun w hw=>?_) (fun e=>afa) (fun k k0 hk=>ok.ord k k0 (by omega)) (fun j hj hu=>?_) un ?_ ?_
 · obtain ⟨c1,c2,c3,c4,c5⟩:=ok.back (show w<(agG a.bv) by omega)
   refine ⟨c1,by rw [v6,ok.wl];exact c2,?_⟩
   rw [aU,rc (fun h=>vC ok hi (show w<(agG a.bv) by omega) (by omega) h.1)]
   exact c5
 · change j<(agG a.af.aA) at hj
   rw [yw ok hi hj] at hu
   by_cases e:j=Ev.n a.bv[i]!
   · rw [pp e] at hu;cases hu
   rw [rc e] at hu
   obtain ⟨w,hw,e1,e2⟩:=ok.EA hj hu;refine ⟨a.bv[w]!,⟨w,?_,rfl⟩,e1,e2⟩
   have:w≠i:=fun h=>e (by rw [<- h];show j=(Ev.ix a.bv[w]!).toNat;omega)
   omega
 · rintro e ⟨w,hw,rfl⟩
   exact ok.ev w (by omega)
 rintro e f ⟨v,hv,rfl⟩ ⟨w,hw,rfl⟩ he
 rw [ok.A2 (by omega) (by omega) he]
theorem Gz (e:Ev):e∈(eu a i).bv↔(e∈a.bv/\e≠a.bv[i]!):=by
 have other: ∀w,w<agG a.bv->(a.bv[w]!≠a.bv[i]!↔w≠i):=fun w hw=>⟨fun h k=>h (by rw [k]),fun h k=>h (ok.inj hw hi (by rw [k]))⟩
 unfold eu
 by_cases dI:i<agG a.bv-1
 · rw [pp dI]
   have st:=DO ok hi dI;show e∈(_:List Ev).take _↔_;rw [Ab (by rw [st.hl];omega)]
   refine (st.mem e).trans ?_;constructor
   · rintro (h|⟨w,hw,J8,rfl⟩)
     · rw [h];exact ⟨aX (by omega),(other _ (by omega)).2 (by omega)⟩
     exact ⟨aX (by omega),(other _ (by omega)).2 J8⟩
   rintro ⟨h,dW⟩
   obtain ⟨w,hw,rfl⟩:=aS.1 h
   by_cases c:w=agG a.bv-1
   · left;rw [c]
   exact .inr ⟨w,by omega,(other w hw).1 dW,rfl⟩
 rw [rc dI]
 show e∈a.bv.take _↔_;rw [Ab (by omega)]
 constructor
 · rintro ⟨w,hw,rfl⟩
   exact ⟨aX (by omega),(other _ (by omega)).2 (by omega)⟩
 rintro ⟨h,dW⟩
 obtain ⟨w,hw,rfl⟩:=aS.1 h
 have:=(other w hw).1 dW
 exact ⟨w,by omega,rfl⟩
theorem Da:p7 a (i:Int)=agH (eu a i,a.bv[i]!,0):=by
 have bd:=ok.bd;obtain ⟨b1,b2,b3,b4,b5⟩:=ok.back hi;obtain ⟨c1,c2,c3,c4,c5⟩:=ok.back (show (agG a.bv)-1<(agG a.bv) by omega)
 unfold p7;have e1:aa .i64 (((agG a.bv):Int) -1)=((agG a.bv-1:Nat):Int):=mT (by omega) (by omega)
 have g1:aI a.aq (a.bv[i]!).2.2.2.1=agH a.aq[(a.bv[i]!).2.2.2.1.toNat]!:=dG b1 (by rw [ok.wl];exact b2)
 have ws:bZ a.aq (a.bv[i]!).2.2.2.1 (-1)=a.aq.set (Ev.n a.bv[i]!) (-1):=rfl
 simp only [ar a.bv i hi,aj,J7 ok.so (ok.handle hi).1,show ((0:Int) !=0)=agM from rfl,ol,aZ (show (agG a.bv)<=1048576 by omega),aZ (show (agG a.aq)<=1048576 by omega),ay,e1,ar a.bv (agG a.bv-1) (by omega),jT a.bv (agG a.bv-1) (by omega),g1,ws,AC]
 unfold eu
 by_cases dI:i<agG a.bv-1
 · rw [aD (by omega),pp dI]
   have se:=Pg (cap:=agG a.bv) (u:=(fD a.af (a.bv[i]!).2.2.2).aA) (us:=(fD a.af (a.bv[i]!).2.2.2).be) (fr:=(fD a.af (a.bv[i]!).2.2.2).bi) (ok.ev (agG a.bv-1) (by omega)) (show 0<=Ev.ix a.bv[agG a.bv-1]! from c1) (Iy ok hi) dI (show Ev.ix a.bv[agG a.bv-1]!<_ by rw [v6,ok.wl];exact c2)
   rw [se];rfl
 rw [aC (by omega),rc dI]
 rfl
theorem vD (fit:yt a) {h:Int×Int} (hh:(a.bv[i]!).2.2.2=h):kW a h=agH (eu a i,a.bv[i]!,0):=by
 unfold kW;rw [MP ok fit hi hh];simp only [aj,show ((0:Int) !=0)=agM from rfl,ol,Da ok hi]
theorem vE {h:Int×Int} (hh:(a.bv[i]!).2.2.2=h):jg a h=agH (eu a i):=by
 have bd:=ok.bd;subst hh;obtain ⟨b1,b2,b3,b4,b5⟩:=ok.back hi;obtain ⟨c1,c2,c3,c4,c5⟩:=ok.back (show (agG a.bv)-1<(agG a.bv) by omega)
 unfold jg;rw [qh ok];have e1:aa .i64 (((agG a.bv):Int) -1)=((agG a.bv-1:Nat):Int):=mT (by omega) (by omega)
 have g1:aI a.aq (a.bv[i]!).2.2.2.1=agH (i:Int):=by
  rw [dG (l:=a.aq) b1 (by rw [ok.wl];exact b2)]
  exact congrArg agH b5
 have gv:=Gi ok.so (ok.handle hi).1;simp only [aj,g1,ay,e1,AC];unfold eu
 by_cases dI:i<agG a.bv-1
 · rw [cK (show (i:Int)≠((agG a.bv-1:Nat):Int) by omega),pp dI]
   have dW:(agG a.bv)-1≠i:=by omega
   have nn:Ev.n a.bv[agG a.bv-1]!≠Ev.n a.bv[i]!:=vC ok hi (by omega) dW
   have sw:=B1 (n:=agG a.bv) (x:=a.bv[i]!) (u:=a.af.aA) (us:=a.af.be) (fr:=a.af.bi) (H:=a.bv) (W:=a.aq) hi (show (agG a.bv)-1<(agG a.bv) by omega) dW rfl b1 (by rw [ok.wl];exact b2) c1 (by rw [ok.wl];exact c2)
   rw [eQ (l:=a.bv) rfl,eQ (l:=a.aq) b5] at sw;have hs:(a.bv.set i a.bv[agG a.bv-1]!).set (agG a.bv-1) a.bv[i]! =(a.bv.set (agG a.bv-1) a.bv[i]!).set i a.bv[agG a.bv-1]!:=agd _ _ (by omega)
   have ws:bZ ((a.aq.set (Ev.n a.bv[agG a.bv-1]!) (i:Int)).set (Ev.n a.bv[i]!) ((agG a.bv-1:Nat):Int)) (a.bv[i]!).2.2.2.1 (-1)=(a.aq.set (Ev.n a.bv[i]!) (-1)).set (Ev.n a.bv[agG a.bv-1]!) (i:Int):=by
    show ((a.aq.set (Ev.n a.bv[agG a.bv-1]!) (i:Int)).set (Ev.n a.bv[i]!) ((agG a.bv-1:Nat):Int)).set (Ev.n a.bv[i]!) (-1)=_;rw [List.set_set,agd _ _ nn]
   have g2:aI ((a.aq.set (Ev.n a.bv[agG a.bv-1]!) (i:Int)).set (Ev.n a.bv[i]!) ((agG a.bv-1:Nat):Int)) (a.bv[i]!).2.2.2.1=agH _:=dG b1 (by rw [v6,v6,ok.wl];exact b2)
   have cells:lU (agG a.bv-1) (a.bv.set (agG a.bv-1) a.bv[i]!) (a.aq.set (Ev.n a.bv[i]!) (-1)):=by
    refine ⟨by rw [v6];omega,by rw [v6];omega,fun w hw=>?_⟩
    rw [aU,rc (by omega)]
    exact (Iy ok hi).ev w hw
   have x1:Ev.ix a.bv[agG a.bv-1]!<(a.aq.set (Ev.n a.bv[i]!) (-1)).length:=by rw [v6,ok.wl];exact c2
   have hx:=ok.ev (agG a.bv-1) (by omega)
   have gv':nI (bc.mk a.af.aA a.af.be a.af.bi) (a.bv[i]!).2.2.2=agH (fD a.af (a.bv[i]!).2.2.2):=gv;have tk:(a.bv.set (agG a.bv-1) a.bv[i]!).take (agG a.bv-1)=a.bv.take (agG a.bv-1):=by rw [tV];exact af6 (by rw [F0s];omega)
   have U:lK ((fD a.af (a.bv[i]!).2.2.2).aA,(fD a.af (a.bv[i]!).2.2.2).be,(fD a.af (a.bv[i]!).2.2.2).bi,agG a.bv-1,((a.bv.set (agG a.bv-1) a.bv[i]!).set i a.bv[agG a.bv-1]!).length,(i:Int),(a.bv.set (agG a.bv-1) a.bv[i]!).set i a.bv[agG a.bv-1]!,(a.aq.set (Ev.n a.bv[i]!) (-1)).set (Ev.n a.bv[agG a.bv-1]!) (i:Int))=
    agH (((iD a.bv[agG a.bv-1]! i (a.bv.set (agG a.bv-1) a.bv[i]!) (a.aq.set (Ev.n a.bv[i]!) (-1))).1:Int),(iD a.bv[agG a.bv-1]! i (a.bv.set (agG a.bv-1) a.bv[i]!) (a.aq.set (Ev.n a.bv[i]!) (-1))).2.1.set (iD a.bv[agG a.bv-1]! i (a.bv.set (agG a.bv-1) a.bv[i]!) (a.aq.set (Ev.n a.bv[i]!) (-1))).1 a.bv[agG a.bv-1]!,(iD a.bv[agG a.bv-1]! i (a.bv.set (agG a.bv-1) a.bv[i]!) (a.aq.set (Ev.n a.bv[i]!) (-1))).2.2.set (Ev.n a.bv[agG a.bv-1]!) ((iD a.bv[agG a.bv-1]! i (a.bv.set (agG a.bv-1) a.bv[i]!) (a.aq.set (Ev.n a.bv[i]!) (-1))).1:Int)):=by
    unfold lK
    exact V7 (n:=agG a.bv-1) (c0:=((fD a.af (a.bv[i]!).2.2.2).aA,(fD a.af (a.bv[i]!).2.2.2).be,(fD a.af (a.bv[i]!).2.2.2).bi,agG a.bv-1,((a.bv.set (agG a.bv-1) a.bv[i]!).set i a.bv[agG a.bv-1]!).length,(i:Int),(a.bv.set (agG a.bv-1) a.bv[i]!).set i a.bv[agG a.bv-1]!,(a.aq.set (Ev.n a.bv[i]!) (-1)).set (Ev.n a.bv[agG a.bv-1]!) (i:Int))) hx c1 i _ _ cells dI x1 v6 v6
   have ul:=Wd (x:=a.bv[agG a.bv-1]!) i (a.bv.set (agG a.bv-1) a.bv[i]!) (a.aq.set (Ev.n a.bv[i]!) (-1));have un:=Ri (x:=a.bv[agG a.bv-1]!) i (a.bv.set (agG a.bv-1) a.bv[i]!) (a.aq.set (Ev.n a.bv[i]!) (-1));have uc:=fun w hw=>yr (x:=a.bv[agG a.bv-1]!) cells dI (i:=i) rfl w hw
   have Pk:lU (agG a.bv-1) (iD a.bv[agG a.bv-1]! i (a.bv.set (agG a.bv-1) a.bv[i]!) (a.aq.set (Ev.n a.bv[i]!) (-1))).2.1 (iD a.bv[agG a.bv-1]! i (a.bv.set (agG a.bv-1) a.bv[i]!) (a.aq.set (Ev.n a.bv[i]!) (-1))).2.2:=by
    refine ⟨by rw [un.1,v6];omega,by rw [un.1,v6];omega,fun w hw=>?_⟩
    rw [un.2];exact uc w hw
   have D:jI ((fD a.af (a.bv[i]!).2.2.2).aA,(fD a.af (a.bv[i]!).2.2.2).be,(fD a.af (a.bv[i]!).2.2.2).bi,agG a.bv-1,((a.bv.set (agG a.bv-1) a.bv[i]!).set i a.bv[agG a.bv-1]!).length,((iD a.bv[agG a.bv-1]! i (a.bv.set (agG a.bv-1) a.bv[i]!) (a.aq.set (Ev.n a.bv[i]!) (-1))).1:Int),(iD a.bv[agG a.bv-1]! i (a.bv.set (agG a.bv-1) a.bv[i]!) (a.aq.set (Ev.n a.bv[i]!) (-1))).2.1.set (iD a.bv[agG a.bv-1]! i (a.bv.set (agG a.bv-1) a.bv[i]!) (a.aq.set (Ev.n a.bv[i]!) (-1))).1 a.bv[agG a.bv-1]!,(iD a.bv[agG a.bv-1]! i (a.bv.set (agG a.bv-1) a.bv[i]!) (a.aq.set (Ev.n a.bv[i]!) (-1))).2.2.set (Ev.n a.bv[agG a.bv-1]!) ((iD a.bv[agG a.bv-1]! i (a.bv.set (agG a.bv-1) a.bv[i]!) (a.aq.set (Ev.n a.bv[i]!) (-1))).1:Int))=
    agH (cE (agG a.bv-1) a.bv[agG a.bv-1]! i (a.bv.set (agG a.bv-1) a.bv[i]!) (a.aq.set (Ev.n a.bv[i]!) (-1))):=by
    unfold jI
    exact MK (n:=agG a.bv-1) (c0:=((fD a.af (a.bv[i]!).2.2.2).aA,(fD a.af (a.bv[i]!).2.2.2).be,(fD a.af (a.bv[i]!).2.2.2).bi,agG a.bv-1,((a.bv.set (agG a.bv-1) a.bv[i]!).set i a.bv[agG a.bv-1]!).length,((iD a.bv[agG a.bv-1]! i (a.bv.set (agG a.bv-1) a.bv[i]!) (a.aq.set (Ev.n a.bv[i]!) (-1))).1:Int),(iD a.bv[agG a.bv-1]! i (a.bv.set (agG a.bv-1) a.bv[i]!) (a.aq.set (Ev.n a.bv[i]!) (-1))).2.1.set (iD a.bv[agG a.bv-1]! i (a.bv.set (agG a.bv-1) a.bv[i]!) (a.aq.set (Ev.n a.bv[i]!) (-1))).1 a.bv[agG a.bv-1]!,(iD a.bv[agG a.bv-1]! i (a.bv.set (agG a.bv-1) a.bv[i]!) (a.aq.set (Ev.n a.bv[i]!) (-1))).2.2.set (Ev.n a.bv[agG a.bv-1]!) ((iD a.bv[agG a.bv-1]! i (a.bv.set (agG a.bv-1) a.bv[i]!) (a.aq.set (Ev.n a.bv[i]!) (-1))).1:Int))) hx c1 (agG a.bv) (iD a.bv[agG a.bv-1]! i (a.bv.set (agG a.bv-1) a.bv[i]!) (a.aq.set (Ev.n a.bv[i]!) (-1))).1 (iD a.bv[agG a.bv-1]! i (a.bv.set (agG a.bv-1) a.bv[i]!) (a.aq.set (Ev.n a.bv[i]!) (-1))).2.1 (iD a.bv[agG a.bv-1]! i (a.bv.set (agG a.bv-1) a.bv[i]!) (a.aq.set (Ev.n a.bv[i]!) (-1))).2.2 (by omega) Pk (by omega) (by rw [un.2];exact x1) v6 v6
   have st:=B4 (n:=(agG a.bv-1)) (x:=a.bv[agG a.bv-1]!) (i:=i) (H:=(a.bv.set (agG a.bv-1) a.bv[i]!)) (W:=(a.aq.set (Ev.n a.bv[i]!) (-1))) dI;have DZ:=B4 (n:=(agG a.bv-1)) (x:=a.bv[agG a.bv-1]!) (i:=i) (H:=a.bv) (W:=(a.aq.set (Ev.n a.bv[i]!) (-1))) dI;rw [tk,DZ] at st;injection st with nX Oq
   simp only [lw,sw,aj,jT _ (agG a.bv-1) (show (agG a.bv)-1<=((a.bv.set (agG a.bv-1) a.bv[i]!).set i a.bv[agG a.bv-1]!).length by rw [v6,v6];omega),g2,gv',ws,hs,U,D,<- nX,<- Oq]
 rw [bn (show (i:Int)=((agG a.bv-1:Nat):Int) by omega),rc dI]
 have ws:bZ a.aq (a.bv[i]!).2.2.2.1 (-1)=a.aq.set (Ev.n a.bv[i]!) (-1):=rfl;simp only [ol,jT a.bv (agG a.bv-1) (by omega),aj,gv,ws]
end
abbrev rl:=Int×Int×Int
theorem eH.fit {a:aK} (ok:eH a):yt a:=by
 have bd:=ok.bd
 have:=ok.so.fl
 have:=ok.so.n2
 exact ⟨by omega,by omega,by omega,fun w hw=>(ok.ev w hw).2.1⟩
theorem qi (l:List rl) (id:Int) (hl:(agG l)<=1000000) (hs: ∀i j,i<j->j<agG l->(l[i]!).1<(l[j]!).1):
 (∀k,k<agG l->(l[k]!).1=id->aQ l id ()=agH ((k:Int),agJ))/\
 ((∀k,k<agG l->(l[k]!).1≠id)-> ∃m,m<=agG l/\(∀i,i<m->(l[i]!).1<id)/\(∀i,m<=i->i<agG l->id<(l[i]!).1)/\aQ l id ()=agH ((m:Int),agM)):=by
 obtain ⟨m,m1,m2,m3⟩:=MH (fun i=>(l[i]!).1) id (agG l) hs
 have run:aQ l id ()=az aT (l,id,((agG l):Int),(m:Int),(m:Int)):=by
  unfold aQ;refine C6 (body:=aT) (fun lo hi=>(l,id,((agG l):Int),(lo:Int),(hi:Int))) (agG l) m (fun i=>(l[i]!).1<id) (fun lo hi h1 h2=>?_) m2 (fun i h1 h2 h3=>by have:=m3 i h1 h2;omega) (agG l) 0 (agG l) (by omega) (by omega) m1 (Do _)
  have e1:agO ((lo:Int)<(hi:Int))=agJ:=aD (by omega)
  have hh:=aeB (a:=lo) (b:=hi) (by omega) (by omega)
  unfold aT qH;simp only [e1,lw,hh,ar l ((lo+hi) / 2) (by omega),jR,aj,aR (show (lo+hi) / 2<1000000000 by omega)]
  constructor
  · intro h
    have:agO (jt (l[(lo+hi) / 2]!).1 id<0)=agJ:=by
     rcases fO (l[(lo+hi) / 2]!).1 id with ⟨a,e⟩|⟨a,e⟩|⟨a,e⟩<;>rw [e]<;>first|rfl|omega
    rw [this];rfl
  intro h
  have:agO (jt (l[(lo+hi) / 2]!).1 id<0)=agM:=by
   rcases fO (l[(lo+hi) / 2]!).1 id with ⟨a,e⟩|⟨a,e⟩|⟨a,e⟩<;>rw [e]<;>first|rfl|omega
  rw [this];rfl
 have fin:az aT (l,id,((agG l):Int),(m:Int),(m:Int))=if m<agG l/\(l[m]!).1=id then agH ((m:Int),agJ) else agH ((m:Int),agM):=by
  have e1:agO ((m:Int)<(m:Int))=agM:=aC (by omega)
  by_cases hm:m<agG l
  · have e2:agO ((m:Int)<((agG l):Int))=agJ:=aD (by omega)
    have body:aT (l,id,((agG l):Int),(m:Int),(m:Int))=agH (.done ((m:Int),jt (l[m]!).1 id==0)):=by
     unfold aT qH;simp only [e1,e2,lw,ol,ar l m hm,jR,aj]
    rw [aH body];rcases fO (l[m]!).1 id with ⟨a,e⟩|⟨a,e⟩|⟨a,e⟩
    · rw [e,rc (fun h=>by omega)];rfl
    · rw [e,pp ⟨hm,a⟩];rfl
    rw [e,rc (fun h=>by omega)];rfl
  have e2:agO ((m:Int)<((agG l):Int))=agM:=aC (by omega)
  have body:aT (l,id,((agG l):Int),(m:Int),(m:Int))=agH (.done ((m:Int),agM)):=by
   unfold aT;simp only [e1,e2,ol]
  rw [aH body,rc (fun h=>hm h.1)]
 rw [run,fin];constructor
 · intro k hk he
   have hkm:k=m:=by
    rcases af5 k m with h|h|h
    · have:=m2 k h;omega
    · exact h
    have h1:=m3 m (Do _) (by omega)
    have h2:=hs m k h hk;omega
   subst hkm;rw [pp ⟨hk,he⟩]
 intro h
 refine ⟨m,m1,m2,fun i h1 h2=>?_,?_⟩
 · have:=m3 i h1 h2
   have:=h i h2
   omega
 rw [rc (fun k=>h m k.1 k.2)]
theorem amX:dd=aQ:=rfl
theorem Wf:cX=aQ:=rfl
theorem B5:c6=aQ:=rfl
theorem sX {α:Type} (l:List α) (k:Nat):l.eraseIdx k=l.take k++l.drop (k+1):=List.eraseIdx_eq_take_drop_succ l k
theorem yx (l:List rl) (k:Nat) (hk:k<agG l): ∃L:List rl,dY ((k:Int),((k+1:Nat):Int),l)=agH (agG l-1,agG l,L)/\L.take (agG l-1)=l.eraseIdx k:=by
 unfold dY;have e1:agO ((0:Int)<=(k:Int))=agJ:=aD (by omega)
 have e2:agO ((k:Int)<=((k+1:Nat):Int))=agJ:=aD (by omega)
 have e3:agO (((k+1:Nat):Int)<=((agG l):Int))=agJ:=aD (by omega)
 have e4:agO (((agG l):Int)<=((agG l):Int))=agJ:=aD (by omega)
 have e5:((k:Int)==((k+1:Nat):Int))=agM:=dO (by omega)
 have e6:agO ((0:Int)<=((k+1:Nat):Int))=agJ:=aD (by omega)
 have e7:agO ((k:Int)<=((agG l):Int))=agJ:=aD (by omega)
 have dr:(l.drop (k+1)).take (agG l- (k+1))=l.drop (k+1):=IR (by rw [af7];exact Do _)
 have dl:(l.drop (k+1)).length=agG l- (k+1):=af7;simp only [ay,e1,e2,e3,e4,e5,e6,e7,agj,lw,ol,jT l k (by omega),aj,AC,Nat.zero_add,dr,dl,UV,Bool.and_true]
 by_cases h:k+1=agG l
 · have em:(l.drop (k+1)).isEmpty=agJ:=by rw [afK,af2];omega
   have n1:agt (agG l-k) 0=agM:=by
    cases hb:agt (agG l-k) 0 with
    |false=>rfl
    |true=>have:=afg hb;omega
   have n2:Nat.ble (k+(agG l-k)) (agG l)=agJ:=adc (by omega)
   have ll:(eX l k (afV (agG l-k) ((0:Int),(0:Int),(0:Int)))).length=(agG l):=by
    unfold eX;simp;omega
   simp only [em,lw,n1,ol,n2,ll,beq_self_eq_true];refine ⟨_,by rw [show k=agG l-1 by omega],?_⟩
   rw [sX,show (agG l)-1=k by omega]
   unfold eX;rw [acl,M2 (by rw [F0s];omega),aga,agx]
   rw [afc (by omega),afS]
 have em:(l.drop (k+1)).isEmpty=agM:=by
  cases hb:(l.drop (k+1)).isEmpty with
  |false=>rfl
  |true=>rw [afK,af2] at hb;omega
 have n1:Nat.ble (k+(agG l- (k+1))) (agG l)=agJ:=adc (by omega)
 have n2:agO ((0:Int)<=((k+(agG l- (k+1)):Nat):Int))=agJ:=aD (by omega)
 have n3:agO (((k+(agG l- (k+1)):Nat):Int)<=((agG l):Int))=agJ:=aD (by omega)
 have n4:agt (agG l- (k+(agG l- (k+1)))) 0=agM:=by
  cases hb:agt (agG l- (k+(agG l- (k+1)))) 0 with
  |false=>rfl
  |true=>have:=afg hb;omega
 have l1:(eX l k (l.drop (k+1))).length=(agG l):=by
  unfold eX;simp;omega
 have n5:Nat.ble (k+(agG l- (k+1))+(agG l- (k+(agG l- (k+1))))) (agG l)=agJ:=adc (by omega)
 have l2:(eX (eX l k (l.drop (k+1))) (k+(agG l- (k+1))) (afV (agG l- (k+(agG l- (k+1)))) ((0:Int),(0:Int),(0:Int)))).length=(agG l):=by
  unfold eX;simp;omega
 simp only [em,ol,n1,lw,n2,n3,agj,n4,l1,n5,l2,beq_self_eq_true];refine ⟨_,by rw [show k+(agG l- (k+1))=agG l-1 by omega],?_⟩
 rw [sX]
 have:k+(agG l- (k+1))=agG l-1:=by omega
 unfold eX;rw [acl,M2 (by simp;omega),aga,agx,acl]
 rw [show (l.take k++(l.drop (k+1)++l.drop (k+(l.drop (k+1)).length)))=(l.take k++l.drop (k+1))++l.drop (k+(l.drop (k+1)).length) by rw [acl]]
 rw [M2 (by simp;omega),IR (by simp;omega)]
theorem Pm:gZ=dY:=rfl
theorem wS {α:Type} [Inhabited α] {l:List α} {k i:Nat}:(l.eraseIdx k)[i]! =if i<k then l[i]! else l[i+1]!:=by
 rw [sX]
 by_cases hk:k<agG l
 · by_cases h:i<k
   · rw [pp h,de (by rw [F0s];omega),iN h]
   rw [rc h,ej (by rw [F0s];omega),kX,F0s]
   congr 1;omega
 have e1:l.take k=l:=IR (by omega)
 have e2:l.drop (k+1)=[]:=afc (by omega)
 rw [e1,e2,afS];split
 · rfl
 rw [getElem!_neg l i (by omega),getElem!_neg l (i+1) (by omega)]
def fx (x:Int×Int):Prop:=0<=x.1/\x.1<=65535/\0<=x.2/\x.2<=65535/\x.1≠x.2
theorem Ac (x:Int×Int):sJ x=agH (agO (fx x)):=by
 obtain ⟨a,b⟩:=x;unfold sJ;dsimp only
 by_cases h1:0<=a
 · by_cases h3:0<=b
   · have e1:agO (0<=if b<a then b else a)=agJ:=aD (by split<;>omega)
     rw [e1]
     by_cases h2:a<=65535
     · by_cases h4:b<=65535
       · have e2:agO ((if b>a then b else a)<=65535)=agJ:=aD (by split<;>omega)
         rw [e2]
         by_cases h5:a=b
         · rw [bn h5,aC (p:=fx (a,b)) (fun h=>h.2.2.2.2 h5)];rfl
         rw [cK h5,aD (p:=fx (a,b)) ⟨h1,h2,h3,h4,h5⟩];rfl
       have e2:agO ((if b>a then b else a)<=65535)=agM:=aC (by split<;>omega)
       rw [e2,aC (p:=fx (a,b)) (fun h=>h4 h.2.2.2.1)];rfl
     have e2:agO ((if b>a then b else a)<=65535)=agM:=aC (by split<;>omega)
     rw [e2,aC (p:=fx (a,b)) (fun h=>h2 h.2.1)];rfl
   have e1:agO (0<=if b<a then b else a)=agM:=aC (by split<;>omega)
   rw [e1,aC (p:=fx (a,b)) (fun h=>h3 h.2.2.1)];rfl
 have e1:agO (0<=if b<a then b else a)=agM:=aC (by split<;>omega)
 rw [e1,aC (p:=fx (a,b)) (fun h=>h1 h.1)];rfl
theorem Ad (x:Int×Int):sI x=agH (agO (fx x)):=by
 obtain ⟨a,b⟩:=x;unfold sI;dsimp only
 by_cases h1:0<=a
 · by_cases h2:a<=65535
   · by_cases h3:0<=b
     · by_cases h4:b<=65535
       · by_cases h5:a=b
         · rw [bn h5,aD h1,aD h2,aD h3,aD h4,aC (p:=fx (a,b)) (fun h=>h.2.2.2.2 h5)];rfl
         rw [cK h5,aD h1,aD h2,aD h3,aD h4,aD (p:=fx (a,b)) ⟨h1,h2,h3,h4,h5⟩];rfl
       rw [aD h1,aD h2,aD h3,aC h4,aC (p:=fx (a,b)) (fun h=>h4 h.2.2.2.1)];rfl
     rw [aD h1,aD h2,aC h3,aC (p:=fx (a,b)) (fun h=>h3 h.2.2.1)];rfl
   rw [aD h1,aC h2,aC (p:=fx (a,b)) (fun h=>h2 h.2.1)];rfl
 rw [aC h1,aC (p:=fx (a,b)) (fun h=>h1 h.1)];rfl
structure eL (c:bC):Prop where
 len:(agG c.ce)<=200
 n0:0<=c.aM
 n1:c.aM<=1000000
 cv: ∀i,i<agG c.ce->fx (c.ce[i]!).2
 nr: ∀i,i<agG c.ce->0<=(c.ce[i]!).1/\(c.ce[i]!).1<c.aM
 up: ∀i j,i<j->j<agG c.ce->(c.ce[i]!).1<(c.ce[j]!).1
 nd: ∀i j,i<j->j<agG c.ce->(c.ce[i]!).2≠(c.ce[j]!).2
def yz (l:List rl) (i:Nat):Int:=if i=0 then -1 else (l[i-1]!).1
def Pn (c:bC) (i:Nat):Prop:=fx (c.ce[i]!).2/\(∀j,j<i->(c.ce[j]!).2≠(c.ce[i]!).2)/\yz c.ce i<(c.ce[i]!).1/\(c.ce[i]!).1<c.aM
theorem eL.iff {c:bC} (h1:(agG c.ce)<=200) (h2:0<=c.aM) (h3:c.aM<=1000000):eL c↔ ∀i,i<agG c.ce->Pn c i:=by
 constructor
 · intro ok i hi
   refine ⟨ok.cv i hi,fun j hj=>ok.nd j i hj hi,?_,(ok.nr i hi).2⟩
   unfold yz;split
   · have:=(ok.nr i hi).1;omega
   exact ok.up (i-1) i (by omega) hi
 intro h
 have low: ∀i,i<agG c.ce->0<=(c.ce[i]!).1:=by
  intro i
  induction i with
  |zero=>
   intro hi
   have:=(h 0 hi).2.2.1
   unfold yz at this;rw [pp rfl] at this;omega
  |succ i ih=>
   intro hi;have h1:=(h (i+1) hi).2.2.1;unfold yz at h1;rw [rc (by omega),show i+1-1=i by omega] at h1
   have:=ih (by omega)
   omega
 have up: ∀i j,i<j->j<agG c.ce->(c.ce[i]!).1<(c.ce[j]!).1:=by
  intro i j
  induction j with
  |zero=>intro h;omega
  |succ j ih=>
   intro lg hj;have h1:=(h (j+1) hj).2.2.1;unfold yz at h1;rw [rc (by omega),show j+1-1=j by omega] at h1
   by_cases e:i=j
   · subst e;exact h1
   have:=ih (by omega) (by omega)
   omega
 exact ⟨h1,h2,h3,fun i hi=>(h i hi).1,fun i hi=>⟨low i hi,(h i hi).2.2.2⟩,up,fun i j lg hj=>(h j hj).2.1 i lg⟩
theorem GA (l:List rl) (k:Nat) (a b:Int):oh [a,b] ((l.take k).map fun x=>[x.2.1,x.2.2])=agJ:=by
 unfold oh;rw [List.all_eq_true];intro x hx;obtain ⟨y,hy,rfl⟩:=PP.1 hx;rfl
theorem GB (l:List rl) (k:Nat) (x:Int×Int):D3 ((l.take k).map fun y=>[y.2.1,y.2.2]) [x.1,x.2]=agO (∃j,j<k/\j<agG l/\(l[j]!).2=x):=by
 unfold D3;rw [aff,List.any_eq_true,decide_eq_true_iff];constructor
 · rintro ⟨y,hy,he⟩
   obtain ⟨z,hz,rfl⟩:=PP.1 hy;obtain ⟨j,h1,h2,rfl⟩:=cf.1 hz
   have:[x.1,x.2]=[(l[j]!).2.1,(l[j]!).2.2]:=by simpa using he
   injection this with e1 e2;injection e2 with e2 _;exact ⟨j,h1,h2,NE e1.symm e2.symm⟩
 rintro ⟨j,h1,h2,h3⟩
 refine ⟨[(l[j]!).2.1,(l[j]!).2.2],PP.2 ⟨l[j]!,cf.2 ⟨j,h1,h2,rfl⟩,rfl⟩,?_⟩;rw [h3];simp
theorem uJ (c:bC):pt c=agH (if eL c then 0 else 8):=by
 unfold pt;simp only [ay]
 by_cases h1:200<agG c.ce
 · rw [aD (show (200:Int)<((agG c.ce):Int) by omega),rc (fun h=>by have:=h.len;omega)];rfl
 rw [aC (show¬(200:Int)<((agG c.ce):Int) by omega)]
 by_cases h2:c.aM<0
 · rw [aD h2,rc (fun h=>by have:=h.n0;omega)];rfl
 rw [aC h2]
 by_cases h3:1000000<c.aM
 · rw [aD h3,rc (fun h=>by have:=h.n1;omega)];rfl
 rw [aC h3];simp only [ol];have key:=dh (body:=pZ) (fun i=>(yz c.ce i,c.ce,((agG c.ce):Int),(i:Int),c.aM,c.ce,(c.ce.take i).map fun x=>[x.2.1,x.2.2])) (agG c.ce) (fun i=> ¬Pn c i) (r:=8) (e:=0) (fun i hi=>by
  have e1:agO ((i:Int)<((agG c.ce):Int))=agJ:=aD (by omega)
  have has:Lq ((c.ce.take i).map fun x=>[x.2.1,x.2.2]) [(c.ce[i]!).2.1,(c.ce[i]!).2.2]=agH (agO (∃j,j<i/\j<agG c.ce/\(c.ce[j]!).2=(c.ce[i]!).2)):=by
   unfold Lq;rw [GA,GB];rfl
  have nx:(c.ce.take (i+1)).map (fun x=>[x.2.1,x.2.2])=((c.ce.take i).map fun x=>[x.2.1,x.2.2])++[[(c.ce[i]!).2.1,(c.ce[i]!).2.2]]:=by
   rw [ek hi,List.map_append];rfl
  have ln:yz c.ce (i+1)=(c.ce[i]!).1:=by unfold yz;rw [rc (by omega),show i+1-1=i by omega]
  unfold pZ;simp only [e1,lw,ar c.ce i hi,aj,Ac,has,nx,ln,aR (show i<1000000000 by omega)]
  unfold Pn
  by_cases b1:fx (c.ce[i]!).2
  case neg=>
   rw [aC b1];exact ⟨fun _=>rfl,fun h=>absurd (ut.1 h).1 b1⟩
  rw [aD b1]
  by_cases b2: ∃j,j<i/\j<agG c.ce/\(c.ce[j]!).2=(c.ce[i]!).2
  · rw [aD b2]
    refine ⟨fun _=>rfl,fun h=>?_⟩
    obtain ⟨j,j1,j2,j3⟩:=b2;exact absurd j3 ((ut.1 h).2.1 j j1)
  rw [aC b2];have b2': ∀j,j<i->(c.ce[j]!).2≠(c.ce[i]!).2:=fun j hj he=>b2 ⟨j,hj,by omega,he⟩
  by_cases b3:(c.ce[i]!).1<=yz c.ce i
  · rw [aD b3]
    exact ⟨fun _=>rfl,fun h=>absurd (ut.1 h).2.2.1 (by omega)⟩
  rw [aC b3]
  by_cases b4:c.aM<=(c.ce[i]!).1
  · rw [aD b4]
    exact ⟨fun _=>rfl,fun h=>absurd (ut.1 h).2.2.2 (by omega)⟩
  rw [aC b4];have ins:Lr ((c.ce.take i).map fun x=>[x.2.1,x.2.2]) [(c.ce[i]!).2.1,(c.ce[i]!).2.2]=agH (((c.ce.take i).map fun x=>[x.2.1,x.2.2])++[[(c.ce[i]!).2.1,(c.ce[i]!).2.2]]):=by
   unfold Lr Od;rw [GA,GB,aC b2];rfl
  rw [ins];exact ⟨fun h=>absurd ⟨b1,b2',by omega,by omega⟩ h,fun _=>rfl⟩) (by
  unfold pZ
  have:agO (((agG c.ce):Int)<((agG c.ce):Int))=agM:=aC (by omega)
  simp only [this,ol])
 have h0:yz c.ce 0= -1:=rfl;rw [h0] at key
 by_cases ok:eL c
 · rw [pp ok]
   exact key.2 fun i hi=>ut.2 ((eL.iff (by omega) (by omega) (by omega)).1 ok i hi)
 rw [rc ok]
 rw [eL.iff (by omega) (by omega) (by omega)] at ok
 obtain ⟨i,h⟩:=EQ.1 ok;obtain ⟨hi,hx⟩:=If.1 h;exact key.1 ⟨i,hi,hx⟩
theorem MU (c:bC) (i:Nat) (hi:i<agG c.ce) (hl:(agG c.ce)<=200):
 ((∃j,j<i/\(c.ce[j]!).2=(c.ce[i]!).2)->az fK ((i:Int),0,c.aM,c.ce,c.ce[i]!)=agH (.done 8))/\
 ((∀j,j<i-> ¬(c.ce[j]!).2=(c.ce[i]!).2)->az fK ((i:Int),0,c.aM,c.ce,c.ce[i]!)=agH (.next (((i+1:Nat):Int),c.aM,c.ce))):=by
 refine dh (body:=fK) (fun j=>((i:Int),(j:Int),c.aM,c.ce,c.ce[i]!)) i (fun j=>(c.ce[j]!).2=(c.ce[i]!).2) (r:= .done 8) (e:= .next (((i+1:Nat):Int),c.aM,c.ce)) (fun j hj=>?_) ?_
 · have e1:agO ((j:Int)<(i:Int))=agJ:=aD (by omega)
   unfold fK;simp only [e1,lw,ar c.ce j (by omega),aj,aR (show j<1000000000 by omega)]
   generalize c.ce[j]! =x;generalize c.ce[i]! =y;constructor
   · intro h;rw [ei (congrArg agb h),ei (congrArg agc h)];rfl
   intro h
   by_cases h1:x.2.1=y.2.1
   · rw [ei h1,dO (fun h2=>h (NE h1 h2))];rfl
   rw [dO h1];rfl
 unfold fK
 have:agO ((i:Int)<(i:Int))=agM:=aC (by omega)
 simp only [this,ol,aR (show i<1000000000 by omega)]
theorem yA (c:bC):qF c=agH (if eL c then 0 else 8):=by
 unfold qF;simp only [ay]
 by_cases h1:200<agG c.ce
 · rw [aD (show (200:Int)<((agG c.ce):Int) by omega),rc (fun h=>by have:=h.len;omega)];rfl
 rw [aC (show¬(200:Int)<((agG c.ce):Int) by omega)]
 by_cases h2:c.aM<0
 · rw [aD h2,rc (fun h=>by have:=h.n0;omega)];rfl
 rw [aC h2]
 by_cases h3:1000000<c.aM
 · rw [aD h3,rc (fun h=>by have:=h.n1;omega)];rfl
 rw [aC h3];simp only [ol];have key:=dh (body:=ot) (fun i=>((i:Int),c.aM,c.ce)) (agG c.ce) (fun i=> ¬(fx (c.ce[i]!).2/\0<=(c.ce[i]!).1/\(c.ce[i]!).1<c.aM/\(0<i->(c.ce[i-1]!).1<(c.ce[i]!).1)/\ ∀j,j<i-> ¬(c.ce[j]!).2=(c.ce[i]!).2)) (r:=8) (e:=0) (fun i hi=>by
  have e1:agO ((i:Int)<((agG c.ce):Int))=agJ:=aD (by omega)
  have l1:=MU c i hi (by omega)
  unfold ot;simp only [ay,e1,lw,ar c.ce i hi,aj,Ad]
  by_cases b1:fx (c.ce[i]!).2
  case neg=>
   rw [aC b1];exact ⟨fun _=>rfl,fun h=>absurd (ut.1 h).1 b1⟩
  rw [aD b1]
  by_cases b2:(c.ce[i]!).1<0
  · rw [aD b2]
    exact ⟨fun _=>rfl,fun h=>absurd (ut.1 h).2.1 (by omega)⟩
  rw [aC b2]
  by_cases b3:c.aM<=(c.ce[i]!).1
  · rw [aD b3]
    exact ⟨fun _=>rfl,fun h=>absurd (ut.1 h).2.2.1 (by omega)⟩
  rw [aC b3];simp only [ww,ol];have go:(0<i->(c.ce[i-1]!).1<(c.ce[i]!).1)->(¬(fx (c.ce[i]!).2/\0<=(c.ce[i]!).1/\(c.ce[i]!).1<c.aM/\(0<i->(c.ce[i-1]!).1<(c.ce[i]!).1)/\ ∀j,j<i-> ¬(c.ce[j]!).2=(c.ce[i]!).2)->az fK ((i:Int),0,c.aM,c.ce,c.ce[i]!)=agH (.done 8))/\
   (¬¬(fx (c.ce[i]!).2/\0<=(c.ce[i]!).1/\(c.ce[i]!).1<c.aM/\(0<i->(c.ce[i-1]!).1<(c.ce[i]!).1)/\ ∀j,j<i-> ¬(c.ce[j]!).2=(c.ce[i]!).2)->az fK ((i:Int),0,c.aM,c.ce,c.ce[i]!)=agH (.next (((i+1:Nat):Int),c.aM,c.ce))):=by
   intro hp;constructor
   · intro h
     refine l1.1 (Classical.byContradiction fun hx=>h ⟨b1,by omega,by omega,hp,fun j hj he=>hx ⟨j,hj,he⟩⟩)
   intro h
   exact l1.2 (ut.1 h).2.2.2.2
  by_cases b4:0<i
  · have f1:agO ((0:Int)<(i:Int))=agJ:=aD (by omega)
    simp only [f1,lw,mT (show i<1000000000 by omega) b4,ar c.ce (i-1) (by omega),aj]
    by_cases b5:(c.ce[i]!).1<=(c.ce[i-1]!).1
    · rw [aD b5]
      exact ⟨fun _=>rfl,fun h=>absurd ((ut.1 h).2.2.2.1 b4) (by omega)⟩
    rw [aC b5]
    exact go fun _=>by omega
  · have f1:agO ((0:Int)<(i:Int))=agM:=aC (by omega)
    rw [f1];exact go fun h=>absurd h b4) (by
  unfold ot
  have:agO (((agG c.ce):Int)<((agG c.ce):Int))=agM:=aC (by omega)
  simp only [ay,this,ol])
 have same:eL c↔ ∀i,i<agG c.ce->(fx (c.ce[i]!).2/\0<=(c.ce[i]!).1/\(c.ce[i]!).1<c.aM/\(0<i->(c.ce[i-1]!).1<(c.ce[i]!).1)/\ ∀j,j<i-> ¬(c.ce[j]!).2=(c.ce[i]!).2):=by
  constructor
  · intro ok i hi
    exact ⟨ok.cv i hi,(ok.nr i hi).1,(ok.nr i hi).2,fun h=>ok.up (i-1) i (by omega) hi,fun j hj=>ok.nd j i hj hi⟩
  intro h
  rw [eL.iff (by omega) (by omega) (by omega)]
  intro i hi;obtain ⟨a1,a2,a3,a4,a5⟩:=h i hi;refine ⟨a1,a5,?_,a3⟩;unfold yz;split
  · omega
  exact a4 (by omega)
 by_cases ok:eL c
 · rw [pp ok]
   exact key.2 fun i hi=>ut.2 (same.1 ok i hi)
 rw [rc ok]
 rw [same] at ok;obtain ⟨i,h⟩:=EQ.1 ok;obtain ⟨hi,hx⟩:=If.1 h;exact key.1 ⟨i,hi,hx⟩
def rU (l:List rl) (x:Int×Int):Prop:= ∃i,i<agG l/\(l[i]!).2=x
theorem GC (l:List rl) (x:Int×Int) (hl:(agG l)<=1000000):cz l x=agH (agO (rU l x)):=by
 unfold cz fC;have key:=hO (body:=dt) (fun i=>(l,x.1,x.2,((agG l):Int),(i:Int))) (agG l) (fun i=>(l[i]!).2=x) (fun i=>(i:Int)) (e:= -1) (fun i hi=>by
  have e1:agO ((i:Int)<((agG l):Int))=agJ:=aD (by omega)
  unfold dt AT;simp only [e1,lw,ar l i hi,aj,aR (show i<1000000000 by omega)]
  generalize l[i]! =y;constructor
  · intro h;rw [ei (congrArg agb h),ei (congrArg agc h)];rfl
  · intro h
    by_cases h1:y.2.1=x.1
    · rw [ei h1,dO (fun h2=>h (NE h1 h2))];rfl
    rw [dO h1];rfl) (by
  unfold dt
  have:agO (((agG l):Int)<((agG l):Int))=agM:=aC (by omega)
  simp only [this,ol])
 rw [ay]
 by_cases hx:rU l x
 · obtain ⟨k,h1,h2,h3⟩:=least hx
   have:=key.1 k h1 h2 h3
   rw [show ((0:Nat):Int)=0 from rfl] at this;rw [this,aD hx];simp only [aj,aD (show (0:Int)<=(k:Int) by omega)]
 have:=key.2 fun i hi he=>hx ⟨i,hi,he⟩
 rw [show ((0:Nat):Int)=0 from rfl] at this;rw [this,aC hx];rfl
theorem zq:dV=cz:=rfl
theorem wT (c:bC) (x:Int×Int) (hl:(agG c.ce)<=1000000):sg c x=agH (agO (rU c.ce x)):=by
 unfold sg;have key:=dh (body:=rM) (fun i=>((i:Int),c.aM,c.ce,x)) (agG c.ce) (fun i=>(c.ce[i]!).2=x) (r:=agJ) (e:=agM) (fun i hi=>by
  have e1:agO ((i:Int)<((agG c.ce):Int))=agJ:=aD (by omega)
  unfold rM;simp only [ay,e1,lw,ar c.ce i hi,aj,aR (show i<1000000000 by omega)]
  generalize c.ce[i]! =y;constructor
  · intro h;rw [ei (congrArg agb h),ei (congrArg agc h)];rfl
  · intro h
    by_cases h1:y.2.1=x.1
    · rw [ei h1,dO (fun h2=>h (NE h1 h2))];rfl
    rw [dO h1];rfl) (by
  unfold rM
  have:agO (((agG c.ce):Int)<((agG c.ce):Int))=agM:=aC (by omega)
  simp only [ay,this,ol])
 by_cases hx:rU c.ce x
 · rw [aD hx];exact key.1 hx
 rw [aC hx];exact key.2 fun i hi he=>hx ⟨i,hi,he⟩
def oN (c:bC) (x:Int×Int):bC:=⟨c.aM+1,c.ce++[(c.aM,x)]⟩
def B6 (c:bC):Prop:=agG c.ce=200\/c.aM=1000000
theorem MV {c:bC} (ok:eL c) {x:Int×Int} (hx:fx x):BW c x=agH (if rU c.ce x then (⟨0,[]⟩,0,14) else if B6 c then (⟨0,[]⟩,0,18) else (oN c x,c.aM,0)):=by
 have:=ok.len;have:=ok.n0;have:=ok.n1
 unfold BW;rw [uJ,pp ok,Ac,aD hx,GC _ _ (by omega)]
 simp only [aj,show ((0:Int) !=0)=agM from rfl,ol,ww,ay]
 by_cases h1:rU c.ce x
 · rw [aD h1,pp h1];rfl
 rw [aC h1,rc h1];unfold B6
 by_cases h2:(agG c.ce)=200
 · rw [ei (show ((agG c.ce):Int)=200 by omega),pp (.inl h2)];rfl
 rw [dO (show¬((agG c.ce):Int)=200 by omega)]
 by_cases h3:c.aM=1000000
 · rw [ei h3,pp (.inr h3)];rfl
 rw [dO h3,rc (by omega)]
 have e:aa .i64 (c.aM+1)=c.aM+1:=by rw [wi];omega
 simp only [ol,aZ (show (agG c.ce)<=1048576 by omega),aj,bT (show (agG c.ce)+[(c.aM,x)].length<=1048576 by simp;omega),e]
 rfl
theorem Kf {c:bC} (ok:eL c) {x:Int×Int} (hx:fx x):zd c x=agH (if rU c.ce x then (⟨0,[]⟩,0,14) else if B6 c then (⟨0,[]⟩,0,18) else (oN c x,c.aM,0)):=by
 have:=ok.len;have:=ok.n0;have:=ok.n1
 unfold zd pj;rw [yA,pp ok,Ad,aD hx,wT _ _ (by omega)]
 simp only [aj,show ((0:Int) !=0)=agM from rfl,ol,ww,ay]
 by_cases h1:rU c.ce x
 · rw [aD h1,pp h1];rfl
 rw [aC h1,rc h1];unfold B6
 by_cases h2:(agG c.ce)=200
 · rw [ei (show ((agG c.ce):Int)=200 by omega),pp (.inl h2)];rfl
 rw [dO (show¬((agG c.ce):Int)=200 by omega)]
 by_cases h3:c.aM=1000000
 · rw [ei h3,pp (.inr h3)];rfl
 rw [dO h3,rc (by omega)]
 have e:aa .i64 (c.aM+1)=c.aM+1:=by rw [wi];omega
 simp only [ol,aZ (show (agG c.ce)<=1048576 by omega),aj,bT (show (agG c.ce)+[(c.aM,x)].length<=1048576 by simp;omega),e]
 rfl
theorem sY {c:bC} {x:Int×Int} {i:Nat}:(oN c x).ce[i]! =if i<(agG c.ce) then c.ce[i]! else if i=(agG c.ce) then (c.aM,x) else default:=by
 show (c.ce++[(c.aM,x)])[i]! =_
 by_cases h:i<agG c.ce
 · rw [pp h,de h]
 rw [rc h,ej (by omega)]
 by_cases e:i=agG c.ce
 · rw [pp e,e,afb];rfl
 rw [rc e,getElem!_neg _ _ (by simp;omega)]
theorem zt {c:bC} {x:Int×Int}:(oN c x).ce.length=agG c.ce+1:=by
 show (c.ce++[(c.aM,x)]).length=_;simp
theorem Po {c:bC} (ok:eL c) {x:Int×Int} (hx:fx x) (hn: ¬rU c.ce x) (hf: ¬B6 c):eL (oN c x):=by
 have h1:=ok.len;have h2:=ok.n0;have h3:=ok.n1;unfold B6 at hf;refine ⟨by rw [zt];omega,by show 0<=c.aM+1;omega,by show c.aM+1<=1000000;omega,?_,?_,?_,?_⟩
 · intro i hi
   rw [zt] at hi;rw [sY]
   by_cases h:i<agG c.ce
   · rw [pp h];exact ok.cv i h
   rw [rc h,pp (by omega)];exact hx
 · intro i hi
   rw [zt] at hi;rw [sY];show 0<=_/\_<c.aM+1
   by_cases h:i<agG c.ce
   · rw [pp h];have:=ok.nr i h;omega
   rw [rc h,pp (by omega)];dsimp only;omega
 · intro i j lg hj
   rw [zt] at hj;rw [sY,sY,pp (by omega)]
   by_cases h:j<agG c.ce
   · rw [pp h];exact ok.up i j lg h
   rw [rc h,pp (by omega)]
   exact (ok.nr i (by omega)).2
 intro i j lg hj
 rw [zt] at hj;rw [sY,sY,pp (by omega)]
 by_cases h:j<agG c.ce
 · rw [pp h];exact ok.nd i j lg h
 rw [rc h,pp (by omega)]
 exact fun he=>hn ⟨i,by omega,he⟩
def mV (c:bC) (k:Nat):bC:=⟨c.aM,c.ce.eraseIdx k⟩
theorem B7 {α:Type} {l:List α} {k:Nat} (hk:k<agG l):(l.eraseIdx k).length=agG l-1:=by
 rw [List.length_eraseIdx,pp hk]
theorem GD {c:bC} (ok:eL c) {k:Nat} (hk:k<agG c.ce):eL (mV c k):=by
 have h1:=ok.len;have len:(mV c k).ce.length=agG c.ce-1:=B7 hk;have cell: ∀i,∃j,i<=j/\j<=i+1/\(i<agG c.ce-1->j<agG c.ce)/\(mV c k).ce[i]! =c.ce[j]!/\(i<k->j=i)/\(k<=i->j=i+1):=by
  intro i
  by_cases h:i<k
  · exact ⟨i,by omega,by omega,by omega,by show (c.ce.eraseIdx k)[i]! =_;rw [wS,pp h],fun _=>rfl,by omega⟩
  exact ⟨i+1,by omega,by omega,by omega,by show (c.ce.eraseIdx k)[i]! =_;rw [wS,rc h],by omega,fun _=>rfl⟩
 refine ⟨by omega,ok.n0,ok.n1,?_,?_,?_,?_⟩
 · intro i hi
   obtain ⟨j,j1,j2,j3,j4,j5,j6⟩:=cell i;rw [j4];exact ok.cv j (j3 (by omega))
 · intro i hi
   obtain ⟨j,j1,j2,j3,j4,j5,j6⟩:=cell i;rw [j4];exact ok.nr j (j3 (by omega))
 · intro i i' lg hi
   obtain ⟨j,j1,j2,j3,j4,j5,j6⟩:=cell i;obtain ⟨m,m1,m2,m3,m4,m5,m6⟩:=cell i';rw [j4,m4];exact ok.up j m (by omega) (m3 (by omega))
 intro i i' lg hi
 obtain ⟨j,j1,j2,j3,j4,j5,j6⟩:=cell i;obtain ⟨m,m1,m2,m3,m4,m5,m6⟩:=cell i';rw [j4,m4];exact ok.nd j m (by omega) (m3 (by omega))
theorem GF {c:bC} (ok:eL c) {k:Nat} (hk:k<agG c.ce) {n:Int} (hn:(c.ce[k]!).1=n):tM c n=agH (mV c k,(c.ce[k]!).2,0):=by
 have h1:=ok.len;unfold tM C3;obtain ⟨L,d1,d2⟩:=yx c.ce k hk;rw [uJ,pp ok,(qi c.ce n (by omega) ok.up).1 k hk hn]
 simp only [aj,show ((0:Int) !=0)=agM from rfl,ol,ww,aZ (show (agG c.ce)<=1048576 by omega),aR (show k<1000000000 by omega),d1,ar c.ce k hk,d2]
 rfl
theorem B8 {l:List rl} {k:Nat} (hk:k<agG l) (hs: ∀i j,i<j->j<agG l->(l[i]!).1<(l[j]!).1) {n:Int} (hn:(l[k]!).1=n):l.filter (fun x=>x.1 !=n)=l.eraseIdx k:=by
 rw [sX];have e:l.filter (fun x=>x.1 !=n)=(l.take k++l[k]!::l.drop (k+1)).filter (fun x=>x.1 !=n):=congrArg _ (MC hk)
 rw [e,afo,List.filter_cons_of_neg (by rw [hn];simp)]
 congr 1
 · rw [afi]
   intro x hx;obtain ⟨i,h1,h2,rfl⟩:=cf.1 hx
   have:=hs i k h1 hk
   exact cK (by omega)
 rw [afi]
 intro x hx;obtain ⟨i,h1,rfl⟩:=aS.1 hx;rw [af7] at h1;rw [kX]
 have:=hs k (k+1+i) (by omega) (by omega)
 exact cK (by omega)
theorem Db {c:bC} (ok:eL c) {k:Nat} (hk:k<agG c.ce) {n:Int} (hn:(c.ce[k]!).1=n):pU c n=agH (mV c k):=by
 have h1:=ok.len;unfold pU;have key:=bF (body:=jH) (fun i=>(n,(i:Int),c.aM,c.ce,0,c.aM,(c.ce.take i).filter (fun x=>x.1 !=n))) (agG c.ce) (fun i hi=>by
  have e1:agO ((i:Int)<((agG c.ce):Int))=agJ:=aD (by omega)
  have nx:(c.ce.take (i+1)).filter (fun x=>x.1 !=n)=(c.ce.take i).filter (fun x=>x.1 !=n)++(if (c.ce[i]!).1 !=n then [c.ce[i]!] else []):=by
   rw [ek hi,afo,List.filter_cons,List.filter_nil]
  have fl:((c.ce.take i).filter (fun x=>x.1 !=n)).length<=200:=agr (List.length_filter_le _ _) (by rw [F0s];omega)
  unfold jH;simp only [ay,e1,lw,ar c.ce i hi,aj,aR (show i<1000000000 by omega),nx]
  by_cases h:(c.ce[i]!).1=n
  · rw [bn h];simp
  rw [cK h]
  simp only [lw,if_true,bT (show ((c.ce.take i).filter (fun x=>x.1 !=n)).length+[c.ce[i]!].length<=1048576 by simp only [afI,afR];omega),aj])
 have fin:jH (n,((agG c.ce):Int),c.aM,c.ce,0,c.aM,(c.ce.take (agG c.ce)).filter (fun x=>x.1 !=n))=agH (.done (mV c k)):=by
  unfold jH
  have:agO (((agG c.ce):Int)<((agG c.ce):Int))=agM:=aC (by omega)
  simp only [ay,this,ol,List.take_length];rw [B8 hk ok.up hn];rfl
 refine Eq.trans ?_ (aH fin);exact key
def fh (l:List Pt) (id:Int):Prop:= ∃k,k<agG l/\(l[k]!).1=id
noncomputable def fX (l:List Pt) (id:Int):Pt:=if h:fh l id then l[h.choose]! else (-1,0,0)
theorem B9 {l:List Pt} (hs:fT l) {k:Nat} (hk:k<agG l) {id:Int} (h:(l[k]!).1=id):fX l id=l[k]!:=by
 have hp:fh l id:=⟨k,hk,h⟩;unfold fX;rw [dif_pos hp]
 have:=hp.choose_spec
 rw [AX hs this.1 hk (by rw [this.2,h])]
theorem eY {l:List Pt} (ok:bw l) {id:Int} (h:fh l id):fw (fX l id)/\(fX l id).1=id:=by
 obtain ⟨k,hk,he⟩:=h;rw [B9 ok.2.2 hk he];exact ⟨ok.2.1 _ (aX hk),he⟩
theorem Dc {l:List Pt} {id:Int} (h: ¬fh l id):fX l id=(-1,0,0):=by unfold fX;rw [dif_neg h]
theorem lV {l:List Pt} (ok:bw l) (id:Int):iX ⟨l⟩ id=agH (fX l id):=by
 have h1:=ok.1;have bs:=qi l id (by omega) (fun i j=>dH ok.2.2)
 unfold iX;dsimp only;rw [Wf]
 by_cases h:fh l id
 · obtain ⟨k,hk,he⟩:=h
   rw [bs.1 k hk he];simp only [aj,ww,ol,ar l k hk,B9 ok.2.2 hk he]
 obtain ⟨m,m1,m2,m3,e⟩:=bs.2 (fun k hk he=>h ⟨k,hk,he⟩)
 rw [e,Dc h];rfl
theorem uK {l:List Pt} (ok:bw l) {id:Int} (h:fh l id): ∃k,k<agG l/\eS ⟨l⟩ id=agH (k:Int)/\l[k]! =fX l id:=by
 have h1:=ok.1;obtain ⟨k,hk,he⟩:=h;exact ⟨k,hk,vz ok.2.2 (by omega) hk he,(B9 ok.2.2 hk he).symm⟩
theorem yB {l:List Pt} (ok:bw l) {id:Int} (h: ¬fh l id):eS ⟨l⟩ id=agH (-1):=by
 have h1:=ok.1;exact aeF (by omega) fun k hk he=>h ⟨k,hk,he⟩
def jm (l:List Pt) (x:Int×Int):Prop:=fh l x.1/\fh l x.2
noncomputable def bD (l:List Pt) (x t:Int×Int):(Int×Int)×Bool:=Aa (fX l x.2) (fX l x.1) t
theorem uL {l:List Pt} (ok:bw l) {x t:Int×Int} (hx:fx x) (ht:cC t) (h64:o4 t):
 pz ⟨l⟩ x t=agH (if jm l x then ((bD l x t).1,(bD l x t).2,0) else ((0,0),agM,8)):=by
 unfold pz;rw [lV ok,lV ok];simp only [aj,D7 h64];have bad: ¬fw (-1,0,0):=by unfold fw;dsimp only;omega
 by_cases h1:fh l x.1
 · by_cases h2:fh l x.2
   · obtain ⟨p1,p2⟩:=eY ok h1
     obtain ⟨q1,q2⟩:=eY ok h2;rw [pp ⟨q1,p1,ht,by rw [p2,q2];exact fun h=>hx.2.2.2.2 h.symm⟩,pp ⟨h1,h2⟩]
     rfl
   rw [Dc h2,rc (fun h=>bad h.1),rc (fun h=>bad h.1),rc (fun h=>h2 h.2)]
 rw [Dc h1,rc (fun h=>bad h.2.1),rc (fun h=>bad h.2.1),rc (fun h=>h1 h.1)]
theorem uM {l:List Pt} (ok:bw l) {x t:Int×Int} (h64:o4 t) (hb:jm l x):pq ⟨l⟩ x t=agH (bD l x t):=by
 obtain ⟨h1,h2⟩:=hb;obtain ⟨j,j1,j2,j3⟩:=uK ok h1;obtain ⟨k,k1,k2,k3⟩:=uK ok h2;unfold pq;simp only [j2,k2,aj,ar l j j1,ar l k k1,j3,k3,O9 (eY ok h2).1 (eY ok h1).1 h64];rfl
theorem Wg (c:bC) {l:List Pt} (ok:bw l) (hl:(agG c.ce)<=200):tN c ⟨l⟩=agH (agO (∀i,i<agG c.ce->jm l (c.ce[i]!).2)):=by
 unfold tN;have key:=dh (body:=oB) (fun i=>((i:Int),c.aM,c.ce,l)) (agG c.ce) (fun i=> ¬jm l (c.ce[i]!).2) (r:=agM) (e:=agJ) (fun i hi=>by
  have e1:agO ((i:Int)<((agG c.ce):Int))=agJ:=aD (by omega)
  unfold oB jm;simp only [ay,e1,lw,ar c.ce i hi,aj,aR (show i<1000000000 by omega)]
  by_cases h1:fh l (c.ce[i]!).2.1
  · obtain ⟨k,k1,k2,_⟩:=uK ok h1
    rw [k2];simp only [aj,aC (show¬(k:Int)<0 by omega),ol]
    by_cases h2:fh l (c.ce[i]!).2.2
    · obtain ⟨j,j1,j2,_⟩:=uK ok h2
      rw [j2];simp only [aj,aC (show¬(j:Int)<0 by omega),ol]
      exact ⟨fun h=>absurd ⟨h1,h2⟩ h,fun _=>trivial⟩
    rw [yB ok h2]
    exact ⟨fun _=>rfl,fun h=>absurd (ut.1 h).2 h2⟩
  · rw [yB ok h1]
    exact ⟨fun _=>rfl,fun h=>absurd (ut.1 h).1 h1⟩) (by
  unfold oB
  have:agO (((agG c.ce):Int)<((agG c.ce):Int))=agM:=aC (by omega)
  simp only [ay,this,ol])
 by_cases hx: ∀i,i<agG c.ce->jm l (c.ce[i]!).2
 · rw [aD hx];exact key.2 fun i hi=>ut.2 (hx i hi)
 rw [aC hx]
 obtain ⟨i,h⟩:=EQ.1 hx;obtain ⟨hi,hx⟩:=If.1 h;exact key.1 ⟨i,hi,hx⟩
def aW (l:List Pt) (t:Int×Int) (H:List Ev):List rl->List rl->Prop
 | [],ds=>ds=[]
 |x::cs,ds=>((bD l x.2 t).2=agJ-> ∃d zD,ds=d::zD/\d.1=x.1/\((bD l x.2 t).1.1,(bD l x.2 t).1.2,x.1,d.2)∈H/\aW l t H cs zD)/\((bD l x.2 t).2=agM->aW l t H cs ds)
structure bk (c:aP):Prop where
 pG:cC c.ci
 gF:o4 c.ci
 ie:bw c.ii.am
 uO:eL c.ai
 ng:eH c.ae
 Kg:(agG c.ae.aq)=200
 hd:(agG c.ae.bv)=agG c.io
 known: ∀i,i<agG c.ai.ce->jm c.ii.am (c.ai.ce[i]!).2
 D9:aW c.ii.am c.ci c.ae.bv c.ai.ce c.io
structure oO (c:aP):Prop where
 gF:o4 c.ci
 ag:yt c.ae
 du:(agG c.io)<=1000000
theorem af1 {a:aK} (ok:eH a) (w2:(agG a.aq)=200) (t:Int×Int) (n:Int) (h:Int×Int):
 (0<=h.1/\h.1<200/\0<=a.aq[h.1.toNat]!/\a.bv[(a.aq[h.1.toNat]!).toNat]! =(t.1,t.2,n,h))↔((t.1,t.2,n,h):Ev)∈a.bv:=by
 have wl:=ok.wl;have hu:=ok.so.ul;constructor
 · rintro ⟨h1,h2,h3,h4⟩
   cases hb:a.af.be[h.1.toNat]! with
   |false=>
    have:=ok.un h.1.toNat (by omega) hb
    omega
   |true=>
    have:=ok.fwd h.1.toNat (by omega) hb
    rw [<- h4];exact aX (by omega)
 intro hm
 obtain ⟨w,hw,he⟩:=aS.1 hm;obtain ⟨b1,b2,b3,b4,b5⟩:=ok.back hw;have e:Ev.ix a.bv[w]! =h.1:=by rw [he]
 have e2:Ev.n a.bv[w]! =h.1.toNat:=by rw [he]
 rw [e] at b1 b2;rw [e2] at b5;refine ⟨b1,by omega,by omega,?_⟩
 rw [b5,AC,he]
theorem Wh {a:aK} (ok:eH a) {i:Nat} (hi:i<agG a.af.aA) (h:0<=a.aq[i]!):a.aq[i]!<(agG a.bv):=by
 cases hb:a.af.be[i]! with
 |false=>have:=ok.un i hi hb;omega
 |true=>exact (ok.fwd i hi hb).2.1
theorem sj {α:Type} [Inhabited α] {l:List α} {i:Nat} (h:i<agG l):l.drop i=l[i]!::l.drop (i+1):=by
 rw [getElem!_pos l i h];exact List.drop_eq_getElem_cons h
theorem MW {c:aP} (pG:cC c.ci) (gF:o4 c.ci) (ie:bw c.ii.am) (uO:eL c.ai) (ng:eH c.ae) (w2:(agG c.ae.aq)=200):
 ∀(d i:Nat) (ds:List rl),agG c.ai.ce-i<=d->i<=agG c.ai.ce->agG ds<=1000000->
  az cO (ds,c.ai.ce,((agG c.ai.ce):Int),(i:Int),c.ci.1,c.ci.2,c.ii.am,c.ai.aM,c.ai.ce,c.ae.af.aA,c.ae.af.be,c.ae.af.bi,c.ae.bv,c.ae.aq,c.io)=
   agH (.done (if (∀j,i<=j->j<agG c.ai.ce->jm c.ii.am (c.ai.ce[j]!).2)/\aW c.ii.am c.ci c.ae.bv (c.ai.ce.drop i) ds then 0 else 8)):=by
 have hl:=uO.len;have wl:=ng.wl;have fin: ∀(ds:List rl),az cO (ds,c.ai.ce,((agG c.ai.ce):Int),((agG c.ai.ce):Int),c.ci.1,c.ci.2,c.ii.am,c.ai.aM,c.ai.ce,c.ae.af.aA,c.ae.af.be,c.ae.af.bi,c.ae.bv,c.ae.aq,c.io)=agH (.done (if ds=[] then 0 else 8)):=by
  intro ds;refine aH ?_;unfold cO;have e1:agO (((agG c.ai.ce):Int)<((agG c.ai.ce):Int))=agM:=aC (by omega)
  simp only [ay,e1,ol];cases ds with
  |nil=>rw [aC (by simp),pp rfl];rfl
  |cons d ds=>rw [aD (by simp),rc (by simp)];rfl
 intro d
 induction d with
 |zero=>
  intro i ds hd hi Xf
  have:i=(agG c.ai.ce):=by omega
  subst this;rw [fin ds,ae9]
  have:((∀j,agG c.ai.ce<=j->j<agG c.ai.ce->jm c.ii.am (c.ai.ce[j]!).2)/\aW c.ii.am c.ci c.ae.bv [] ds)↔ds=[]:=⟨fun h=>h.2,fun h=>⟨fun j h1 h2=>by omega,h⟩⟩
  by_cases h:ds=[]
  · rw [pp h,pp (this.2 h)]
  rw [rc h,rc (fun k=>h (this.1 k))]
 |succ d ih=>
  intro i ds hd hi Xf
  by_cases he:i=agG c.ai.ce
  · subst he
    rw [fin ds,ae9]
    have:((∀j,agG c.ai.ce<=j->j<agG c.ai.ce->jm c.ii.am (c.ai.ce[j]!).2)/\aW c.ii.am c.ci c.ae.bv [] ds)↔ds=[]:=⟨fun h=>h.2,fun h=>⟨fun j h1 h2=>by omega,h⟩⟩
    by_cases h:ds=[]
    · rw [pp h,pp (this.2 h)]
    rw [rc h,rc (fun k=>h (this.1 k))]
  have uq:i<(agG c.ai.ce):=by omega
  have e1:agO ((i:Int)<((agG c.ai.ce):Int))=agJ:=aD (by omega)
  have hw:=uL ie (x:=(c.ai.ce[i]!).2) (t:=(c.ci.1,c.ci.2)) (uO.cv i uq) pG gF;have dr:=sj uq;have all:(∀j,i<=j->j<agG c.ai.ce->jm c.ii.am (c.ai.ce[j]!).2)↔(jm c.ii.am (c.ai.ce[i]!).2/\ ∀j,i+1<=j->j<agG c.ai.ce->jm c.ii.am (c.ai.ce[j]!).2):=by
   constructor
   · intro h;exact ⟨h i (Do _) uq,fun j h1 h2=>h j (by omega) h2⟩
   rintro ⟨h1,h2⟩ j h3 h4
   by_cases e:j=i
   · rw [e];exact h1
   exact h2 j (by omega) h4
  have sc:=aR (show i<1000000000 by omega)
  by_cases hb:jm c.ii.am (c.ai.ce[i]!).2
  case neg=>
   rw [rc (fun h=>hb (all.1 h.1).1)]
   refine aH ?_;unfold cO;simp only [e1,lw,ar c.ai.ce i uq,aj,hw,rc hb];rfl
  rw [pp hb] at hw
  by_cases is:(bD c.ii.am (c.ai.ce[i]!).2 c.ci).2=agJ
  case neg=>
   have is':(bD c.ii.am (c.ai.ce[i]!).2 c.ci).2=agM:=by simpa using is
   rw [ba (y:=(ds,c.ai.ce,((agG c.ai.ce):Int),((i+1:Nat):Int),c.ci.1,c.ci.2,c.ii.am,c.ai.aM,c.ai.ce,c.ae.af.aA,c.ae.af.be,c.ae.af.bi,c.ae.bv,c.ae.aq,c.io)) (by
    unfold cO;simp only [e1,lw,ar c.ai.ce i uq,aj,hw,sc,is',show ((0:Int) !=0)=agM from rfl,ol,UV]),ih (i+1) ds (by omega) (by omega) Xf]
   have same:((∀j,i<=j->j<agG c.ai.ce->jm c.ii.am (c.ai.ce[j]!).2)/\aW c.ii.am c.ci c.ae.bv (c.ai.ce.drop i) ds)↔((∀j,i+1<=j->j<agG c.ai.ce->jm c.ii.am (c.ai.ce[j]!).2)/\aW c.ii.am c.ci c.ae.bv (c.ai.ce.drop (i+1)) ds):=by
    rw [dr,all];constructor
    · rintro ⟨⟨_,h1⟩,h2⟩;exact ⟨h1,h2.2 is'⟩
    rintro ⟨h1,h2⟩;exact ⟨⟨hb,h1⟩,fun h=>absurd h is,fun _=>h2⟩
   simp only [same]
  have stop:(¬((∀j,i<=j->j<agG c.ai.ce->jm c.ii.am (c.ai.ce[j]!).2)/\aW c.ii.am c.ci c.ae.bv (c.ai.ce.drop i) ds))->cO (ds,c.ai.ce,((agG c.ai.ce):Int),(i:Int),c.ci.1,c.ci.2,c.ii.am,c.ai.aM,c.ai.ce,c.ae.af.aA,c.ae.af.be,c.ae.af.bi,c.ae.bv,c.ae.aq,c.io)=agH (.done (.done 8))->az cO (ds,c.ai.ce,((agG c.ai.ce):Int),(i:Int),c.ci.1,c.ci.2,c.ii.am,c.ai.aM,c.ai.ce,c.ae.af.aA,c.ae.af.be,c.ae.af.bi,c.ae.bv,c.ae.aq,c.io)=
   agH (.done (if (∀j,i<=j->j<agG c.ai.ce->jm c.ii.am (c.ai.ce[j]!).2)/\aW c.ii.am c.ci c.ae.bv (c.ai.ce.drop i) ds then 0 else 8)):=by
   intro h1 h2;rw [rc h1];exact aH h2
  cases ds with
  |nil=>
   refine stop (fun h=>?_) ?_
   · rw [dr] at h
     obtain ⟨d,zD,h1,_⟩:=h.2.1 is;cases h1
   unfold cO
   simp only [e1,lw,ar c.ai.ce i uq,aj,hw,is,show ((0:Int) !=0)=agM from rfl,ol,ww];rfl
  |cons d0 ds=>
   have l0:((((d0::ds).length:Nat):Int)==0)=agM:=dO (by simp;omega)
   have g0:aI (d0::ds) 0=agH d0:=rfl
   have D9: ∀P:Prop,(P↔d0.1=(c.ai.ce[i]!).1/\(((bD c.ii.am (c.ai.ce[i]!).2 c.ci).1.1,(bD c.ii.am (c.ai.ce[i]!).2 c.ci).1.2,(c.ai.ce[i]!).1,d0.2):Ev)∈c.ae.bv)-> ¬P-> ¬((∀j,i<=j->j<agG c.ai.ce->jm c.ii.am (c.ai.ce[j]!).2)/\aW c.ii.am c.ci c.ae.bv (c.ai.ce.drop i) (d0::ds)):=by
    intro P hP hn h;rw [dr] at h;obtain ⟨d,zD,h1,h2,h3,_⟩:=h.2.1 is;injection h1 with h1 _;subst h1;exact hn (hP.2 ⟨h2,h3⟩)
   by_cases b1:d0.1=(c.ai.ce[i]!).1
   case neg=>
    refine stop (D9 (d0.1=(c.ai.ce[i]!).1/\_) afa (fun h=>b1 h.1)) ?_
    unfold cO;simp only [ay,e1,lw,ar c.ai.ce i uq,aj,hw,is,show ((0:Int) !=0)=agM from rfl,ol,ww,l0,g0,cK b1]
   have ea:=af1 ng w2 (bD c.ii.am (c.ai.ce[i]!).2 c.ci).1 (c.ai.ce[i]!).1 d0.2
   by_cases b2:d0.2.1<0
   · refine stop (D9 (d0.1=(c.ai.ce[i]!).1/\_) afa (fun h=>by have:=(ea.2 h.2).1;omega)) ?_
     unfold cO;simp only [ay,e1,lw,ar c.ai.ce i uq,aj,hw,is,show ((0:Int) !=0)=agM from rfl,ol,ww,l0,g0,bn b1,aD b2]
   by_cases b3:200<=d0.2.1
   · refine stop (D9 (d0.1=(c.ai.ce[i]!).1/\_) afa (fun h=>by have:=(ea.2 h.2).2.1;omega)) ?_
     unfold cO;simp only [ay,e1,lw,ar c.ai.ce i uq,aj,hw,is,show ((0:Int) !=0)=agM from rfl,ol,ww,l0,g0,bn b1,aC b2,aD b3]
   have gw:=dG (l:=c.ae.aq) (i:=d0.2.1) (by omega) (by omega)
   by_cases b4:c.ae.aq[d0.2.1.toNat]!<0
   · refine stop (D9 (d0.1=(c.ai.ce[i]!).1/\_) afa (fun h=>by have:=(ea.2 h.2).2.2.1;omega)) ?_
     unfold cO;simp only [ay,e1,lw,ar c.ai.ce i uq,aj,hw,is,show ((0:Int) !=0)=agM from rfl,ol,ww,l0,g0,bn b1,aC b2,aC b3,gw,aD b4]
   have gh:=dG (l:=c.ae.bv) (i:=c.ae.aq[d0.2.1.toNat]!) (by omega) (Wh ng (by omega) (by omega))
   have sl:fW (d0::ds) 1 ((((d0::ds).length:Nat):Int))=agH ds:=by
    unfold fW;rw [pp ⟨by omega,by simp;omega,by omega⟩]
    simp
   have evq: ∀(e:Ev) (p:Int×Int) (n:Int) (h:Int×Int),((e.1==p.1)&&((e.2.1==p.2)&&((e.2.2.1==n)&&((e.2.2.2.1==h.1)&&(e.2.2.2.2==h.2)))))=agO (e=(p.1,p.2,n,h)):=by
    intro e p n h;rw [aff,decide_eq_true_iff];simp only [afQ,beq_iff_eq];constructor
    · rintro ⟨h1,h2,h3,h4,h5⟩
      exact NE h1 (NE h2 (NE h3 (NE h4 h5)))
    intro h;rw [h];exact ⟨rfl,rfl,rfl,rfl,rfl⟩
   have arL:=evq c.ae.bv[(c.ae.aq[d0.2.1.toNat]!).toNat]! (bD c.ii.am (c.ai.ce[i]!).2 c.ci).1 (c.ai.ce[i]!).1 d0.2
   by_cases b5:c.ae.bv[(c.ae.aq[d0.2.1.toNat]!).toNat]! =((bD c.ii.am (c.ai.ce[i]!).2 c.ci).1.1,(bD c.ii.am (c.ai.ce[i]!).2 c.ci).1.2,(c.ai.ce[i]!).1,d0.2)
   case neg=>
    refine stop (D9 (d0.1=(c.ai.ce[i]!).1/\_) afa (fun h=>b5 (ea.2 h.2).2.2.2)) ?_
    unfold cO;simp only [ay,e1,lw,ar c.ai.ce i uq,aj,hw,is,show ((0:Int) !=0)=agM from rfl,ol,ww,l0,g0,bn b1,aC b2,aC b3,gw,aC b4,gh];rw [arL,aC b5];rfl
   have zB:=ea.1 ⟨by omega,by omega,by omega,b5⟩
   rw [ba (y:=(ds,c.ai.ce,((agG c.ai.ce):Int),((i+1:Nat):Int),c.ci.1,c.ci.2,c.ii.am,c.ai.aM,c.ai.ce,c.ae.af.aA,c.ae.af.be,c.ae.af.bi,c.ae.bv,c.ae.aq,c.io)) (by
    unfold cO;simp only [ay,e1,lw,ar c.ai.ce i uq,aj,hw,is,show ((0:Int) !=0)=agM from rfl,ol,ww,l0,g0,bn b1,aC b2,aC b3,gw,aC b4,gh,sl,sc];rw [arL,aD b5]
    rfl),ih (i+1) ds (by omega) (by omega) (by simp at Xf;omega)]
   have same:((∀j,i<=j->j<agG c.ai.ce->jm c.ii.am (c.ai.ce[j]!).2)/\aW c.ii.am c.ci c.ae.bv (c.ai.ce.drop i) (d0::ds))↔((∀j,i+1<=j->j<agG c.ai.ce->jm c.ii.am (c.ai.ce[j]!).2)/\aW c.ii.am c.ci c.ae.bv (c.ai.ce.drop (i+1)) ds):=by
    rw [dr,all];constructor
    · rintro ⟨⟨_,h1⟩,h2⟩
      obtain ⟨d,zD,k1,k2,k3,k4⟩:=h2.1 is;injection k1 with k1 k5;subst k5;exact ⟨h1,k4⟩
    rintro ⟨h1,h2⟩
    exact ⟨⟨hb,h1⟩,fun _=>⟨d0,ds,rfl,b1,zB,h2⟩,fun h=>by rw [is] at h;cases h⟩
   simp only [same]
theorem bk.iff {c:aP} (fit:oO c):bk c↔cC c.ci/\bw c.ii.am/\eL c.ai/\eH c.ae/\agG c.ae.aq=200/\agG c.ae.bv=agG c.io/\(∀i,i<agG c.ai.ce->jm c.ii.am (c.ai.ce[i]!).2)/\aW c.ii.am c.ci c.ae.bv c.ai.ce c.io:=
 ⟨fun h=>⟨h.pG,h.ie,h.uO,h.ng,h.Kg,h.hd,h.known,h.D9⟩,fun ⟨h1,h2,h3,h4,h5,h6,h7,h8⟩=>⟨h1,fit.gF,h2,h3,h4,h5,h6,h7,h8⟩⟩
theorem bk.fit {c:aP} (ok:bk c):oO c:=⟨ok.gF,ok.ng.fit,by have:=ok.hd;have:=ok.ng.bd;omega⟩
theorem MX {c:aP} {n0 n1 n2 n3:Int}:
 az eT (4,0,c.ci.1,c.ci.2,c.ii.am,c.ai.aM,c.ai.ce,c.ae.af.aA,c.ae.af.be,c.ae.af.bi,c.ae.bv,c.ae.aq,c.io,[n0,n1,n2,n3])=
  if n0=0/\n1=0/\n2=0/\n3=0 then az eT (4,4,c.ci.1,c.ci.2,c.ii.am,c.ai.aM,c.ai.ce,c.ae.af.aA,c.ae.af.be,c.ae.af.bi,c.ae.bv,c.ae.aq,c.io,[n0,n1,n2,n3]) else agH 8:=by
 have st: ∀(i:Nat) (n:Int),i<4->aI [n0,n1,n2,n3] (i:Int)=agH n->az eT (4,(i:Int),c.ci.1,c.ci.2,c.ii.am,c.ai.aM,c.ai.ce,c.ae.af.aA,c.ae.af.be,c.ae.af.bi,c.ae.bv,c.ae.aq,c.io,[n0,n1,n2,n3])=
  if n=0 then az eT (4,((i+1:Nat):Int),c.ci.1,c.ci.2,c.ii.am,c.ai.aM,c.ai.ce,c.ae.af.aA,c.ae.af.be,c.ae.af.bi,c.ae.bv,c.ae.aq,c.io,[n0,n1,n2,n3]) else agH 8:=by
  intro i n hi hg;have e1:agO ((i:Int)<4)=agJ:=aD (by omega)
  by_cases h:n=0
  · rw [pp h]
    refine ba ?_;unfold eT;simp only [e1,lw,hg,aj,bn h,ol,aR (show i<1000000000 by omega)]
  rw [rc h]
  refine aH ?_;unfold eT;simp only [e1,lw,hg,aj,cK h]
 have s0:=st 0 n0 (by omega) rfl
 have s1:=st 1 n1 (by omega) rfl
 have s2:=st 2 n2 (by omega) rfl
 have s3:=st 3 n3 (by omega) rfl
 have c0:((0:Nat):Int)=0:=rfl;have c4:((3+1:Nat):Int)=4:=rfl;rw [c0] at s0;rw [c4] at s3;rw [s0]
 by_cases h0:n0=0
 · rw [pp h0,show ((0+1:Nat):Int)=((1:Nat):Int) from rfl,s1]
   by_cases h1:n1=0
   · rw [pp h1,show ((1+1:Nat):Int)=((2:Nat):Int) from rfl,s2]
     by_cases h2:n2=0
     · rw [pp h2,show ((2+1:Nat):Int)=((3:Nat):Int) from rfl,s3]
       by_cases h3:n3=0
       · rw [pp h3,pp ⟨h0,h1,h2,h3⟩]
       rw [rc h3,rc (fun h=>h3 h.2.2.2)]
     rw [rc h2,rc (fun h=>h2 h.2.2.1)]
   rw [rc h1,rc (fun h=>h1 h.2.1)]
 rw [rc h0,rc (fun h=>h0 h.1)]
theorem lW {c:aP} (fit:oO c):gq c=agH (if bk c then 0 else 8):=by
 unfold gq;rw [fN fit.gF,fQ,uJ,kN _ fit.ag];simp only [aj];have h4:Int.ofNat [if cC c.ci then (0:Int) else 8,sW c.ii.am,if eL c.ai then (0:Int) else 8,if eH c.ae then (0:Int) else 8].length=4:=rfl
 rw [h4,MX];have z: ∀(p:Prop) [Decidable p],(if p then (0:Int) else 8)=0↔p:=fun p _=>by by_cases h:p<;>simp [h]
 simp only [z,dP];have f1:=bk.iff fit
 by_cases ok:cC c.ci/\bw c.ii.am/\eL c.ai/\eH c.ae
 case neg=>rw [rc ok,rc (c:=bk c) (fun h=>ok ⟨h.pG,h.ie,h.uO,h.ng⟩)]
 obtain ⟨pG,ie,uO,ng⟩:=ok;rw [pp ⟨pG,ie,uO,ng⟩]
 by_cases w2:(agG c.ae.aq)=200
 case neg=>
  rw [rc (c:=bk c) (fun h=>w2 h.Kg)]
  refine aH ?_;unfold eT;simp only [ay,aC (show¬(4:Int)<4 by omega),ol,cK (show¬((agG c.ae.aq):Int)=200 by omega),lw]
 by_cases hd:(agG c.ae.bv)=agG c.io
 case neg=>
  rw [rc (c:=bk c) (fun h=>hd h.hd)]
  refine aH ?_;unfold eT;simp only [ay,aC (show¬(4:Int)<4 by omega),ol,bn (show ((agG c.ae.aq):Int)=200 by omega),cK (show¬((agG c.ae.bv):Int)=((agG c.io):Int) by omega),lw]
 have run:=MW pG fit.gF ie uO ng w2 (agG c.ai.ce) 0 c.io (by omega) (by omega) fit.du
 rw [afh] at run;have same:((∀j,0<=j->j<agG c.ai.ce->jm c.ii.am (c.ai.ce[j]!).2)/\aW c.ii.am c.ci c.ae.bv c.ai.ce c.io)↔bk c:=by
  rw [f1];constructor
  · rintro ⟨h1,h2⟩;exact ⟨pG,ie,uO,ng,w2,hd,fun i hi=>h1 i (by omega) hi,h2⟩
  rintro ⟨_,_,_,_,_,_,h1,h2⟩;exact ⟨fun j _ hj=>h1 j hj,h2⟩
 simp only [same] at run;refine aH ?_;unfold eT;simp only [ay,aC (show¬(4:Int)<4 by omega),ol,bn (show ((agG c.ae.aq):Int)=200 by omega),bn (show ((agG c.ae.bv):Int)=((agG c.io):Int) by omega)]
 exact run
theorem aeH {a:aK} (ok:eH a) (h:Int×Int):sR a h=agH (if tU a.af h then (a.bv[(a.aq[h.1.toNat]!).toNat]!,0) else ((0,0,0,0,0),6)):=by
 unfold sR;rw [yv a ok.fit,pp ok,Rg ok.so];simp only [aj,show ((0:Int) !=0)=agM from rfl,ol]
 by_cases lv:tU a.af h
 · obtain ⟨i,hi,hw,hh⟩:=ok.live lv
   have:=lv.1;have:=lv.2.1;have:=ok.wl
   rw [aD lv,pp lv,dG (l:=a.aq) lv.1 (by omega),hw]
   simp only [ww,ol,aj,ar a.bv i hi,AC]
 rw [aC lv,rc lv];rfl
theorem MY {c:aP} (gF:o4 c.ci) (ie:bw c.ii.am) (uO:eL c.ai) (ng:eH c.ae) (w2:(agG c.ae.aq)=200) (hdu:(agG c.io)<=1000000)
 (kn: ∀i,i<agG c.ai.ce->jm c.ii.am (c.ai.ce[i]!).2):
 ∀(d i k:Nat),agG c.ai.ce-i<=d->i<=agG c.ai.ce->k<=agG c.io->
  az dB ((k:Int),(i:Int),c.ci.1,c.ci.2,c.ii.am,c.ai.aM,c.ai.ce,c.ae.af.aA,c.ae.af.be,c.ae.af.bi,c.ae.bv,c.ae.aq,c.io)=
   agH (if aW c.ii.am c.ci c.ae.bv (c.ai.ce.drop i) (c.io.drop k) then 0 else 8):=by
 have hl:=uO.len;have wl:=ng.wl
 have fin: ∀k:Nat,k<=agG c.io->az dB ((k:Int),((agG c.ai.ce):Int),c.ci.1,c.ci.2,c.ii.am,c.ai.aM,c.ai.ce,c.ae.af.aA,c.ae.af.be,c.ae.af.bi,c.ae.bv,c.ae.aq,c.io)=agH (if aW c.ii.am c.ci c.ae.bv (c.ai.ce.drop (agG c.ai.ce)) (c.io.drop k) then 0 else 8):=by
  intro k hk;rw [ae9];refine aH ?_;unfold dB;have e1:agO (((agG c.ai.ce):Int)<((agG c.ai.ce):Int))=agM:=aC (by omega)
  simp only [ay,e1,ol]
  have:aW c.ii.am c.ci c.ae.bv [] (c.io.drop k)↔k=(agG c.io):=by
   show c.io.drop k=[]↔_;rw [af2];omega
  by_cases h:k=agG c.io
  · rw [pp (this.2 h),bn (by omega)];rfl
  rw [rc (fun x=>h (this.1 x)),cK (by omega)];rfl
 intro d
 induction d with
 |zero=>
  intro i k hd hi hk
  have:i=(agG c.ai.ce):=by omega
  subst this;exact fin k hk
 |succ d ih=>
  intro i k hd hi hk
  by_cases he:i=agG c.ai.ce
  · subst he;exact fin k hk
  have uq:i<(agG c.ai.ce):=by omega
  have e1:agO ((i:Int)<((agG c.ai.ce):Int))=agJ:=aD (by omega)
  have hw:=uM ie (x:=(c.ai.ce[i]!).2) (t:=(c.ci.1,c.ci.2)) gF (kn i uq);have dr:=sj uq;have sc:=aR (show i<1000000000 by omega)
  have sk:=aR (show k<1000000000 by omega)
  by_cases is:(bD c.ii.am (c.ai.ce[i]!).2 c.ci).2=agJ
  case neg=>
   have is':(bD c.ii.am (c.ai.ce[i]!).2 c.ci).2=agM:=by simpa using is
   rw [ba (y:=((k:Int),((i+1:Nat):Int),c.ci.1,c.ci.2,c.ii.am,c.ai.aM,c.ai.ce,c.ae.af.aA,c.ae.af.be,c.ae.af.bi,c.ae.bv,c.ae.aq,c.io)) (by
    unfold dB;simp only [ay,e1,lw,ar c.ai.ce i uq,aj,hw,sc,is',UV]),ih (i+1) k (by omega) (by omega) hk]
   have same:aW c.ii.am c.ci c.ae.bv (c.ai.ce.drop i) (c.io.drop k)↔aW c.ii.am c.ci c.ae.bv (c.ai.ce.drop (i+1)) (c.io.drop k):=by
    rw [dr];exact ⟨fun h=>h.2 is',fun h=>⟨fun h'=>absurd h' is,fun _=>h⟩⟩
   simp only [same]
  have stop:(¬aW c.ii.am c.ci c.ae.bv (c.ai.ce.drop i) (c.io.drop k))->dB ((k:Int),(i:Int),c.ci.1,c.ci.2,c.ii.am,c.ai.aM,c.ai.ce,c.ae.af.aA,c.ae.af.be,c.ae.af.bi,c.ae.bv,c.ae.aq,c.io)=agH (.done 8)->
   az dB ((k:Int),(i:Int),c.ci.1,c.ci.2,c.ii.am,c.ai.aM,c.ai.ce,c.ae.af.aA,c.ae.af.be,c.ae.af.bi,c.ae.bv,c.ae.aq,c.io)=agH (if aW c.ii.am c.ci c.ae.bv (c.ai.ce.drop i) (c.io.drop k) then 0 else 8):=by
   intro h1 h2;rw [rc h1];exact aH h2
  by_cases Tm:k=agG c.io
  · refine stop (fun h=>?_) ?_
    · rw [dr] at h
      obtain ⟨d,zD,h1,_⟩:=h.1 is;rw [Tm,ae9] at h1;cases h1
    unfold dB
    simp only [ay,e1,lw,ar c.ai.ce i uq,aj,hw,is,ww,ol,aD (show ((agG c.io):Int)<=(k:Int) by omega)]
  have Lj:k<(agG c.io):=by omega
  have dk:=sj Lj;have e2:agO (((agG c.io):Int)<=(k:Int))=agM:=aC (by omega)
  have D9: ¬((c.io[k]!).1=(c.ai.ce[i]!).1/\(((bD c.ii.am (c.ai.ce[i]!).2 c.ci).1.1,(bD c.ii.am (c.ai.ce[i]!).2 c.ci).1.2,(c.ai.ce[i]!).1,(c.io[k]!).2):Ev)∈c.ae.bv)-> ¬aW c.ii.am c.ci c.ae.bv (c.ai.ce.drop i) (c.io.drop k):=by
   intro hn h;rw [dr,dk] at h;obtain ⟨d,zD,h1,h2,h3,_⟩:=h.1 is;injection h1 with h1 _;subst h1;exact hn ⟨h2,h3⟩
  by_cases b1:(c.io[k]!).1=(c.ai.ce[i]!).1
  case neg=>
   refine stop (D9 (fun h=>b1 h.1)) ?_
   unfold dB;simp only [ay,e1,lw,ar c.ai.ce i uq,aj,hw,is,ww,ol,e2,ar c.io k Lj,cK b1]
  have fi:=aeH ng (c.io[k]!).2;have ea:=af1 ng w2 (bD c.ii.am (c.ai.ce[i]!).2 c.ci).1 (c.ai.ce[i]!).1 (c.io[k]!).2;have fi':sR (aK.mk (bc.mk c.ae.af.aA c.ae.af.be c.ae.af.bi) c.ae.bv c.ae.aq) (c.io[k]!).2=_:=fi
  by_cases lv:tU c.ae.af (c.io[k]!).2
  case neg=>
   rw [rc lv] at fi';refine stop (D9 (fun h=>lv ?_)) ?_
   · obtain ⟨w,WW,gL⟩:=aS.1 h.2
     have:=(ng.handle WW).1
     rwa [gL] at this
   unfold dB
   simp only [ay,e1,lw,ar c.ai.ce i uq,aj,hw,is,ww,ol,e2,ar c.io k Lj,bn b1,fi',show ((6:Int) !=0)=agJ from rfl]
  rw [pp lv] at fi';obtain ⟨w,hw1,Xg,hw3⟩:=ng.live lv;rw [Xg,AC] at fi';have q1:(0<=(c.io[k]!).2.1/\(c.io[k]!).2.1<200/\0<=c.ae.aq[(c.io[k]!).2.1.toNat]!):=⟨lv.1,by have:=lv.2.1;omega,by rw [Xg];omega⟩
  by_cases b2:(c.ae.bv[w]!).2.2.1=(c.ai.ce[i]!).1
  case neg=>
   refine stop (D9 (fun h=>b2 ?_)) ?_
   · have:=(ea.2 h.2).2.2.2
     rw [Xg,AC] at this;rw [this]
   unfold dB
   simp only [ay,e1,lw,ar c.ai.ce i uq,aj,hw,is,ww,ol,e2,ar c.io k Lj,bn b1,fi',show ((0:Int) !=0)=agM from rfl,cK b2]
  have teq:((c.ae.bv[w]!).1==(bD c.ii.am (c.ai.ce[i]!).2 c.ci).1.1&&(c.ae.bv[w]!).2.1==(bD c.ii.am (c.ai.ce[i]!).2 c.ci).1.2)=agO (((c.ae.bv[w]!).1,(c.ae.bv[w]!).2.1)=(bD c.ii.am (c.ai.ce[i]!).2 c.ci).1):=by
   rw [aff,decide_eq_true_iff];simp only [afQ,beq_iff_eq];constructor
   · rintro ⟨h1,h2⟩;exact NE h1 h2
   intro h;rw [<- h];exact ⟨rfl,rfl⟩
  by_cases b3:((c.ae.bv[w]!).1,(c.ae.bv[w]!).2.1)=(bD c.ii.am (c.ai.ce[i]!).2 c.ci).1
  case neg=>
   refine stop (D9 (fun h=>b3 ?_)) ?_
   · have:=(ea.2 h.2).2.2.2
     rw [Xg,AC] at this;rw [this]
   unfold dB
   simp only [ay,e1,lw,ar c.ai.ce i uq,aj,hw,is,ww,ol,e2,ar c.io k Lj,bn b1,fi',show ((0:Int) !=0)=agM from rfl,bn b2];rw [teq,aC b3];rfl
  have zB:=ea.1 ⟨q1.1,q1.2.1,q1.2.2,by
   rw [Xg,AC];have t1:=congrArg agb b3;have t2:=congrArg agc b3;exact NE t1 (NE t2 (NE b2 hw3))⟩
  rw [ba (y:=(((k+1:Nat):Int),((i+1:Nat):Int),c.ci.1,c.ci.2,c.ii.am,c.ai.aM,c.ai.ce,c.ae.af.aA,c.ae.af.be,c.ae.af.bi,c.ae.bv,c.ae.aq,c.io)) (by
   unfold dB;simp only [ay,e1,lw,ar c.ai.ce i uq,aj,hw,is,ww,ol,e2,ar c.io k Lj,bn b1,fi',show ((0:Int) !=0)=agM from rfl,bn b2,sc,sk];rw [teq,aD b3]
   rfl),ih (i+1) (k+1) (by omega) (by omega) (by omega)]
  have same:aW c.ii.am c.ci c.ae.bv (c.ai.ce.drop i) (c.io.drop k)↔aW c.ii.am c.ci c.ae.bv (c.ai.ce.drop (i+1)) (c.io.drop (k+1)):=by
   rw [dr,dk];constructor
   · intro h2
     obtain ⟨d,zD,k1,k2,k3,k4⟩:=h2.1 is;injection k1 with k1 k5;subst k5;exact k4
   intro h2
   exact ⟨fun _=>⟨_,_,rfl,b1,zB,h2⟩,fun h=>by rw [is] at h;cases h⟩
  simp only [same]
theorem yC {c:aP} (fit:oO c):qM c=agH (if bk c then 0 else 8):=by
 unfold qM;rw [yo fit.gF,jS,yA,yv _ fit.ag];simp only [aj]
 by_cases pG:cC c.ci
 case neg=>rw [rc pG,rc (c:=bk c) (fun h=>pG h.pG)];rfl
 rw [pp pG]
 by_cases ie:bw c.ii.am
 case neg=>rw [cK (fun h=>ie (dP.1 h)),rc (c:=bk c) (fun h=>ie h.ie)];rfl
 rw [bn (dP.2 ie)]
 by_cases uO:eL c.ai
 case neg=>rw [rc uO,rc (c:=bk c) (fun h=>uO h.uO)];rfl
 rw [pp uO];have kn:=Wg c.ai ie uO.len;simp only [show ((0:Int) !=0)=agM from rfl,ol,kn,aj]
 by_cases known: ∀i,i<agG c.ai.ce->jm c.ii.am (c.ai.ce[i]!).2
 case neg=>rw [aC known,rc (c:=bk c) (fun h=>known h.known)];rfl
 rw [aD known]
 by_cases ng:eH c.ae
 case neg=>rw [rc ng,rc (c:=bk c) (fun h=>ng h.ng)];rfl
 rw [pp ng];simp only [ay,show ((0:Int) !=0)=agM from rfl,ol,ww]
 by_cases w2:(agG c.ae.aq)=200
 case neg=>rw [cK (by omega),rc (c:=bk c) (fun h=>w2 h.Kg)];rfl
 rw [bn (by omega)]
 by_cases hd:(agG c.ae.bv)=agG c.io
 case neg=>rw [cK (by omega),rc (c:=bk c) (fun h=>hd h.hd)];rfl
 rw [bn (by omega)]
 have run:=MY fit.gF ie uO ng w2 fit.du known (agG c.ai.ce) 0 0 (by omega) (by omega) (by omega)
 rw [afh,afh] at run;have same:aW c.ii.am c.ci c.ae.bv c.ai.ce c.io↔bk c:=by
  rw [bk.iff fit];exact ⟨fun h=>⟨pG,ie,uO,ng,w2,hd,known,h⟩,fun h=>h.2.2.2.2.2.2.2⟩
 simp only [same] at run;simp only [ol];exact run
section
variable {l : List Pt} {t : Int × Int}
theorem aW.ic {H:List Ev} {x:rl} {cs ds:List rl} (h:(bD l x.2 t).2=agJ):aW l t H (x::cs) ds↔ ∃d zD,ds=d::zD/\d.1=x.1/\(((bD l x.2 t).1.1,(bD l x.2 t).1.2,x.1,d.2):Ev)∈H/\aW l t H cs zD:=
 ⟨fun k=>k.1 h,fun k=>⟨fun _=>k,fun k'=>(by rw [h] at k';cases k')⟩⟩
theorem aW.gb {H:List Ev} {x:rl} {cs ds:List rl} (h:(bD l x.2 t).2=agM):aW l t H (x::cs) ds↔aW l t H cs ds:=
 ⟨fun k=>k.2 h,fun k=>⟨fun k'=>(by rw [h] at k';cases k'),fun _=>k⟩⟩
theorem aW.mono {H H':List Ev}: ∀{cs ds:List rl},(∀x∈cs,∀e:Ev,e.num=x.1->e∈H->e∈H')->aW l t H cs ds->aW l t H' cs ds
 | [],_,_,h=>h
 |x::cs,ds,hm,h=>by
  have CG: ∀y∈cs,∀e:Ev,e.num=y.1->e∈H->e∈H':=fun y hy=>hm y (by simp [hy])
  cases hx:(bD l x.2 t).2 with
  |true=>
   rw [aW.ic hx] at h ⊢;obtain ⟨d,zD,h1,h2,h3,h4⟩:=h;exact ⟨d,zD,h1,h2,hm x (by simp) _ rfl h3,aW.mono CG h4⟩
  |false=>
   rw [aW.gb hx] at h ⊢;exact aW.mono CG h
theorem aW.io {H:List Ev}: ∀{cs ds:List rl},aW l t H cs ds-> ∀d∈ds,∃x∈cs,d.1=x.1/\(bD l x.2 t).2=agJ/\(((bD l x.2 t).1.1,(bD l x.2 t).1.2,x.1,d.2):Ev)∈H
 | [],ds,h,d,hd=>by
  have:ds=[]:=h
  subst this;cases hd
 |x::cs,ds,h,d,hd=>by
  cases hx:(bD l x.2 t).2 with
  |true=>
   rw [aW.ic hx] at h;obtain ⟨e,zD,h1,h2,h3,h4⟩:=h;subst h1;rcases afk.1 hd with rfl|hd
   · exact ⟨x,by simp,h2,hx,h3⟩
   obtain ⟨y,hy,k⟩:=aW.io h4 d hd
   exact ⟨y,by simp [hy],k⟩
  |false=>
   rw [aW.gb hx] at h;obtain ⟨y,hy,k⟩:=aW.io h d hd;exact ⟨y,by simp [hy],k⟩
theorem aW.has {H:List Ev}: ∀{cs ds:List rl},aW l t H cs ds-> ∀x∈cs,(bD l x.2 t).2=agJ-> ∃d∈ds,d.1=x.1/\(((bD l x.2 t).1.1,(bD l x.2 t).1.2,x.1,d.2):Ev)∈H
 | [],_,_,x,hx,_=>by cases hx
 |y::cs,ds,h,x,hx,hf=>by
  cases hy:(bD l y.2 t).2 with
  |true=>
   rw [aW.ic hy] at h;obtain ⟨e,zD,h1,h2,h3,h4⟩:=h;subst h1;rcases afk.1 hx with rfl|hx
   · exact ⟨e,by simp,h2,h3⟩
   obtain ⟨d,hd,k⟩:=aW.has h4 x hx hf
   exact ⟨d,by simp [hd],k⟩
  |false=>
   rw [aW.gb hy] at h;rcases afk.1 hx with rfl|hx
   · rw [hf] at hy;cases hy
   exact aW.has h x hx hf
def Up (cs:List rl):Prop:=cs.Pairwise fun x y=>x.1<y.1
theorem rV {cs:List rl}:Up cs↔ ∀i j,i<j->j<agG cs->(cs[i]!).1<(cs[j]!).1:=by
 unfold Up;rw [List.pairwise_iff_getElem];constructor
 · intro h i j lg hj
   rw [getElem!_pos cs i (by omega),getElem!_pos cs j hj]
   exact h i j (by omega) hj lg
 intro h i j hi hj lg
 have:=h i j lg hj
 rwa [getElem!_pos cs i hi,getElem!_pos cs j hj] at this
theorem aW.up {H:List Ev}: ∀{cs ds:List rl},aW l t H cs ds->Up cs->Up ds
 | [],ds,h,_=>by
  have:ds=[]:=h
  subst this;exact List.Pairwise.nil
 |x::cs,ds,h,hu=>by
  have Cl:=afE.1 hu;cases hx:(bD l x.2 t).2 with
  |true=>
   rw [aW.ic hx] at h;obtain ⟨e,zD,h1,h2,h3,h4⟩:=h;subst h1;refine afE.2 ⟨fun d hd=>?_,aW.up h4 Cl.2⟩
   obtain ⟨y,hy,k,_⟩:=aW.io h4 d hd
   have:=Cl.1 y hy
   omega
  |false=>
   rw [aW.gb hx] at h;exact aW.up h Cl.2
theorem aW.snoc {H:List Ev}: ∀{cs ds:List rl} {x:rl},aW l t H cs ds->((bD l x.2 t).2=agM->aW l t H (cs++[x]) ds)/\
 (∀d:rl,(bD l x.2 t).2=agJ->d.1=x.1->(((bD l x.2 t).1.1,(bD l x.2 t).1.2,x.1,d.2):Ev)∈H->aW l t H (cs++[x]) (ds++[d]))
 | [],ds,x,h=>by
  have:ds=[]:=h
  subst this;refine ⟨fun hx=>(aW.gb hx).2 rfl,fun d hx h1 h2=>(aW.ic hx).2 ⟨d,[],rfl,h1,h2,rfl⟩⟩
 |y::cs,ds,x,h=>by
  cases hy:(bD l y.2 t).2 with
  |true=>
   rw [aW.ic hy] at h;obtain ⟨e,zD,h1,h2,h3,h4⟩:=h;subst h1;have ih:=aW.snoc (x:=x) h4;refine ⟨fun hx=>(aW.ic hy).2 ⟨e,zD,rfl,h2,h3,ih.1 hx⟩,fun d hx k1 k2=>(aW.ic hy).2 ⟨e,zD++[d],rfl,h2,h3,ih.2 d hx k1 k2⟩⟩
  |false=>
   rw [aW.gb hy] at h;have ih:=aW.snoc (x:=x) h;exact ⟨fun hx=>(aW.gb hy).2 (ih.1 hx),fun d hx k1 k2=>(aW.gb hy).2 (ih.2 d hx k1 k2)⟩
theorem aW.erase {H:List Ev}: ∀{cs ds:List rl} {i:Nat},aW l t H cs ds->i<agG cs->((bD l (cs[i]!).2 t).2=agM->aW l t H (cs.eraseIdx i) ds)/\
 ((bD l (cs[i]!).2 t).2=agJ-> ∃k,k<agG ds/\(ds[k]!).1=(cs[i]!).1/\(((bD l (cs[i]!).2 t).1.1,(bD l (cs[i]!).2 t).1.2,(cs[i]!).1,(ds[k]!).2):Ev)∈H/\aW l t H (cs.eraseIdx i) (ds.eraseIdx k))
 | [],_,i,_,hi=>by cases hi
 |y::cs,ds,0,h,_=>by
  show ((bD l y.2 t).2=agM->aW l t H cs ds)/\((bD l y.2 t).2=agJ-> ∃k,k<agG ds/\(ds[k]!).1=y.1/\(((bD l y.2 t).1.1,(bD l y.2 t).1.2,y.1,(ds[k]!).2):Ev)∈H/\aW l t H cs (ds.eraseIdx k));refine ⟨fun hy=>(aW.gb hy).1 h,fun hy=>?_⟩
  obtain ⟨e,zD,h1,h2,h3,h4⟩:=(aW.ic hy).1 h;subst h1;exact ⟨0,by simp,h2,h3,h4⟩
 |y::cs,ds,i+1,h,hi=>by
  have uq:i<(agG cs):=by simpa using hi
  show ((bD l (cs[i]!).2 t).2=agM->aW l t H (y::cs.eraseIdx i) ds)/\((bD l (cs[i]!).2 t).2=agJ-> ∃k,k<agG ds/\(ds[k]!).1=(cs[i]!).1/\(((bD l (cs[i]!).2 t).1.1,(bD l (cs[i]!).2 t).1.2,(cs[i]!).1,(ds[k]!).2):Ev)∈H/\aW l t H (y::cs.eraseIdx i) (ds.eraseIdx k));cases hy:(bD l y.2 t).2 with
  |true=>
   obtain ⟨e,zD,h1,h2,h3,h4⟩:=(aW.ic hy).1 h;subst h1;have ih:=aW.erase (i:=i) h4 uq;refine ⟨fun hx=>(aW.ic hy).2 ⟨e,zD,rfl,h2,h3,ih.1 hx⟩,fun hx=>?_⟩
   obtain ⟨k,k1,k2,k3,k4⟩:=ih.2 hx;exact ⟨k+1,by simp;omega,k2,k3,(aW.ic hy).2 ⟨e,zD.eraseIdx k,rfl,h2,h3,k4⟩⟩
  |false=>
   have h:=(aW.gb hy).1 h;have ih:=aW.erase (i:=i) h uq;refine ⟨fun hx=>(aW.gb hy).2 (ih.1 hx),fun hx=>?_⟩
   obtain ⟨k,k1,k2,k3,k4⟩:=ih.2 hx;exact ⟨k,k1,k2,k3,(aW.gb hy).2 k4⟩
end
theorem DP {H:List Ev} {ns:List Int} (hd:ns.Nodup) (hl:(agG H)<=agG ns) (he: ∀n∈ns,∃e∈H,Ev.num e=n): ∀e∈H,Ev.num e∈ns:=by
 have pos: ∀n,n∈ns-> ∃w,w<agG H/\Ev.num H[w]! =n:=fun n hn=>by
  obtain ⟨e,he,h2⟩:=he n hn;obtain ⟨w,hw,rfl⟩:=aS.1 he;exact ⟨w,hw,h2⟩
 let f:Int->Nat:=fun n=>if h: ∃w,w<agG H/\Ev.num H[w]! =n then h.choose else 0
 have hf: ∀n∈ns,f n<agG H/\Ev.num H[f n]! =n:=fun n hn=>by
  have h:=pos n hn;show (if h: ∃w,w<agG H/\Ev.num H[w]! =n then h.choose else 0)<_/\Ev.num H[(if h: ∃w,w<agG H/\Ev.num H[w]! =n then h.choose else 0)]! =n
  rw [dif_pos h];exact h.choose_spec
 have full:=DK (n:=agG H) (l:=ns.map f) (zp hd fun x hx y hy h=>by
  have h1:=(hf x hx).2;have h2:=(hf y hy).2;rw [h] at h1
  omega) (fun x hx=>by
  obtain ⟨n,hn,rfl⟩:=PP.1 hx;exact (hf n hn).1) (by rw [afU];exact hl)
 intro e hm;obtain ⟨w,hw,rfl⟩:=aS.1 hm;obtain ⟨n,hn,h⟩:=PP.1 (full w hw);rw [<- h,(hf n hn).2];exact hn
theorem MZ {cs:List rl} (h:Up cs):(cs.map fun x=>x.1).Nodup:=by
 refine zp ?_ ?_
 · unfold Up at h
   exact h.imp fun RG he=>by rw [he] at RG;omega
 intro x hx y hy he
 obtain ⟨i,hi,rfl⟩:=aS.1 hx;obtain ⟨j,hj,rfl⟩:=aS.1 hy;rcases af5 i j with h1|h1|h1
 · have:=rV.1 h i j h1 hj;omega
 · rw [h1]
 have:=rV.1 h j i h1 hi;omega
theorem bk.wU {c:aP} (ok:bk c):Up c.ai.ce:=rV.2 ok.uO.up
theorem bk.GG {c:aP} (ok:bk c):Up c.io:=ok.D9.up ok.wU
theorem bk.A2 {c:aP} (ok:bk c): ∀e∈c.ae.bv,∃d∈c.io,d.1=Ev.num e:=by
 have:=DP (H:=c.ae.bv) (MZ ok.GG) (by rw [afU,ok.hd];exact Do _) (fun n hn=>by
  obtain ⟨d,hd,rfl⟩:=PP.1 hn;obtain ⟨x,hx,h1,h2,h3⟩:=ok.D9.io d hd;exact ⟨_,h3,h1.symm⟩)
 intro e he;obtain ⟨d,hd,h⟩:=PP.1 (this e he);exact ⟨d,hd,h⟩
end Go.Proofs.YtbgoiokedpjgbaaGreat
