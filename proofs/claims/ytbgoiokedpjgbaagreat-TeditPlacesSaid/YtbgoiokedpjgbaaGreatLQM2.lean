/- Plain laws (2). -/
import Derived.Test.YtbgoiokedpjgbaaGreatLQM1
open Classical renaming not_not->ut,not_forall->EQ,not_imp->If
open List renaming length_set->v6,length_take->F0s,take_of_length_le->IR,take_append_of_le_length->M2,mem_map->PP,append_assoc->acl,drop_length->adc,drop_eq_nil_iff->ae0,length_append->ae3,set_eq_of_length_le->aem,length_drop->aet,drop_eq_nil_of_le->aew,drop_zero->aeB,filter_eq_self->aeC,mem_cons->aeE,getElem?_take->aeF,filter_append->aeH,pairwise_cons->aeJ,getElem?_set->aeZ,length_cons->af0,isEmpty_iff->af3,length_nil->af9,append_nil->afa,length_map->afb,replicate->afc,take_take->afe,set_comm->afo,length->afA
open Bool renaming not_true->ww,not_false->UV,eq_iff_iff->aex,and_eq_true->af5,and_self->afp,true->afK,false->afO
open Int renaming toNat_natCast->AC,lt_irrefl->aeD
open Nat renaming le_refl->Do,ble_eq_true_of_le->acK,lt_trichotomy->ae5,sub_self->aev,eq_of_beq_eq_true->aeA,le_trans->aft,beq->afu,min_self->afv
open Prod renaming ext->NE,fst->afm,snd->afn
open Iff renaming rfl->aeu
open Option renaming some->afI
open Decidable renaming decide->afX
namespace Go.Proofs.YtbgoiokedpjgbaaGreat
open Go.Vm Classical
theorem JO (a:aM) (fit:x9 a) (so:eM a.af) (wl:(afA a.aj)=afA a.af.aB):
 ax kE (a.aj,((afA a.aj):Int),0,a.af.aB,a.af.be,a.af.bi,a.bv,a.aj)=afI (if (∀i,i<afA a.af.aB->F3 a i)/\(∀k,k<afA a.bv->G8 a.bv k) then 0 else 8):=by
 have hu:=so.ul;have hn:=so.n2;have hh:=fit.hp;have FP:=JN a.bv a.af.aB a.af.bi a.aj a.af.be fit.hp fit.OT
 have key:=dh (body:=kE) (fun i=>(a.aj,((afA a.aj):Int),(i:Int),a.af.aB,a.af.be,a.af.bi,a.bv,a.aj)) (afA a.aj) (fun i=> ¬F3 a i) (r:=8) (e:=if (∀k,k<afA a.bv->G8 a.bv k) then 0 else 8) (fun i hi=>by
  have e1:afX ((i:Int)<((afA a.aj):Int))=afK:=aF (by omega)
  unfold kE;simp only [aA,e1,lw,au a.aj i hi,au a.af.be i (by omega),au a.af.aB i (by omega),ar,aT (show i<1000000000 by omega)]
  unfold F3;generalize a.aj[i]! =w at*;cases hb:a.af.be[i]! with
  |false=>
   simp only [UV,lw]
   by_cases hw:w= -1
   · rw [bo hw]
     exact ⟨fun h=>absurd ⟨fun h=>(by cases h),fun _=>hw⟩ h,fun _=>rfl⟩
   rw [cC hw]
   exact ⟨fun _=>rfl,fun h=>absurd ((ut.1 h).2 trivial) hw⟩
  |true=>
   simp only [ww,ol]
   by_cases b1:w<0
   · rw [aF b1]
     exact ⟨fun _=>rfl,fun h=>absurd ((ut.1 h).1 trivial).1 (by omega)⟩
   by_cases b2:((afA a.bv):Int)<=w
   · rw [aC b1,aF b2]
     exact ⟨fun _=>rfl,fun h=>absurd ((ut.1 h).1 trivial).2.1 (by omega)⟩
   rw [aC b1,aC b2];simp only [ol,dG (l:=a.bv) (i:=w) (by omega) (by omega),ar]
   by_cases b3:(a.bv[w.toNat]!).2.2.2.1=i
   · by_cases b4:(a.bv[w.toNat]!).2.2.2.2=a.af.aB[i]!
     · rw [eu b3,eu b4]
       exact ⟨fun h=>absurd ⟨fun _=>⟨by omega,by omega,b3,b4⟩,fun h=>(by cases h)⟩ h,fun _=>rfl⟩
     rw [eu b3,dR b4]
     exact ⟨fun _=>rfl,fun h=>absurd ((ut.1 h).1 trivial).2.2.2 b4⟩
   rw [dR b3]
   exact ⟨fun _=>rfl,fun h=>absurd ((ut.1 h).1 trivial).2.2.1 b3⟩) (by
  unfold kE
  have:afX (((afA a.aj):Int)<((afA a.aj):Int))=afO:=aC (by omega)
  simp only [aA,this,ol]
  by_cases hx: ∀k,k<afA a.bv->G8 a.bv k
  · rw [pp hx];exact FP.1 hx
  rw [rc hx];exact FP.2 hx)
 by_cases hw: ∀i,i<afA a.af.aB->F3 a i
 · refine (key.2 fun i hi=>ut.2 (hw i (by omega))).trans ?_
   by_cases hx: ∀k,k<afA a.bv->G8 a.bv k
   · rw [pp hx,pp ⟨hw,hx⟩]
   rw [rc hx,rc (fun h=>hx h.2)]
 rw [rc (fun h=>hw h.1)]
 obtain ⟨i,h⟩:=EQ.1 hw;obtain ⟨hi,hx⟩:=If.1 h;exact key.1 ⟨i,by omega,hx⟩
theorem kF (a:aM) (fit:x9 a):kg a=afI (if eK a then 0 else 8):=by
 have hh:=fit.hp;unfold kg;rw [ua _ fit.fr];simp only [aA]
 by_cases so:eM a.af
 case neg=>rw [rc so,rc (fun h=>so h.so)];rfl
 have hu:=so.ul;have hn:=so.n2;have hf:=so.fl;rw [pp so];simp only [ar,show ((0:Int) !=0)=afO from rfl,ol]
 by_cases wl:(afA a.aj)=afA a.af.aB
 case neg=>
  rw [cC (by omega),rc (fun h=>wl h.wl)];rfl
 rw [bo (by omega)]
 have e:ae .i64 (((afA a.af.be):Int) - ((afA a.af.bi):Int))=((afA a.af.aB-(afA a.af.bi):Nat):Int):=by rw [wi];omega
 rw [e]
 by_cases hl:(afA a.bv)+afA a.af.bi=afA a.af.aB
 case neg=>
  rw [cC (by omega),rc (fun h=>hl h.hl)];rfl
 rw [bo (by omega)]
 simp only [ol];rw [JO a fit so wl]
 by_cases ok:eK a
 · rw [pp ok,pp ok.to]
 rw [rc ok,rc]
 intro h;exact ok (eK.of fit so wl hl h.1 h.2)
theorem VC {x y:Ev} (hx:oM (x.1,x.2.1)) (hy:oM (y.1,y.2.1)):ec x y=afI (afX (less x y)):=by
 unfold ec less;rw [FK hx hy];simp only [ar];generalize y9 (x.1,x.2.1) (y.1,y.2.1)=c
 by_cases h1:c<0
 · simp [h1]
 by_cases h2:c=0
 · subst h2;simp
 simp only [h1,dR h2,h2,decide_false,ol,false_or,false_and]
theorem QN {s:bc} (ok:eM s) (h:Int×Int):sx s h=afI (afX (tD s h)):=by
 have hu:=ok.ul;unfold sx tD;simp only [aA]
 by_cases a1:0<=h.1
 · by_cases a2:h.1<afA s.aB
   · simp only [a1,a2,decide_true,lw,dG (l:=s.be) a1 (by omega),dG (l:=s.aB) a1 a2,ar,true_and]
     generalize s.aB[h.1.toNat]! =u;cases s.be[h.1.toNat]!<;>simp [QJ]
   simp [a1,a2]
 simp [a1]
theorem Sl (a:aM) (so:eM a.af):rz a=afI (afX (afA a.aj=afA a.af.aB/\afA a.bv+afA a.af.bi=afA a.af.aB/\ ∀i,i<afA a.af.aB->F3 a i)):=by
 have hu:=so.ul;have hn:=so.n2;have hf:=so.fl;unfold rz;simp only [aA]
 by_cases wl:(afA a.aj)=afA a.af.aB
 case neg=>
  rw [cC (by omega),aC (fun h=>wl h.1)];rfl
 rw [bo (by omega)]
 have e:ae .i64 (((afA a.af.aB):Int) - ((afA a.af.bi):Int))=((afA a.af.aB-(afA a.af.bi):Nat):Int):=by rw [wi];omega
 rw [e]
 by_cases hl:(afA a.bv)+afA a.af.bi=afA a.af.aB
 case neg=>
  rw [cC (by omega),aC (fun h=>hl h.2.1)];rfl
 rw [bo (by omega)]
 simp only [ol];have key:=dh (body:=mE) (fun i=>(((afA a.af.aB):Int),(i:Int),a.af.aB,a.af.be,a.af.bi,a.bv,a.aj)) (afA a.af.aB) (fun i=> ¬F3 a i) (r:=afO) (e:=afK) (fun i hi=>by
  have e1:afX ((i:Int)<((afA a.af.aB):Int))=afK:=aF (by omega)
  unfold mE;simp only [aA,e1,lw,au a.aj i (by omega),au a.af.be i (by omega),ar,aT (show i<1000000000 by omega)]
  unfold F3;generalize a.aj[i]! =w at*;cases hb:a.af.be[i]! with
  |false=>
   simp only [UV,lw]
   by_cases hw:w= -1
   · rw [bo hw]
     exact ⟨fun h=>absurd ⟨fun h=>(by cases h),fun _=>hw⟩ h,fun _=>rfl⟩
   rw [cC hw]
   exact ⟨fun _=>rfl,fun h=>absurd ((ut.1 h).2 trivial) hw⟩
  |true=>
   simp only [ww,ol]
   by_cases b1:w<0
   · rw [aF b1]
     exact ⟨fun _=>rfl,fun h=>absurd ((ut.1 h).1 trivial).1 (by omega)⟩
   by_cases b2:((afA a.bv):Int)<=w
   · rw [aC b1,aF b2]
     exact ⟨fun _=>rfl,fun h=>absurd ((ut.1 h).1 trivial).2.1 (by omega)⟩
   rw [aC b1,aC b2];simp only [ol,dG (l:=a.bv) (i:=w) (by omega) (by omega),ar]
   by_cases b3:(a.bv[w.toNat]!).2.2.2.1=i
   · rw [bo b3]
     simp only [ol];rw [QN (s:=⟨a.af.aB,a.af.be,a.af.bi⟩) so];have lv:tD ⟨a.af.aB,a.af.be,a.af.bi⟩ (a.bv[w.toNat]!).2.2.2↔(a.bv[w.toNat]!).2.2.2.2=a.af.aB[i]!:=by
      unfold tD;dsimp only;rw [b3];constructor
      · intro h;exact h.2.2.2.symm
      intro h;exact ⟨by omega,by omega,by rw [AC];exact hb,by rw [AC];exact h.symm⟩
     simp only [ar,lv]
     by_cases b4:(a.bv[w.toNat]!).2.2.2.2=a.af.aB[i]!
     · rw [aF b4]
       exact ⟨fun h=>absurd ⟨fun _=>⟨by omega,by omega,b3,b4⟩,fun h=>(by cases h)⟩ h,fun _=>rfl⟩
     rw [aC b4]
     exact ⟨fun _=>rfl,fun h=>absurd ((ut.1 h).1 trivial).2.2.2 b4⟩
   rw [cC b3]
   exact ⟨fun _=>rfl,fun h=>absurd ((ut.1 h).1 trivial).2.2.1 b3⟩) (by
  unfold mE
  have:afX (((afA a.af.aB):Int)<((afA a.af.aB):Int))=afO:=aC (by omega)
  simp only [this,ol])
 by_cases hw: ∀i,i<afA a.af.aB->F3 a i
 · rw [aF ⟨wl,hl,hw⟩]
   exact key.2 fun i hi=>ut.2 (hw i hi)
 rw [aC (fun h=>hw h.2.2)]
 obtain ⟨i,h⟩:=EQ.1 hw;obtain ⟨hi,hx⟩:=If.1 h;exact key.1 ⟨i,hi,hx⟩
theorem Mp (H:List Ev) (u fr W:List Int) (us:List Bool) (k:Nat) (hk:k<afA H) (hl:(afA H)<=1000000) (x:Ev):
 ((∃j,j<k/\(H[j]!).2.2.1=x.2.2.1)->ax jL ((k:Int),0,u,us,fr,H,W,x)=afI (.done 8))/\
 ((∀j,j<k-> ¬(H[j]!).2.2.1=x.2.2.1)->ax jL ((k:Int),0,u,us,fr,H,W,x)=afI (.next (((k+1:Nat):Int),u,us,fr,H,W))):=by
 refine dh (body:=jL) (fun j=>((k:Int),(j:Int),u,us,fr,H,W,x)) k (fun j=>(H[j]!).2.2.1=x.2.2.1) (r:= .done 8) (e:= .next (((k+1:Nat):Int),u,us,fr,H,W)) (fun j hj=>?_) ?_
 · have e1:afX ((j:Int)<(k:Int))=afK:=aF (by omega)
   unfold jL;simp only [e1,lw,au H j (by omega),ar,aT (show j<1000000000 by omega)]
   constructor
   · intro h;rw [eu h];rfl
   intro h;rw [dR h];rfl
 unfold jL
 have:afX ((k:Int)<(k:Int))=afO:=aC (by omega)
 simp only [this,ol,aT (show k<1000000000 by omega)]
theorem Mq (H:List Ev) (u fr W:List Int) (us:List Bool) (hl:(afA H)<=1000000) (ya: ∀w,w<afA H->oM ((H[w]!).1,(H[w]!).2.1)):
 ax jM (1,u,us,fr,H,W)=afI (.done (if∀k,0<k->k<afA H-> ¬less H[k]! H[(k-1) / 2]! then 0 else 8)):=by
 by_cases h0:(afA H)=0
 · rw [pp (fun k _ hk=>by omega)]
   refine aJ ?_;unfold jM
   have:afX ((1:Int)<((afA H):Int))=afO:=aC (by omega)
   simp only [aA,this,ol]
 have key:=dh (body:=jM) (fun i=>(((i+1:Nat):Int),u,us,fr,H,W)) (afA H-1) (fun i=>less H[i+1]! H[i / 2]!) (r:= .done 8) (e:= .done 0) (fun i hi=>by
  have e1:afX (((i+1:Nat):Int)<((afA H):Int))=afK:=aF (by omega)
  unfold jM;simp only [aA,e1,lw,qM (show i<1000000000 by omega),au H (i+1) (by omega),au H (i / 2) (by omega),ar,VC (ya (i+1) (by omega)) (ya (i / 2) (by omega)),aT (show i+1<1000000000 by omega)]
  constructor
  · intro h;rw [aF h];rfl
  · intro h;rw [aC h];rfl) (by
  unfold jM
  have:afX (((afA H-1+1:Nat):Int)<((afA H):Int))=afO:=aC (by omega)
  simp only [aA,this,ol])
 by_cases ho: ∀k,0<k->k<afA H-> ¬less H[k]! H[(k-1) / 2]!
 · rw [pp ho]
   refine key.2 fun i hi hc=>ho (i+1) (by omega) (by omega) ?_
   rwa [show (i+1-1) / 2=i / 2 by omega]
 rw [rc ho]
 obtain ⟨k,h⟩:=EQ.1 ho;obtain ⟨k0,h⟩:=If.1 h;obtain ⟨hk,hx⟩:=If.1 h;refine key.1 ⟨k-1,by omega,?_⟩
 rw [show k-1+1=k by omega]
 exact ut.1 hx
def JP (H:List Ev) (k:Nat):Prop:=cE ((H[k]!).1,(H[k]!).2.1)/\0<=(H[k]!).2.2.1/\(H[k]!).2.2.1<=1000000/\(∀j,j<k-> ¬(H[j]!).2.2.1=(H[k]!).2.2.1)
theorem yb (a:aM) (fit:x9 a):qp a=afI (if eK a then 0 else 8):=by
 have hh:=fit.hp;unfold qp;rw [F2 _ fit.fr]
 by_cases so:eM a.af
 case neg=>rw [rc so,rc (fun h=>so h.so)];rfl
 rw [pp so];simp only [ar,show ((0:Int) !=0)=afO from rfl,ol,Sl a so]
 by_cases pl:(afA a.aj)=afA a.af.aB/\afA a.bv+afA a.af.bi=afA a.af.aB/\ ∀i,i<afA a.af.aB->F3 a i
 case neg=>
  rw [aC pl,rc (fun h=>pl ⟨h.wl,h.hl,h.to.1⟩)];rfl
 rw [aF pl];obtain ⟨wl,hl,hw⟩:=pl;simp only [ww,ol];have key:=dh (body:=om) (fun k=>((k:Int),a.af.aB,a.af.be,a.af.bi,a.bv,a.aj)) (afA a.bv) (fun k=> ¬JP a.bv k) (r:=8) (e:=if∀k,0<k->k<afA a.bv-> ¬less a.bv[k]! a.bv[(k-1) / 2]! then 0 else 8) (fun k hk=>by
  have e1:afX ((k:Int)<((afA a.bv):Int))=afK:=aF (by omega)
  have l1:=Mp a.bv a.af.aB a.af.bi a.aj a.af.be k hk hh a.bv[k]!;unfold om;simp only [aA,e1,lw,au a.bv k hk,ar,x3 (fit.OT k hk)];unfold JP
  by_cases b1:cE ((a.bv[k]!).1,(a.bv[k]!).2.1)
  case neg=>
   rw [rc b1];exact ⟨fun _=>rfl,fun h=>absurd (ut.1 h).1 b1⟩
  rw [pp b1]
  by_cases b2:(a.bv[k]!).2.2.1<0
  · rw [aF b2]
    exact ⟨fun _=>rfl,fun h=>absurd (ut.1 h).2.1 (by omega)⟩
  by_cases b3:1000000<(a.bv[k]!).2.2.1
  · rw [aC b2,aF b3]
    exact ⟨fun _=>rfl,fun h=>absurd (ut.1 h).2.2.1 (by omega)⟩
  rw [aC b2,aC b3];simp only [show ((0:Int) !=0)=afO from rfl,ol]
  by_cases b4: ∃j,j<k/\(a.bv[j]!).2.2.1=(a.bv[k]!).2.2.1
  · refine ⟨fun _=>l1.1 b4,fun h=>?_⟩
    obtain ⟨j,j1,j2⟩:=b4;exact absurd j2 ((ut.1 h).2.2.2 j j1)
  · have b4': ∀j,j<k-> ¬(a.bv[j]!).2.2.1=(a.bv[k]!).2.2.1:=fun j h1 h2=>b4 ⟨j,h1,h2⟩
    exact ⟨fun h=>absurd ⟨b1,by omega,by omega,b4'⟩ h,fun _=>l1.2 b4'⟩) (by
  unfold om
  have:afX (((afA a.bv):Int)<((afA a.bv):Int))=afO:=aC (by omega)
  simp only [aA,this,ol];exact Mq a.bv _ _ _ _ hh fit.OT)
 have same:eK a↔(∀k,k<afA a.bv->JP a.bv k)/\ ∀k,0<k->k<afA a.bv-> ¬less a.bv[k]! a.bv[(k-1) / 2]!:=by
  constructor
  · intro ok
    refine ⟨fun k hk=>?_,ok.ord⟩
    have:=ok.to.2 k hk
    exact ⟨this.1,this.2.1,this.2.2.1,this.2.2.2.1⟩
  rintro ⟨h1,h2⟩
  refine eK.of fit so wl hl hw fun k hk=>?_
  obtain ⟨c1,c2,c3,c4⟩:=h1 k hk;refine ⟨c1,c2,c3,c4,fun k0=>?_⟩
  unfold OU;rw [pp ⟨c1,(h1 ((k-1) / 2) (by omega)).1⟩,Bt]
  exact h2 k k0 hk
 by_cases he: ∀k,k<afA a.bv->JP a.bv k
 · refine (key.2 fun i hi=>ut.2 (he i hi)).trans ?_
   by_cases ho: ∀k,0<k->k<afA a.bv-> ¬less a.bv[k]! a.bv[(k-1) / 2]!
   · rw [pp ho,pp (same.2 ⟨he,ho⟩)]
   rw [rc ho,rc (fun h=>ho (same.1 h).2)]
 rw [rc (fun h=>he (same.1 h).1)]
 obtain ⟨i,h⟩:=EQ.1 he;obtain ⟨hi,hx⟩:=If.1 h;exact key.1 ⟨i,hi,hx⟩
theorem zD {l:List Ev} {n:Nat} {e:Ev} (hn:n<=afA l):e∈l.take n↔ ∃w,w<n/\l[w]! =e:=by
 rw [cf];constructor
 · rintro ⟨i,h1,_,h3⟩;exact ⟨i,h1,h3⟩
 rintro ⟨i,h1,h3⟩;exact ⟨i,h1,by omega,h3⟩
theorem afj {s:bc} (so:eM s) {n:Nat} {H:List Ev} {W:List Int} (E:Ev->Prop) (hn:n<=afA H) (wl:(afA W)=afA s.aB) (hl:n+afA s.bi=afA s.aB)
 (ix: ∀w,w<n->0<=(H[w]!).ix/\(H[w]!).ix<afA W/\W[(H[w]!).n]! =(w:Int)) (mem: ∀e,(∃w,w<n/\H[w]! =e)↔E e) (ord: ∀k,0<k->k<n-> ¬less H[k]! H[(k-1) / 2]!)
 (ue: ∀i,i<afA s.aB->s.be[i]! =afK-> ∃e:Ev,E e/\e.ix=i/\e.2.2.2.2=s.aB[i]!) (un: ∀i,i<afA s.aB->s.be[i]! =afO->W[i]! = -1)
 (ev: ∀e,E e->o9 e) (Au: ∀e f:Ev,E e->E f->e.num=f.num->e.ix=f.ix):eK ⟨s,H.take n,W⟩:=by
 have len:(H.take n).length=n:=by rw [F0s];omega
 have cell: ∀w,w<n->(H.take n)[w]! =H[w]!:=fun w hw=>iL hw
 refine ⟨so,wl,by show (H.take n).length+_=_;rw [len];exact hl,?_,un,?_,?_,?_⟩
 · intro i hi hu
   dsimp only at hi hu ⊢;rw [len];obtain ⟨e,he,e1,e2⟩:=ue i hi hu;obtain ⟨w,hw,rfl⟩:=(mem e).2 he;obtain ⟨a1,a2,a3⟩:=ix w hw;have hn':(H[w]!).n=i:=by show ((H[w]!).ix).toNat=i;omega
   rw [hn'] at a3;rw [a3,AC,cell w hw];exact ⟨by omega,by omega,e1,e2⟩
 · intro w hw
   dsimp only at hw ⊢;rw [len] at hw;rw [cell w hw];exact ev _ ((mem _).1 ⟨w,hw,rfl⟩)
 · intro v w hv hw
   dsimp only at hw ⊢;rw [len] at hw;rw [cell v (by omega),cell w hw]
   intro hc
   have:=Au _ _ ((mem _).1 ⟨v,by omega,rfl⟩) ((mem _).1 ⟨w,hw,rfl⟩) hc
   obtain ⟨a1,a2,a3⟩:=ix v (by omega)
   obtain ⟨b1,b2,b3⟩:=ix w hw;have hn':(H[v]!).n=(H[w]!).n:=by show ((H[v]!).ix).toNat=((H[w]!).ix).toNat;rw [this]
   rw [hn'] at a3;omega
 intro k k0 hk
 dsimp only at hk ⊢;rw [len] at hk;rw [cell k hk,cell _ (by omega)]
 exact ord k k0 hk
theorem uh {s:bc} (so:eM s) {n:Nat} {x:Ev} {M:Ev->Prop} {K:Nat->Prop} {H H1:List Ev} {W W1:List Int} (st:yV n x M K H W H1 W1) (hn:n<=afA H) (wl:(afA W)=afA s.aB) (hl:n+afA s.bi=afA s.aB)
 (ue: ∀i,i<afA s.aB->s.be[i]! =afK-> ∃e:Ev,(e=x\/M e)/\e.ix=i/\e.2.2.2.2=s.aB[i]!) (un: ∀i,i<afA s.aB->s.be[i]! =afO->K i/\W[i]! = -1)
 (ev: ∀e,(e=x\/M e)->o9 e) (Au: ∀e f:Ev,(e=x\/M e)->(f=x\/M f)->e.num=f.num->e.ix=f.ix):eK ⟨s,H1.take n,W1⟩:=by
 refine afj so (fun e=>e=x\/M e) (by rw [st.hl];exact hn) (by rw [st.wl];exact wl) hl (by rw [st.wl];exact st.ix) st.mem st.ord ue ?_ ev Au
 intro i hi hu;rw [st.out i (un i hi hu).1];exact (un i hi hu).2
theorem eK.bd {a:aM} (ok:eK a):(afA a.bv)<=200/\afA a.aj<=200:=by
 have:=ok.hl;have:=ok.wl;have:=ok.so.n2
 omega
theorem eK.cells {a:aM} (ok:eK a):lJ (afA a.bv) a.bv a.aj:=by
 have:=ok.bd
 refine ⟨Do _,by omega,fun w hw=>?_⟩
 obtain ⟨b1,b2,b3,b4,b5⟩:=ok.back hw;exact ⟨ok.ev w hw,b1,by rw [ok.wl];exact b2⟩
theorem eK.inj {a:aM} (ok:eK a) {v w:Nat} (hv:v<afA a.bv) (hw:w<afA a.bv) (h:Ev.ix a.bv[v]! =Ev.ix a.bv[w]!):v=w:=by
 have h1:=(ok.back hv).2.2.2.2;have h2:=(ok.back hw).2.2.2.2
 have:Ev.n a.bv[v]! =Ev.n a.bv[w]!:=by show (Ev.ix a.bv[v]!).toNat=(Ev.ix a.bv[w]!).toNat;rw [h]
 rw [this] at h1;omega
theorem eK.Mk {a:aM} (ok:eK a) {i k:Nat} (i0:0<i) (k0:0<k) (hk:k<afA a.bv) (hp:(k-1) / 2=i): ¬less a.bv[k]! a.bv[(i-1) / 2]!:=by
 have h1:=ok.ord k k0 hk;rw [hp] at h1;exact yU (ok.ev _ (by omega)).den (ok.ev _ (by omega)).den (ok.ev _ hk).den (ok.ord i i0 (by omega)) h1
theorem eK.live {a:aM} (ok:eK a) {h:Int×Int} (lv:tD a.af h): ∃i,i<afA a.bv/\a.aj[h.1.toNat]! =(i:Int)/\(a.bv[i]!).2.2.2=h:=by
 obtain ⟨l1,l2,l3,l4⟩:=lv;obtain ⟨f1,f2,f3,f4⟩:=ok.fwd h.1.toNat (by omega) l3
 refine ⟨(a.aj[h.1.toNat]!).toNat,by omega,by omega,?_⟩
 have e1:(a.bv[(a.aj[h.1.toNat]!).toNat]!).2.2.2.1=h.1:=by
  have:Ev.ix a.bv[(a.aj[h.1.toNat]!).toNat]! =(h.1.toNat:Int):=f3
  have h2:Ev.ix a.bv[(a.aj[h.1.toNat]!).toNat]! =(a.bv[(a.aj[h.1.toNat]!).toNat]!).2.2.2.1:=rfl;omega
 exact NE e1 (by rw [f4,l4])
theorem eK.handle {a:aM} (ok:eK a) {i:Nat} (hi:i<afA a.bv):tD a.af (a.bv[i]!).2.2.2/\a.aj[((a.bv[i]!).2.2.2.1).toNat]! =(i:Int):=by
 obtain ⟨b1,b2,b3,b4,b5⟩:=ok.back hi;exact ⟨⟨b1,b2,b3,b4⟩,b5⟩
theorem eK.D5 {a:aM} (ok:eK a) {i:Nat} (hi:i<afA a.af.aB) (hu:a.af.be[i]! =afK): ∃w,w<afA a.bv/\Ev.ix a.bv[w]! =i/\(a.bv[w]!).2.2.2.2=a.af.aB[i]!:=by
 obtain ⟨f1,f2,f3,f4⟩:=ok.fwd i hi hu;exact ⟨(a.aj[i]!).toNat,by omega,f3,f4⟩
theorem eK.H4 {a:aM} (ok:eK a) {i:Nat} (hu:a.af.be[i]! =afO) {w:Nat} (hw:w<afA a.bv):Ev.n a.bv[w]!≠i:=by
 intro h
 have:=(ok.back hw).2.2.1
 rw [h,hu] at this;cases this
theorem eK.Au {a:aM} (ok:eK a) {v w:Nat} (hv:v<afA a.bv) (hw:w<afA a.bv) (h:Ev.num a.bv[v]! =Ev.num a.bv[w]!):v=w:=by
 rcases ae5 v w with h1|h1|h1
 · exact absurd h (ok.nd v w h1 hw)
 · exact h1
 exact absurd h.symm (ok.nd w v h1 hv)
theorem eT {α:Type} [Inhabited α] {l:List α} {k:Nat} {v:α} (h:l[k]! =v):l.set k v=l:=by
 by_cases hk:k<afA l
 · apply qu (by rw [v6])
   intro i hi;rw [aU];split
   · rename_i e;rw [e.1];exact h.symm
   rfl
 exact aem (by omega)
def pf (x:Ev) (t:Int×Int):Ev:=(t.1,t.2,x.2.2)
noncomputable def jx (a:aM) (i:Nat) (t:Int×Int):aM:=⟨a.af,(cJ (afA a.bv) (pf a.bv[i]! t) i a.bv a.aj).1,(cJ (afA a.bv) (pf a.bv[i]! t) i a.bv a.aj).2⟩
theorem F4 {a:aM} (ok:eK a) {i:Nat} (hi:i<afA a.bv) {t:Int×Int} (ht:cE t) (h64:oM t):o9 (pf a.bv[i]! t):=by
 have:=ok.ev i hi
 exact ⟨ht,h64,this.2.2.1,this.2.2.2⟩
theorem F5 {a:aM} (ok:eK a) {i:Nat} (hi:i<afA a.bv) (t:Int×Int):Ar (afA a.bv) (pf a.bv[i]! t) (fun e=> ∃w,w<afA a.bv/\w≠i/\a.bv[w]! =e) a.bv a.aj i:=by
 obtain ⟨b1,b2,b3,b4,b5⟩:=ok.back hi;refine ⟨hi,Do _,fun w hw JK=>?_,b1,by rw [ok.wl];exact b2,fun e=>aeu⟩
 obtain ⟨c1,c2,c3,c4,c5⟩:=ok.back hw;exact ⟨c1,by rw [ok.wl];exact c2,c5,fun h=>JK (ok.inj hw hi h)⟩
theorem H5 {a:aM} (ok:eK a) (i:Nat):Ord (afA a.bv) a.bv i:=
 ⟨fun w hw=>(ok.ev w hw).den,fun k k0 hk _ _=>ok.ord k k0 hk,fun i0 _k k0 hk hp=>ok.Mk i0 k0 hk hp⟩
theorem mv {a:aM} (ok:eK a) {i:Nat} (hi:i<afA a.bv) {t:Int×Int} (ht:cE t):
 yV (afA a.bv) (pf a.bv[i]! t) (fun e=> ∃w,w<afA a.bv/\w≠i/\a.bv[w]! =e) (fun k=>k≠Ev.n (pf a.bv[i]! t)/\ ∀w,w<afA a.bv->w≠i->Ev.n a.bv[w]!≠k) a.bv a.aj (jx a i t).bv (jx a i t).aj:=
 x6 (x:=pf a.bv[i]! t) ht.1 (F5 ok hi t) (H5 ok i)
theorem CE {a:aM} (ok:eK a) {i:Nat} (hi:i<afA a.bv) {t:Int×Int} (ht:cE t):(jx a i t).bv.length=afA a.bv/\(jx a i t).aj.length=(afA a.aj):=
 ⟨(mv ok hi ht).hl,(mv ok hi ht).wl⟩
theorem Sm {a:aM} (ok:eK a) {i:Nat} (hi:i<afA a.bv) {t:Int×Int} (ht:cE t) (e:Ev):e∈(jx a i t).bv↔(e=pf a.bv[i]! t\/(e∈a.bv/\e≠a.bv[i]!)):=by
 have st:=mv ok hi ht;have h1:e∈(jx a i t).bv↔ ∃w,w<afA a.bv/\((jx a i t).bv)[w]! =e:=by
  rw [aS,(CE ok hi ht).1]
 rw [h1];refine (st.mem e).trans ?_;constructor
 · rintro (h|⟨w,hw,JK,rfl⟩)
   · exact .inl h
   exact .inr ⟨aY hw,fun h=>JK (ok.inj hw hi (by rw [h]))⟩
 rintro (h|⟨h,dS⟩)
 · exact .inl h
 obtain ⟨w,hw,rfl⟩:=aS.1 h
 exact .inr ⟨w,hw,fun h=>dS (by rw [h]),rfl⟩
theorem VD {a:aM} (ok:eK a) {i:Nat} (hi:i<afA a.bv) {t:Int×Int} (ht:cE t) (h64:oM t):eK (jx a i t):=by
 have st:=mv ok hi ht;have len:=(CE ok hi ht).1;have hx:Ev.ix (pf a.bv[i]! t)=Ev.ix a.bv[i]!:=rfl;have key:=uh ok.so st (Do _) ok.wl ok.hl (fun j hj hu=>by
  obtain ⟨w,hw,e1,e2⟩:=ok.D5 hj hu
  by_cases e:w=i
  · subst e;exact ⟨pf a.bv[w]! t,.inl rfl,e1,e2⟩
  · exact ⟨a.bv[w]!,.inr ⟨w,hw,e,rfl⟩,e1,e2⟩) (fun j hj hu=>⟨⟨(ok.H4 hu hi).symm,fun w hw _=>ok.H4 hu hw⟩,ok.un j hj hu⟩) (by
  rintro e (rfl|⟨w,hw,_,rfl⟩)
  · exact F4 ok hi ht h64
  · exact ok.ev w hw) (by
  rintro e f (rfl|⟨v,hv,hvi,rfl⟩) (rfl|⟨w,hw,JK,rfl⟩) he
  · rfl
  · exact absurd (ok.Au hi hw he).symm JK
  · exact absurd (ok.Au hv hi he) hvi
  rw [ok.Au hv hw he])
 have:(jx a i t).bv.take (afA a.bv)=(jx a i t).bv:=IR (by rw [len];exact Do _)
 show eK ⟨a.af,(jx a i t).bv,(jx a i t).aj⟩;rw [<- this];exact key
theorem Mr {a:aM} (ok:eK a) (fit:x9 a) {h:Int×Int} {i:Nat} (hi:i<afA a.bv) (hh:(a.bv[i]!).2.2.2=h):oh a h=afI ((i:Int),0):=by
 obtain ⟨lv,wv⟩:=ok.handle hi;rw [hh] at lv;unfold oh;rw [kF a fit,pp ok];simp only [ar,show ((0:Int) !=0)=afO from rfl,ol,Dk ok.so,aF lv,ww]
 have:=lv.2.1;have:=lv.1;have:=ok.wl
 have e:(a.bv[i]!).2.2.2.1=h.1:=by rw [hh]
 rw [dG (l:=a.aj) lv.1 (by omega),<- e,wv]
 rfl
theorem DF {a:aM} (ok:eK a) (fit:x9 a) {h t:Int×Int} {i:Nat} (hi:i<afA a.bv) (hh:(a.bv[i]!).2.2.2=h) (ht:cE t) (h64:oM t):ry a h t=afI (jx a i t,0):=by
 have bd:=ok.bd;obtain ⟨b1,b2,b3,b4,b5⟩:=ok.back hi;unfold ry;rw [kF a fit,pp ok,fI h64,pp ht];have pl:=Mr ok fit hi hh;have se:=FY (u:=a.af.aB) (us:=a.af.be) (fr:=a.af.bi) (F4 ok hi ht h64) (show 0<=Ev.ix (pf a.bv[i]! t) from b1) ok.cells rfl hi (show Ev.ix (pf a.bv[i]! t)<(afA a.aj) by rw [ok.wl];exact b2)
 have se':eJ (a.af.aB,a.af.be,a.af.bi,(i:Int),t.1,t.2,(a.bv[i]!).2.2.1,(a.bv[i]!).2.2.2.1,(a.bv[i]!).2.2.2.2,a.bv,a.aj)=afI (cJ (afA a.bv) (pf a.bv[i]! t) i a.bv a.aj):=se
 simp only [ar,gt_iff_lt,aeD,if_false,show ((0:Int) !=0)=afO from rfl,ol,pl,ba (show (afA a.bv)<=1048576 by omega),ba (show (afA a.aj)<=1048576 by omega),au a.bv i hi,se']
 rfl
theorem pP {a:aM} (ok:eK a):lz a=afI a:=by
 have bd:=ok.bd;unfold lz;simp only [ud ok.so,ar,ba (show (afA a.bv)<=1048576 by omega),ba (show (afA a.aj)<=1048576 by omega)]
theorem CF {a:aM} (ok:eK a) {h t:Int×Int} {i:Nat} (hi:i<afA a.bv) (hh:(a.bv[i]!).2.2.2=h) (ht:cE t) (h64:oM t):pF a h t=afI (jx a i t):=by
 have bd:=ok.bd;obtain ⟨b1,b2,b3,b4,b5⟩:=ok.back hi;obtain ⟨lv,wv⟩:=ok.handle hi;have hx:=F4 ok hi ht h64;have x1:Ev.ix (pf a.bv[i]! t)<(afA a.aj):=by rw [ok.wl];exact b2
 have st:=mv ok hi ht;obtain ⟨j,H1,W1,e1,e3,e4,e5,e6,e7,e8,e9,e10⟩:=D2 (x:=pf a.bv[i]! t) ht.1 i a.bv a.aj (F5 ok hi t) (H5 ok i);have w1:a.aj.set (Ev.n (pf a.bv[i]! t)) (i:Int)=a.aj:=eT b5;unfold pF;rw [pP ok];have g1:aI a.aj h.1=afI (i:Int):=by
  have e:(a.bv[i]!).2.2.2.1=h.1:=by rw [hh]
  rw [dG (l:=a.aj) (i:=h.1) (by rw [<- e];exact b1) (by rw [<- e,ok.wl];exact b2),<- e,wv]
 have u1:nY ((i:Int),a.af.aB,a.af.be,a.af.bi,a.bv.set i (pf a.bv[i]! t),a.aj)=afI ((j:Int),a.af.aB,a.af.be,a.af.bi,H1.set j (pf a.bv[i]! t),W1.set (Ev.n (pf a.bv[i]! t)) (j:Int)):=by
  unfold nY
  have:=Vz (c0:=((i:Int),a.af.aB,a.af.be,a.af.bi,a.bv.set i (pf a.bv[i]! t),a.aj)) (u:=a.af.aB) (us:=a.af.be) (fr:=a.af.bi) hx b1 rfl rfl rfl i a.bv a.aj ok.cells hi rfl x1 v6 rfl
  rw [w1,e1] at this;exact this
 have OV:lJ (afA a.bv) H1 W1:=by
  refine ⟨by rw [e5];exact Do _,by omega,fun w hw=>?_⟩
  exact ⟨(x7 ok.cells hi e1 w hw).1,(x7 ok.cells hi e1 w hw).2.1,by rw [e6];exact (x7 ok.cells hi e1 w hw).2.2⟩
 have d1:lQ ((j:Int),a.af.aB,a.af.be,a.af.bi,H1.set j (pf a.bv[i]! t),W1.set (Ev.n (pf a.bv[i]! t)) (j:Int))=afI (a.af.aB,a.af.be,a.af.bi,(cJ (afA a.bv) (pf a.bv[i]! t) i a.bv a.aj).1,(cJ (afA a.bv) (pf a.bv[i]! t) i a.bv a.aj).2):=by
  unfold lQ
  have:=Mn (c0:=((j:Int),a.af.aB,a.af.be,a.af.bi,H1.set j (pf a.bv[i]! t),W1.set (Ev.n (pf a.bv[i]! t)) (j:Int))) (n:=afA a.bv) (u:=a.af.aB) (us:=a.af.be) (fr:=a.af.bi) hx b1 rfl rfl rfl (afA a.bv) j H1 W1 (by omega) OV e3.lt e5 (by rw [e6];exact x1) v6 v6
  rw [this];unfold cJ;rw [e1]
 have s1:cj a.bv (i:Int) (t.1,t.2,(a.bv[i]!).2.2)=a.bv.set i (pf a.bv[i]! t):=rfl;simp only [ar,g1,au a.bv i hi,s1,u1,d1];rfl
theorem H6 (H:List Ev) (n:Int) (hl:(afA H)<=1000000):cT H n=afI (afX (∃w,w<afA H/\(H[w]!).2.2.1=n)):=by
 unfold cT eG;have key:=hO (body:=cS) (fun i=>(H,n,((afA H):Int),(i:Int))) (afA H) (fun i=>(H[i]!).2.2.1=n) (fun i=>(i:Int)) (e:= -1) (fun i hi=>by
  have e1:afX ((i:Int)<((afA H):Int))=afK:=aF (by omega)
  unfold cS tX;simp only [e1,lw,au H i hi,ar,aT (show i<1000000000 by omega)]
  constructor
  · intro h;rw [eu h];rfl
  · intro h;rw [dR h];rfl) (by
  unfold cS
  have:afX (((afA H):Int)<((afA H):Int))=afO:=aC (by omega)
  simp only [this,ol])
 rw [aA]
 by_cases hx: ∃w,w<afA H/\(H[w]!).2.2.1=n
 · obtain ⟨k,h1,h2,h3⟩:=least hx
   have:=key.1 k h1 h2 h3
   rw [show ((0:Nat):Int)=0 from rfl] at this;rw [this,aF hx];simp only [ar,aF (show (0:Int)<=(k:Int) by omega)]
 have:=key.2 fun i hi he=>hx ⟨i,hi,he⟩
 rw [show ((0:Nat):Int)=0 from rfl] at this;rw [this,aC hx];rfl
noncomputable def dm (a:aM) (t:Int×Int) (n:Int):Ev:=(t.1,t.2,n,kv a.af)
noncomputable def kx (a:aM) (t:Int×Int) (n:Int):aM:=
 ⟨gn a.af,(cJ (afA a.bv+1) (dm a t n) (afA a.bv) (a.bv++[dm a t n]) a.aj).1,(cJ (afA a.bv+1) (dm a t n) (afA a.bv) (a.bv++[dm a t n]) a.aj).2⟩
section
variable {a : aM} (ok : eK a) (op : wY a.af) {t : Int × Int} (ht : cE t) (h64 : oM t) {n : Int} (n0 : 0 <= n) (n1 : n <= 1000000)
include ok op
theorem Bv:Ev.ix (dm a t n)=(c7 a.af:Int)/\c7 a.af<afA a.af.aB/\a.af.be[c7 a.af]! =afO/\afA a.af.bi=(gn a.af).bi.length+1:=by
 obtain ⟨h1,h2,h3⟩:=yT ok.so op.1;refine ⟨rfl,h1,?_,?_⟩
 · have:=ok.so.uf (c7 a.af) h1
   cases h:a.af.be[c7 a.af]! with
   |false=>rfl
   |true=>exact absurd h3 (this.1 h)
 show _=(a.af.bi.take (afA a.af.bi-1)).length+1
 have:=op.1
 rw [F0s];omega
theorem H7:Ar (afA a.bv+1) (dm a t n) (fun e=>e∈a.bv) (a.bv++[dm a t n]) a.aj (afA a.bv):=by
 obtain ⟨h1,h2,h3,h4⟩:=Bv (t:=t) (n:=n) ok op;have cell: ∀w,w<afA a.bv->(a.bv++[dm a t n])[w]! =a.bv[w]!:=fun w hw=>cw hw
 refine ⟨by omega,by simp,fun w hw JK=>?_,by rw [h1];omega,by rw [h1,ok.wl];omega,fun e=>?_⟩
 · have Wl:w<(afA a.bv):=by omega
   rw [cell w Wl];obtain ⟨c1,c2,c3,c4,c5⟩:=ok.back Wl;refine ⟨c1,by rw [ok.wl];exact c2,c5,fun h=>?_⟩
   rw [h1] at h
   have:Ev.n a.bv[w]! =c7 a.af:=by show (Ev.ix a.bv[w]!).toNat=_;omega
   exact ok.H4 h3 Wl this
 constructor
 · rintro ⟨w,hw,JK,rfl⟩
   rw [cell w (by omega)]
   exact aY (by omega)
 intro h
 obtain ⟨w,hw,rfl⟩:=aS.1 h;exact ⟨w,by omega,by omega,cell w hw⟩
theorem Ms (ht:cE t):Ord (afA a.bv+1) (a.bv++[dm a t n]) (afA a.bv):=by
 have _:=op;have cell: ∀w,w<afA a.bv->(a.bv++[dm a t n])[w]! =a.bv[w]!:=fun w hw=>cw hw
 refine ⟨fun w hw=>?_,fun k k0 hk k1 k2=>?_,fun i0 k k0 hk hp=>by omega⟩
 · by_cases h:w<afA a.bv
   · rw [cell w h];exact (ok.ev w h).den
   have:w=(afA a.bv):=by omega
   subst this;rw [dM (Do _),aev];exact ht.1
 rw [cell k (by omega),cell _ (by omega)]
 exact ok.ord k k0 (by omega)
theorem wm (ht:cE t):yV (afA a.bv+1) (dm a t n) (fun e=>e∈a.bv) (fun k=>k≠Ev.n (dm a t n)/\ ∀w,w<afA a.bv+1->w≠afA a.bv->Ev.n (a.bv++[dm a t n])[w]!≠k) (a.bv++[dm a t n]) a.aj (kx a t n).bv (kx a t n).aj:=
 x6 (x:=dm a t n) ht.1 (H7 ok op) (Ms ok op ht)
theorem Bw (ht:cE t):(kx a t n).bv.length=afA a.bv+1:=by
 have:=(wm (n:=n) ok op ht).hl
 rw [this];simp
theorem Mt (ht:cE t) (e:Ev):e∈(kx a t n).bv↔(e=dm a t n\/e∈a.bv):=by
 have st:=wm (n:=n) ok op ht;rw [aS,Bw ok op ht];exact st.mem e
theorem JQ (ht:cE t) (h64:oM t) (n0:0<=n) (n1:n<=1000000):o9 (dm a t n):=by
 have _:=ok;have _:=op;exact ⟨ht,h64,n0,n1⟩
theorem QO (ht:cE t) (h64:oM t) (n0:0<=n) (n1:n<=1000000) (nn: ∀e∈a.bv,Ev.num e≠n):eK (kx a t n):=by
 have st:=wm (n:=n) ok op ht;have len:=Bw (n:=n) ok op ht;obtain ⟨h1,h2,h3,h4⟩:=Bv (t:=t) (n:=n) ok op;have hu:=ok.so.ul;have ul:(gn a.af).aB.length=(afA a.af.aB):=v6;have key:=uh (Vv ok.so op) st (by simp) (by rw [ul];exact ok.wl) (by rw [ul];have:=ok.hl;omega) (fun j hj BP=>by
  rw [ul] at hj;change (a.af.be.set (c7 a.af) afK)[j]! =afK at BP;rw [aU] at BP
  show∃e:Ev,_/\_/\_=(a.af.aB.set (c7 a.af) (a.af.aB[c7 a.af]!+1))[j]!
  rw [aU]
  by_cases e:j=c7 a.af
  · rw [pp ⟨e,h2⟩]
    exact ⟨dm a t n,.inl rfl,by rw [h1,e],rfl⟩
  · rw [rc (fun k=>e k.1)]
    rw [rc (fun k=>e k.1)] at BP
    obtain ⟨w,hw,e1,e2⟩:=ok.D5 hj BP;exact ⟨a.bv[w]!,.inr (aY hw),e1,e2⟩) (fun j hj BP=>by
  rw [ul] at hj;change (a.af.be.set (c7 a.af) afK)[j]! =afO at BP;rw [aU] at BP
  by_cases e:j=c7 a.af
  · rw [pp ⟨e,by omega⟩] at BP;cases BP
  · rw [rc (fun k=>e k.1)] at BP
    refine ⟨⟨?_,fun w hw JK=>?_⟩,ok.un j hj BP⟩
    · show j≠(Ev.ix (dm a t n)).toNat
      omega
    rw [cw (by omega)]
    exact ok.H4 BP (by omega)) (by
  rintro e (rfl|h)
  · exact JQ ok op ht h64 n0 n1
  · obtain ⟨w,hw,rfl⟩:=aS.1 h
    exact ok.ev w hw) (by
  rintro e f (rfl|he) (rfl|hf) hn
  · rfl
  · exact absurd hn.symm (nn f hf)
  · exact absurd hn (nn e he)
  obtain ⟨v,hv,rfl⟩:=aS.1 he
  obtain ⟨w,hw,rfl⟩:=aS.1 hf;rw [ok.Au hv hw hn])
 have:(kx a t n).bv.take (afA a.bv+1)=(kx a t n).bv:=IR (by rw [len];exact Do _)
 show eK ⟨gn a.af,(kx a t n).bv,(kx a t n).aj⟩;rw [<- this];exact key
theorem F6 (ht:cE t) (h64:oM t) (n0:0<=n) (n1:n<=1000000):lJ (afA a.bv+1) (a.bv++[dm a t n]) a.aj:=by
 have bd:=ok.bd;obtain ⟨h1,h2,h3,h4⟩:=Bv (t:=t) (n:=n) ok op;refine ⟨by simp,by simp;omega,fun w hw=>?_⟩
 by_cases h:w<afA a.bv
 · rw [cw h];exact ok.cells.ev w h
 have:w=(afA a.bv):=by omega
 subst this;rw [dM (Do _),aev];exact ⟨JQ ok op ht h64 n0 n1,by show 0<=Ev.ix (dm a t n);omega,by show Ev.ix (dm a t n)<_;rw [ok.wl];omega⟩
theorem uZ (fit:x9 a) (ht:cE t) (h64:oM t) (n0:0<=n) (n1:n<=1000000) (nn: ∀e∈a.bv,Ev.num e≠n):jZ a t n=afI (kx a t n,kv a.af,0):=by
 have bd:=ok.bd;obtain ⟨h1,h2,h3,h4⟩:=Bv (t:=t) (n:=n) ok op;have hn: ¬ ∃w,w<afA a.bv/\(a.bv[w]!).2.2.1=n:=by
  rintro ⟨w,hw,e⟩;exact nn _ (aY hw) e
 unfold jZ;rw [kF a fit,pp ok,fI h64,pp ht,H6 _ _ (by omega),aC hn,Bs ok.so,pp op]
 have se:=FY (u:=(gn a.af).aB) (us:=(gn a.af).be) (fr:=(gn a.af).bi) (JQ ok op ht h64 n0 n1) (show 0<=Ev.ix (dm a t n) by omega) (F6 ok op ht h64 n0 n1) (by simp) (show (afA a.bv)<afA a.bv+1 by omega) (show Ev.ix (dm a t n)<(afA a.aj) by rw [ok.wl];omega)
 have e1:ae .i64 (((a.bv++[dm a t n]).length:Int) -1)=((afA a.bv):Int):=by rw [wi,ae3];simp;omega
 have ap:bq a.bv [(t.1,t.2,n,kv a.af)]=afI (a.bv++[dm a t n]):=bY (by simp;omega)
 have se':eJ ((gn a.af).aB,(gn a.af).be,(gn a.af).bi,((afA a.bv):Int),t.1,t.2,n,(kv a.af).1,(kv a.af).2,a.bv++[dm a t n],a.aj)=afI (cJ (afA a.bv+1) (dm a t n) (afA a.bv) (a.bv++[dm a t n]) a.aj):=se
 simp only [ar,gt_iff_lt,aeD,if_false,show ((0:Int) !=0)=afO from rfl,ol,aC (show¬n<0 by omega),aC (show¬1000000<n by omega),ba (show (afA a.bv)<=1048576 by omega),ba (show (afA a.aj)<=1048576 by omega),ap,aA,e1,se']
 rfl
theorem wZ (ht:cE t) (h64:oM t) (n0:0<=n) (n1:n<=1000000):eC a t n=afI (kx a t n,kv a.af):=by
 have bd:=ok.bd;obtain ⟨h1,h2,h3,h4⟩:=Bv (t:=t) (n:=n) ok op;unfold eC;rw [pP ok];have e1:ae .i64 (((a.bv++[dm a t n]).length:Int) -1)=((afA a.bv):Int):=by rw [wi,ae3];simp;omega
 have ap:bq a.bv [(t.1,t.2,n,kv a.af)]=afI (a.bv++[dm a t n]):=bY (by simp;omega)
 have hx:=JQ (n:=n) ok op ht h64 n0 n1;have last:cJ (afA a.bv+1) (dm a t n) (afA a.bv) (a.bv++[dm a t n]) a.aj=_:=Ml (x:=dm a t n) ht.1 (H7 ok op) (Ms ok op ht) (fun k k0 hk hp=>by omega)
 have hs:(a.bv++[dm a t n]).set (afA a.bv) (dm a t n)=a.bv++[dm a t n]:=eT (by rw [dM (Do _),aev];rfl)
 have ws:cj a.aj (kv a.af).1 ((afA a.bv):Int)=a.aj.set (Ev.n (dm a t n)) ((afA a.bv):Int):=rfl
 have u1:nZ ((gn a.af).aB,(gn a.af).be,(gn a.af).bi,((afA a.bv):Int),a.bv++[dm a t n],a.aj.set (Ev.n (dm a t n)) ((afA a.bv):Int))=afI (((iD (dm a t n) (afA a.bv) (a.bv++[dm a t n]) a.aj).1:Int),(iD (dm a t n) (afA a.bv) (a.bv++[dm a t n]) a.aj).2.1.set (iD (dm a t n) (afA a.bv) (a.bv++[dm a t n]) a.aj).1 (dm a t n),(iD (dm a t n) (afA a.bv) (a.bv++[dm a t n]) a.aj).2.2.set (Ev.n (dm a t n)) ((iD (dm a t n) (afA a.bv) (a.bv++[dm a t n]) a.aj).1:Int)):=by
  unfold nZ
  have:=VB (c0:=((gn a.af).aB,(gn a.af).be,(gn a.af).bi,((afA a.bv):Int),a.bv++[dm a t n],a.aj.set (Ev.n (dm a t n)) ((afA a.bv):Int))) (u:=(gn a.af).aB) (us:=(gn a.af).be) (fr:=(gn a.af).bi) hx (show 0<=Ev.ix (dm a t n) by omega) (afA a.bv) (a.bv++[dm a t n]) a.aj (F6 ok op ht h64 n0 n1) (by omega) (by simp) (by rw [ok.wl];omega) rfl v6
  rw [hs] at this;exact this
 have g1:aI a.aj (kv a.af).1=afI a.aj[c7 a.af]!:=au a.aj (c7 a.af) (by rw [ok.wl];exact h2)
 simp only [ar,FU ok.so op,ap,g1,aA,e1,ws,u1];unfold kx;rw [last]
end
theorem u4 {a:aM} (ok:eK a) (op: ¬wY a.af) (fit:x9 a) {t:Int×Int} (ht:cE t) (h64:oM t) {n:Int} (n0:0<=n) (n1:n<=1000000) (nn: ∀e∈a.bv,Ev.num e≠n):jZ a t n=afI (⟨⟨[],[],[]⟩,[],[]⟩,(0,0),18):=by
 have bd:=ok.bd;have hn: ¬ ∃w,w<afA a.bv/\(a.bv[w]!).2.2.1=n:=by
  rintro ⟨w,hw,e⟩;exact nn _ (aY hw) e
 unfold jZ;rw [kF a fit,pp ok,fI h64,pp ht,H6 _ _ (by omega),aC hn,Bs ok.so,rc op]
 simp only [ar,gt_iff_lt,aeD,if_false,show ((0:Int) !=0)=afO from rfl,ol,aC (show¬n<0 by omega),aC (show¬1000000<n by omega),show ((18:Int) !=0)=afK from rfl,lw]
theorem tF {l:List Ev} {n i:Nat} {v:Ev}:(l.set i v).take n=(l.take n).set i v:=by
 apply List.ext_getElem?;intro j;rw [aeF,aeZ,aeZ,aeF,F0s]
 by_cases h1:j<n
 · rw [pp h1]
   by_cases h2:i=j
   · subst h2
     by_cases h3:i<afA l
     · rw [pp rfl,pp h3,pp rfl,pp (by omega)]
     rw [pp rfl,rc h3,pp rfl,rc (by omega)]
   rw [rc h2,rc h2,pp h1]
 rw [rc h1]
 by_cases h2:i=j
 · rw [pp h2,rc (by omega)]
 rw [rc h2,rc h1]
theorem Mu {n:Nat} {x:Ev}: ∀(i:Nat) (H:List Ev) (W:List Int),i<n->iD x i (H.take n) W=((iD x i H W).1,(iD x i H W).2.1.take n,(iD x i H W).2.2)
 |0,H,W,hi=>by rw [iD,iD]
 |i+1,H,W,hi=>by
  have e:(H.take n)[i / 2]! =H[i / 2]!:=iL (by omega)
  rw [iD,iD,e]
  by_cases h:less x H[i / 2]!
  · rw [pp h,pp h,<- tF]
    exact Mu (i / 2) _ _ (by omega)
  rw [rc h,rc h]
termination_by i=>i
decreasing_by omega
theorem VE {x:Ev}: ∀(i:Nat) (H:List Ev) (W:List Int),(iD x i H W).1<=i
 |0,H,W=>by rw [iD];exact Do _
 |i+1,H,W=>by
  rw [iD];split
  · exact aft (VE (i / 2) _ _) (by omega)
  exact Do _
termination_by i=>i
decreasing_by omega
theorem F7 {n:Nat} {H:List Ev} {i:Nat} (hk:2*i+1<n):gJ n (H.take n) i=gJ n H i:=by
 unfold gJ
 by_cases h:2*i+2<n
 · rw [iL h,iL (show 2*i+1<n by omega)]
 rw [rc (fun k=>h k.1),rc (fun k=>h k.1)]
theorem Mv {n:Nat} {x:Ev} {i:Nat} {H:List Ev} {W:List Int} (h:2*i+1<n) (hl:less H[gJ n H i]! x):dN n x i H W=dN n x (gJ n H i) (H.set i H[gJ n H i]!) (W.set (H[gJ n H i]!).n (i:Int)):=by
 rw [dN,dif_pos h,pp hl]
theorem wq {n:Nat} {x:Ev} {i:Nat} {H:List Ev} {W:List Int} (h: ¬(2*i+1<n/\less H[gJ n H i]! x)):dN n x i H W=(i,H,W):=by
 rw [dN];split
 · rename_i h1;rw [rc (fun k=>h ⟨h1,k⟩)]
 rfl
theorem F8 {n : Nat} {x : Ev} : ∀ (d i : Nat) (H : List Ev) (W : List Int), n - i <= d -> dN n x i (H.take n) W = ((dN n x i H W).1, (dN n x i H W).2.1.take n, (dN n x i H W).2.2)
  | 0, i, H, W, hd => by
    rw [wq (fun h => by omega), wq (fun h => by omega)]
  | d + 1, i, H, W, hd => by
    have kc := nB n H i
    by_cases h : 2 * i + 1 < n /\ less H[gJ n H i]! x
    · have e : (H.take n)[gJ n (H.take n) i]! = H[gJ n H i]! := by rw [F7 h.1, iL (by omega)]
      rw [Mv h.1 h.2, Mv (H := H.take n) h.1 (by rw [e]; exact h.2), e, F7 h.1, <- tF]
      exact F8 d _ _ _ (by omega)
    have h' : ¬ (2 * i + 1 < n /\ less (H.take n)[gJ n (H.take n) i]! x) := by
      rintro ⟨k1, k2⟩
      rw [F7 k1, iL (by omega)] at k2
      exact h ⟨k1, k2⟩
    rw [wq h, wq h']
theorem QP {x:Ev}: ∀(i:Nat) (H:List Ev) (W:List Int),(iD x i H W).2.1.length=afA H/\(iD x i H W).2.2.length=afA W
 |0,H,W=>by rw [iD];exact ⟨rfl,rfl⟩
 |i+1,H,W=>by
  rw [iD];split
  · have:=QP (x:=x) (i / 2) (H.set (i+1) H[i / 2]!) (W.set (H[i / 2]!).n ((i+1:Nat):Int))
    rwa [v6,v6] at this
  exact ⟨rfl,rfl⟩
termination_by i=>i
decreasing_by omega
theorem Bx {n:Nat} {x:Ev} {i:Nat} {H:List Ev} {W:List Int} (hi:i<n):cJ n x i (H.take n) W=((cJ n x i H W).1.take n,(cJ n x i H W).2):=by
 unfold cJ;rw [Mu i H W hi];dsimp only;rw [F8 n _ _ _ (by omega)]
 dsimp only;rw [tF]
noncomputable def ez (a:aM) (i:Nat):aM:=
 if i<afA a.bv-1 then ⟨fx a.af (a.bv[i]!).2.2.2,(cJ (afA a.bv-1) a.bv[afA a.bv-1]! i a.bv (a.aj.set (Ev.n a.bv[i]!) (-1))).1.take (afA a.bv-1),(cJ (afA a.bv-1) a.bv[afA a.bv-1]! i a.bv (a.aj.set (Ev.n a.bv[i]!) (-1))).2⟩
 else ⟨fx a.af (a.bv[i]!).2.2.2,a.bv.take (afA a.bv-1),a.aj.set (Ev.n a.bv[i]!) (-1)⟩
section
variable {a : aM} (ok : eK a) {i : Nat} (hi : i < (afA a.bv))
include ok hi
theorem u5 {w:Nat} (hw:w<afA a.bv) (dS:w≠i):Ev.n a.bv[w]!≠Ev.n a.bv[i]!:=by
 have h1:=(ok.back hw).1;have h2:=(ok.back hi).1;exact aqC h1 h2 fun h=>dS (ok.inj hw hi h)
theorem H8:lJ (afA a.bv-1) a.bv (a.aj.set (Ev.n a.bv[i]!) (-1)):=by
 have c:=ok.cells;refine ⟨by omega,c.hb,fun w hw=>?_⟩
 rw [v6];exact c.ev w (by omega)
theorem VF (dI:i<afA a.bv-1):Ar (afA a.bv-1) a.bv[afA a.bv-1]! (fun e=> ∃w,w<afA a.bv-1/\w≠i/\a.bv[w]! =e) a.bv (a.aj.set (Ev.n a.bv[i]!) (-1)) i:=by
 obtain ⟨b1,b2,b3,b4,b5⟩:=ok.back (show (afA a.bv)-1<(afA a.bv) by omega)
 refine ⟨dI,by omega,fun w hw JK=>?_,b1,by rw [v6,ok.wl];exact b2,fun e=>aeu⟩
 obtain ⟨c1,c2,c3,c4,c5⟩:=ok.back (show w<(afA a.bv) by omega)
 refine ⟨c1,by rw [v6,ok.wl];exact c2,?_,fun h=>?_⟩
 · rw [aU,rc (fun h=>u5 ok hi (show w<(afA a.bv) by omega) JK h.1)]
   exact c5
 have:=ok.inj (show w<(afA a.bv) by omega) (show (afA a.bv)-1<(afA a.bv) by omega) h
 omega
theorem ad0:Ord (afA a.bv-1) a.bv i:=
 ⟨fun w hw=>(ok.ev w (by omega)).den,fun k k0 hk _ _=>ok.ord k k0 (by omega),fun i0 k k0 hk hp=>ok.Mk i0 k0 (by omega) hp⟩
theorem Dm (dI:i<afA a.bv-1):
 yV (afA a.bv-1) a.bv[afA a.bv-1]! (fun e=> ∃w,w<afA a.bv-1/\w≠i/\a.bv[w]! =e) (fun k=>k≠Ev.n a.bv[afA a.bv-1]!/\ ∀w,w<afA a.bv-1->w≠i->Ev.n a.bv[w]!≠k) a.bv (a.aj.set (Ev.n a.bv[i]!) (-1))
  (cJ (afA a.bv-1) a.bv[afA a.bv-1]! i a.bv (a.aj.set (Ev.n a.bv[i]!) (-1))).1 (cJ (afA a.bv-1) a.bv[afA a.bv-1]! i a.bv (a.aj.set (Ev.n a.bv[i]!) (-1))).2:=
 x6 (ok.ev (afA a.bv-1) (by omega)).den (VF ok hi dI) (ad0 ok hi)
theorem H9:eM (fx a.af (a.bv[i]!).2.2.2):=Vu ok.so (ok.handle hi).1
theorem yc {j:Nat} (hj:j<afA a.af.aB):(fx a.af (a.bv[i]!).2.2.2).be[j]! =if j=Ev.n a.bv[i]! then afO else a.af.be[j]!:=by
 have _:=hi;show (a.af.be.set (Ev.n a.bv[i]!) afO)[j]! =_;rw [aU]
 have:=ok.so.ul
 by_cases e:j=Ev.n a.bv[i]!
 · rw [pp ⟨e,by omega⟩,pp e]
 rw [rc (fun k=>e k.1),rc e]
theorem CG:eK (ez a i):=by
 have hb:=ok.back hi;have hl:(afA a.bv)-1+(fx a.af (a.bv[i]!).2.2.2).bi.length=(afA a.af.aB):=by
  show (afA a.bv)-1+(a.af.bi++[_]).length=_;rw [ae3]
  have:=ok.hl
  simp only [af0,af9];omega
 have un: ∀j,j<afA a.af.aB->(fx a.af (a.bv[i]!).2.2.2).be[j]! =afO->(a.aj.set (Ev.n a.bv[i]!) (-1))[j]! = -1:=by
  intro j hj hu;rw [yc ok hi hj] at hu;rw [aU]
  by_cases e:j=Ev.n a.bv[i]!
  · rw [pp ⟨e.symm▸rfl,by rw [ok.wl];omega⟩]
  rw [rc e] at hu
  rw [rc (fun k=>e k.1)]
  exact ok.un j hj hu
 unfold ez
 by_cases dI:i<afA a.bv-1
 · rw [pp dI]
   have st:=Dm ok hi dI;refine uh (H9 ok hi) st (by omega) (by rw [v6];exact ok.wl) hl (fun j hj hu=>?_) (fun j hj hu=>⟨⟨?_,fun w hw JK=>?_⟩,un j hj hu⟩) ?_ ?_
   · change j<(afA a.af.aB) at hj
     rw [yc ok hi hj] at hu
     by_cases e:j=Ev.n a.bv[i]!
     · rw [pp e] at hu;cases hu
     rw [rc e] at hu
     obtain ⟨w,hw,e1,e2⟩:=ok.D5 hj hu;refine ⟨a.bv[w]!,?_,e1,e2⟩
     by_cases me:w=afA a.bv-1
     · left;rw [me]
     refine .inr ⟨w,by omega,fun h=>e ?_,rfl⟩
     rw [<- h];show j=(Ev.ix a.bv[w]!).toNat;omega
   · change j<(afA a.af.aB) at hj
     rw [yc ok hi hj] at hu
     by_cases e:j=Ev.n a.bv[i]!
     · rw [e];exact (u5 ok hi (by omega) (by omega)).symm
     rw [rc e] at hu
     exact (ok.H4 hu (by omega)).symm
   · change j<(afA a.af.aB) at hj
     rw [yc ok hi hj] at hu
     by_cases e:j=Ev.n a.bv[i]!
     · rw [e];exact u5 ok hi (by omega) JK
     rw [rc e] at hu
     exact ok.H4 hu (by omega)
   · rintro e (rfl|⟨w,hw,_,rfl⟩)
     · exact ok.ev _ (by omega)
     exact ok.ev w (by omega)
   rintro e f (rfl|⟨v,hv,hvi,rfl⟩) (rfl|⟨w,hw,JK,rfl⟩) he
   · rfl
   · rw [ok.Au (by omega) (by omega) he]
   · rw [ok.Au (by omega) (by omega) he]
   rw [ok.Au (by omega) (by omega) he]
 rw [rc dI]
 have hie:i=afA a.bv-1:=by omega
 refine afj (H9 ok hi) (fun e=> ∃w,w<afA a.bv-1/\a.bv[w]! =e) (by omega) (by rw [v6];exact ok.wl) hl (fun w hw=>?_) (fun e=>aeu) (fun k k0 hk=>ok.ord k k0 (by omega)) (fun j hj hu=>?_) un ?_ ?_
 · obtain ⟨c1,c2,c3,c4,c5⟩:=ok.back (show w<(afA a.bv) by omega)
   refine ⟨c1,by rw [v6,ok.wl];exact c2,?_⟩
   rw [aU,rc (fun h=>u5 ok hi (show w<(afA a.bv) by omega) (by omega) h.1)]
   exact c5
 · change j<(afA a.af.aB) at hj
   rw [yc ok hi hj] at hu
   by_cases e:j=Ev.n a.bv[i]!
   · rw [pp e] at hu;cases hu
   rw [rc e] at hu
   obtain ⟨w,hw,e1,e2⟩:=ok.D5 hj hu;refine ⟨a.bv[w]!,⟨w,?_,rfl⟩,e1,e2⟩
   have:w≠i:=fun h=>e (by rw [<- h];show j=(Ev.ix a.bv[w]!).toNat;omega)
   omega
 · rintro e ⟨w,hw,rfl⟩
   exact ok.ev w (by omega)
 rintro e f ⟨v,hv,rfl⟩ ⟨w,hw,rfl⟩ he
 rw [ok.Au (by omega) (by omega) he]
theorem F9 (e:Ev):e∈(ez a i).bv↔(e∈a.bv/\e≠a.bv[i]!):=by
 have other: ∀w,w<afA a.bv->(a.bv[w]!≠a.bv[i]!↔w≠i):=fun w hw=>⟨fun h k=>h (by rw [k]),fun h k=>h (ok.inj hw hi (by rw [k]))⟩
 unfold ez
 by_cases dI:i<afA a.bv-1
 · rw [pp dI]
   have st:=Dm ok hi dI;show e∈(_:List Ev).take _↔_;rw [zD (by rw [st.hl];omega)]
   refine (st.mem e).trans ?_;constructor
   · rintro (h|⟨w,hw,JK,rfl⟩)
     · rw [h];exact ⟨aY (by omega),(other _ (by omega)).2 (by omega)⟩
     exact ⟨aY (by omega),(other _ (by omega)).2 JK⟩
   rintro ⟨h,dS⟩
   obtain ⟨w,hw,rfl⟩:=aS.1 h
   by_cases c:w=afA a.bv-1
   · left;rw [c]
   exact .inr ⟨w,by omega,(other w hw).1 dS,rfl⟩
 rw [rc dI]
 show e∈a.bv.take _↔_;rw [zD (by omega)]
 constructor
 · rintro ⟨w,hw,rfl⟩
   exact ⟨aY (by omega),(other _ (by omega)).2 (by omega)⟩
 rintro ⟨h,dS⟩
 obtain ⟨w,hw,rfl⟩:=aS.1 h
 have:=(other w hw).1 dS
 exact ⟨w,by omega,rfl⟩
theorem CH:pK a (i:Int)=afI (ez a i,a.bv[i]!,0):=by
 have bd:=ok.bd;obtain ⟨b1,b2,b3,b4,b5⟩:=ok.back hi;obtain ⟨c1,c2,c3,c4,c5⟩:=ok.back (show (afA a.bv)-1<(afA a.bv) by omega)
 unfold pK;have e1:ae .i64 (((afA a.bv):Int) -1)=((afA a.bv-1:Nat):Int):=mF (by omega) (by omega)
 have g1:aI a.aj (a.bv[i]!).2.2.2.1=afI a.aj[(a.bv[i]!).2.2.2.1.toNat]!:=dG b1 (by rw [ok.wl];exact b2)
 have ws:cj a.aj (a.bv[i]!).2.2.2.1 (-1)=a.aj.set (Ev.n a.bv[i]!) (-1):=rfl
 simp only [au a.bv i hi,ar,JJ ok.so (ok.handle hi).1,show ((0:Int) !=0)=afO from rfl,ol,ba (show (afA a.bv)<=1048576 by omega),ba (show (afA a.aj)<=1048576 by omega),aA,e1,au a.bv (afA a.bv-1) (by omega),jO a.bv (afA a.bv-1) (by omega),g1,ws,AC]
 unfold ez
 by_cases dI:i<afA a.bv-1
 · rw [aF (by omega),pp dI]
   have se:=OS (cap:=afA a.bv) (u:=(fx a.af (a.bv[i]!).2.2.2).aB) (us:=(fx a.af (a.bv[i]!).2.2.2).be) (fr:=(fx a.af (a.bv[i]!).2.2.2).bi) (ok.ev (afA a.bv-1) (by omega)) (show 0<=Ev.ix a.bv[afA a.bv-1]! from c1) (H8 ok hi) dI (show Ev.ix a.bv[afA a.bv-1]!<_ by rw [v6,ok.wl];exact c2)
   rw [se];rfl
 rw [aC (by omega),rc dI]
 rfl
theorem u6 (fit:x9 a) {h:Int×Int} (hh:(a.bv[i]!).2.2.2=h):kM a h=afI (ez a i,a.bv[i]!,0):=by
 unfold kM;rw [Mr ok fit hi hh];simp only [ar,show ((0:Int) !=0)=afO from rfl,ol,CH ok hi]
theorem u7 {h:Int×Int} (hh:(a.bv[i]!).2.2.2=h):jc a h=afI (ez a i):=by
 have bd:=ok.bd;subst hh;obtain ⟨b1,b2,b3,b4,b5⟩:=ok.back hi;obtain ⟨c1,c2,c3,c4,c5⟩:=ok.back (show (afA a.bv)-1<(afA a.bv) by omega)
 unfold jc;rw [pP ok];have e1:ae .i64 (((afA a.bv):Int) -1)=((afA a.bv-1:Nat):Int):=mF (by omega) (by omega)
 have g1:aI a.aj (a.bv[i]!).2.2.2.1=afI (i:Int):=by
  rw [dG (l:=a.aj) b1 (by rw [ok.wl];exact b2)]
  exact congrArg afI b5
 have gv:=FT ok.so (ok.handle hi).1;simp only [ar,g1,aA,e1,AC];unfold ez
 by_cases dI:i<afA a.bv-1
 · rw [cC (show (i:Int)≠((afA a.bv-1:Nat):Int) by omega),pp dI]
   have dS:(afA a.bv)-1≠i:=by omega
   have nn:Ev.n a.bv[afA a.bv-1]!≠Ev.n a.bv[i]!:=u5 ok hi (by omega) dS
   have sw:=Bu (n:=afA a.bv) (x:=a.bv[i]!) (u:=a.af.aB) (us:=a.af.be) (fr:=a.af.bi) (H:=a.bv) (W:=a.aj) hi (show (afA a.bv)-1<(afA a.bv) by omega) dS rfl b1 (by rw [ok.wl];exact b2) c1 (by rw [ok.wl];exact c2)
   rw [eT (l:=a.bv) rfl,eT (l:=a.aj) b5] at sw;have hs:(a.bv.set i a.bv[afA a.bv-1]!).set (afA a.bv-1) a.bv[i]! =(a.bv.set (afA a.bv-1) a.bv[i]!).set i a.bv[afA a.bv-1]!:=afo _ _ (by omega)
   have ws:cj ((a.aj.set (Ev.n a.bv[afA a.bv-1]!) (i:Int)).set (Ev.n a.bv[i]!) ((afA a.bv-1:Nat):Int)) (a.bv[i]!).2.2.2.1 (-1)=(a.aj.set (Ev.n a.bv[i]!) (-1)).set (Ev.n a.bv[afA a.bv-1]!) (i:Int):=by
    show ((a.aj.set (Ev.n a.bv[afA a.bv-1]!) (i:Int)).set (Ev.n a.bv[i]!) ((afA a.bv-1:Nat):Int)).set (Ev.n a.bv[i]!) (-1)=_;rw [List.set_set,afo _ _ nn]
   have g2:aI ((a.aj.set (Ev.n a.bv[afA a.bv-1]!) (i:Int)).set (Ev.n a.bv[i]!) ((afA a.bv-1:Nat):Int)) (a.bv[i]!).2.2.2.1=afI _:=dG b1 (by rw [v6,v6,ok.wl];exact b2)
   have cells:lJ (afA a.bv-1) (a.bv.set (afA a.bv-1) a.bv[i]!) (a.aj.set (Ev.n a.bv[i]!) (-1)):=by
    refine ⟨by rw [v6];omega,by rw [v6];omega,fun w hw=>?_⟩
    rw [aU,rc (by omega)]
    exact (H8 ok hi).ev w hw
   have x1:Ev.ix a.bv[afA a.bv-1]!<(a.aj.set (Ev.n a.bv[i]!) (-1)).length:=by rw [v6,ok.wl];exact c2
   have hx:=ok.ev (afA a.bv-1) (by omega)
   have gv':np (bc.mk a.af.aB a.af.be a.af.bi) (a.bv[i]!).2.2.2=afI (fx a.af (a.bv[i]!).2.2.2):=gv;have tk:(a.bv.set (afA a.bv-1) a.bv[i]!).take (afA a.bv-1)=a.bv.take (afA a.bv-1):=by rw [tF];exact aem (by rw [F0s];omega)
   have U:lB ((fx a.af (a.bv[i]!).2.2.2).aB,(fx a.af (a.bv[i]!).2.2.2).be,(fx a.af (a.bv[i]!).2.2.2).bi,afA a.bv-1,((a.bv.set (afA a.bv-1) a.bv[i]!).set i a.bv[afA a.bv-1]!).length,(i:Int),(a.bv.set (afA a.bv-1) a.bv[i]!).set i a.bv[afA a.bv-1]!,(a.aj.set (Ev.n a.bv[i]!) (-1)).set (Ev.n a.bv[afA a.bv-1]!) (i:Int))=
    afI (((iD a.bv[afA a.bv-1]! i (a.bv.set (afA a.bv-1) a.bv[i]!) (a.aj.set (Ev.n a.bv[i]!) (-1))).1:Int),(iD a.bv[afA a.bv-1]! i (a.bv.set (afA a.bv-1) a.bv[i]!) (a.aj.set (Ev.n a.bv[i]!) (-1))).2.1.set (iD a.bv[afA a.bv-1]! i (a.bv.set (afA a.bv-1) a.bv[i]!) (a.aj.set (Ev.n a.bv[i]!) (-1))).1 a.bv[afA a.bv-1]!,(iD a.bv[afA a.bv-1]! i (a.bv.set (afA a.bv-1) a.bv[i]!) (a.aj.set (Ev.n a.bv[i]!) (-1))).2.2.set (Ev.n a.bv[afA a.bv-1]!) ((iD a.bv[afA a.bv-1]! i (a.bv.set (afA a.bv-1) a.bv[i]!) (a.aj.set (Ev.n a.bv[i]!) (-1))).1:Int)):=by
    unfold lB
    exact Vx (n:=afA a.bv-1) (c0:=((fx a.af (a.bv[i]!).2.2.2).aB,(fx a.af (a.bv[i]!).2.2.2).be,(fx a.af (a.bv[i]!).2.2.2).bi,afA a.bv-1,((a.bv.set (afA a.bv-1) a.bv[i]!).set i a.bv[afA a.bv-1]!).length,(i:Int),(a.bv.set (afA a.bv-1) a.bv[i]!).set i a.bv[afA a.bv-1]!,(a.aj.set (Ev.n a.bv[i]!) (-1)).set (Ev.n a.bv[afA a.bv-1]!) (i:Int))) hx c1 i _ _ cells dI x1 v6 v6
   have ul:=VE (x:=a.bv[afA a.bv-1]!) i (a.bv.set (afA a.bv-1) a.bv[i]!) (a.aj.set (Ev.n a.bv[i]!) (-1));have un:=QP (x:=a.bv[afA a.bv-1]!) i (a.bv.set (afA a.bv-1) a.bv[i]!) (a.aj.set (Ev.n a.bv[i]!) (-1));have uc:=fun w hw=>x7 (x:=a.bv[afA a.bv-1]!) cells dI (i:=i) rfl w hw
   have OV:lJ (afA a.bv-1) (iD a.bv[afA a.bv-1]! i (a.bv.set (afA a.bv-1) a.bv[i]!) (a.aj.set (Ev.n a.bv[i]!) (-1))).2.1 (iD a.bv[afA a.bv-1]! i (a.bv.set (afA a.bv-1) a.bv[i]!) (a.aj.set (Ev.n a.bv[i]!) (-1))).2.2:=by
    refine ⟨by rw [un.1,v6];omega,by rw [un.1,v6];omega,fun w hw=>?_⟩
    rw [un.2];exact uc w hw
   have D:jF ((fx a.af (a.bv[i]!).2.2.2).aB,(fx a.af (a.bv[i]!).2.2.2).be,(fx a.af (a.bv[i]!).2.2.2).bi,afA a.bv-1,((a.bv.set (afA a.bv-1) a.bv[i]!).set i a.bv[afA a.bv-1]!).length,((iD a.bv[afA a.bv-1]! i (a.bv.set (afA a.bv-1) a.bv[i]!) (a.aj.set (Ev.n a.bv[i]!) (-1))).1:Int),(iD a.bv[afA a.bv-1]! i (a.bv.set (afA a.bv-1) a.bv[i]!) (a.aj.set (Ev.n a.bv[i]!) (-1))).2.1.set (iD a.bv[afA a.bv-1]! i (a.bv.set (afA a.bv-1) a.bv[i]!) (a.aj.set (Ev.n a.bv[i]!) (-1))).1 a.bv[afA a.bv-1]!,(iD a.bv[afA a.bv-1]! i (a.bv.set (afA a.bv-1) a.bv[i]!) (a.aj.set (Ev.n a.bv[i]!) (-1))).2.2.set (Ev.n a.bv[afA a.bv-1]!) ((iD a.bv[afA a.bv-1]! i (a.bv.set (afA a.bv-1) a.bv[i]!) (a.aj.set (Ev.n a.bv[i]!) (-1))).1:Int))=
    afI (cJ (afA a.bv-1) a.bv[afA a.bv-1]! i (a.bv.set (afA a.bv-1) a.bv[i]!) (a.aj.set (Ev.n a.bv[i]!) (-1))):=by
    unfold jF
    exact Mm (n:=afA a.bv-1) (c0:=((fx a.af (a.bv[i]!).2.2.2).aB,(fx a.af (a.bv[i]!).2.2.2).be,(fx a.af (a.bv[i]!).2.2.2).bi,afA a.bv-1,((a.bv.set (afA a.bv-1) a.bv[i]!).set i a.bv[afA a.bv-1]!).length,((iD a.bv[afA a.bv-1]! i (a.bv.set (afA a.bv-1) a.bv[i]!) (a.aj.set (Ev.n a.bv[i]!) (-1))).1:Int),(iD a.bv[afA a.bv-1]! i (a.bv.set (afA a.bv-1) a.bv[i]!) (a.aj.set (Ev.n a.bv[i]!) (-1))).2.1.set (iD a.bv[afA a.bv-1]! i (a.bv.set (afA a.bv-1) a.bv[i]!) (a.aj.set (Ev.n a.bv[i]!) (-1))).1 a.bv[afA a.bv-1]!,(iD a.bv[afA a.bv-1]! i (a.bv.set (afA a.bv-1) a.bv[i]!) (a.aj.set (Ev.n a.bv[i]!) (-1))).2.2.set (Ev.n a.bv[afA a.bv-1]!) ((iD a.bv[afA a.bv-1]! i (a.bv.set (afA a.bv-1) a.bv[i]!) (a.aj.set (Ev.n a.bv[i]!) (-1))).1:Int))) hx c1 (afA a.bv) (iD a.bv[afA a.bv-1]! i (a.bv.set (afA a.bv-1) a.bv[i]!) (a.aj.set (Ev.n a.bv[i]!) (-1))).1 (iD a.bv[afA a.bv-1]! i (a.bv.set (afA a.bv-1) a.bv[i]!) (a.aj.set (Ev.n a.bv[i]!) (-1))).2.1 (iD a.bv[afA a.bv-1]! i (a.bv.set (afA a.bv-1) a.bv[i]!) (a.aj.set (Ev.n a.bv[i]!) (-1))).2.2 (by omega) OV (by omega) (by rw [un.2];exact x1) v6 v6
   have st:=Bx (n:=(afA a.bv-1)) (x:=a.bv[afA a.bv-1]!) (i:=i) (H:=(a.bv.set (afA a.bv-1) a.bv[i]!)) (W:=(a.aj.set (Ev.n a.bv[i]!) (-1))) dI;have Dw:=Bx (n:=(afA a.bv-1)) (x:=a.bv[afA a.bv-1]!) (i:=i) (H:=a.bv) (W:=(a.aj.set (Ev.n a.bv[i]!) (-1))) dI;rw [tk,Dw] at st;injection st with nL N0
   simp only [lw,sw,ar,jO _ (afA a.bv-1) (show (afA a.bv)-1<=((a.bv.set (afA a.bv-1) a.bv[i]!).set i a.bv[afA a.bv-1]!).length by rw [v6,v6];omega),g2,gv',ws,hs,U,D,<- nL,<- N0]
 rw [bo (show (i:Int)=((afA a.bv-1:Nat):Int) by omega),rc dI]
 have ws:cj a.aj (a.bv[i]!).2.2.2.1 (-1)=a.aj.set (Ev.n a.bv[i]!) (-1):=rfl;simp only [ol,jO a.bv (afA a.bv-1) (by omega),ar,gv,ws]
end
abbrev qN:=Int×Int×Int
theorem eK.fit {a:aM} (ok:eK a):x9 a:=by
 have bd:=ok.bd
 have:=ok.so.fl
 have:=ok.so.n2
 exact ⟨by omega,by omega,by omega,fun w hw=>(ok.ev w hw).2.1⟩
theorem pQ (l:List qN) (id:Int) (hl:(afA l)<=1000000) (hs: ∀i j,i<j->j<afA l->(l[i]!).1<(l[j]!).1):
 (∀k,k<afA l->(l[k]!).1=id->aQ l id ()=afI ((k:Int),afK))/\
 ((∀k,k<afA l->(l[k]!).1≠id)-> ∃m,m<=afA l/\(∀i,i<m->(l[i]!).1<id)/\(∀i,m<=i->i<afA l->id<(l[i]!).1)/\aQ l id ()=afI ((m:Int),afO)):=by
 obtain ⟨m,m1,m2,m3⟩:=Mj (fun i=>(l[i]!).1) id (afA l) hs
 have run:aQ l id ()=ax aR (l,id,((afA l):Int),(m:Int),(m:Int)):=by
  unfold aQ;refine CB (body:=aR) (fun lo hi=>(l,id,((afA l):Int),(lo:Int),(hi:Int))) (afA l) m (fun i=>(l[i]!).1<id) (fun lo hi h1 h2=>?_) m2 (fun i h1 h2 h3=>by have:=m3 i h1 h2;omega) (afA l) 0 (afA l) (by omega) (by omega) m1 (Do _)
  have e1:afX ((lo:Int)<(hi:Int))=afK:=aF (by omega)
  have hh:=adV (a:=lo) (b:=hi) (by omega) (by omega)
  unfold aR qi;simp only [e1,lw,hh,au l ((lo+hi) / 2) (by omega),jN,ar,aT (show (lo+hi) / 2<1000000000 by omega)]
  constructor
  · intro h
    have:afX (jq (l[(lo+hi) / 2]!).1 id<0)=afK:=by
     rcases fJ (l[(lo+hi) / 2]!).1 id with ⟨a,e⟩|⟨a,e⟩|⟨a,e⟩<;>rw [e]<;>first|rfl|omega
    rw [this];rfl
  intro h
  have:afX (jq (l[(lo+hi) / 2]!).1 id<0)=afO:=by
   rcases fJ (l[(lo+hi) / 2]!).1 id with ⟨a,e⟩|⟨a,e⟩|⟨a,e⟩<;>rw [e]<;>first|rfl|omega
  rw [this];rfl
 have fin:ax aR (l,id,((afA l):Int),(m:Int),(m:Int))=if m<afA l/\(l[m]!).1=id then afI ((m:Int),afK) else afI ((m:Int),afO):=by
  have e1:afX ((m:Int)<(m:Int))=afO:=aC (by omega)
  by_cases hm:m<afA l
  · have e2:afX ((m:Int)<((afA l):Int))=afK:=aF (by omega)
    have body:aR (l,id,((afA l):Int),(m:Int),(m:Int))=afI (.done ((m:Int),jq (l[m]!).1 id==0)):=by
     unfold aR qi;simp only [e1,e2,lw,ol,au l m hm,jN,ar]
    rw [aJ body];rcases fJ (l[m]!).1 id with ⟨a,e⟩|⟨a,e⟩|⟨a,e⟩
    · rw [e,rc (fun h=>by omega)];rfl
    · rw [e,pp ⟨hm,a⟩];rfl
    rw [e,rc (fun h=>by omega)];rfl
  have e2:afX ((m:Int)<((afA l):Int))=afO:=aC (by omega)
  have body:aR (l,id,((afA l):Int),(m:Int),(m:Int))=afI (.done ((m:Int),afO)):=by
   unfold aR;simp only [e1,e2,ol]
  rw [aJ body,rc (fun h=>hm h.1)]
 rw [run,fin];constructor
 · intro k hk he
   have hkm:k=m:=by
    rcases ae5 k m with h|h|h
    · have:=m2 k h;omega
    · exact h
    have h1:=m3 m (Do _) (by omega)
    have h2:=hs m k h hk;omega
   subst hkm;rw [pp ⟨hk,he⟩]
 intro h
 refine ⟨m,m1,m2,fun i h1 h2=>?_,?_⟩
 · have:=m3 i h1 h2
   have:=h i h2
   omega
 rw [rc (fun k=>h m k.1 k.2)]
theorem alY:dd=aQ:=rfl
theorem VG:c6=aQ:=rfl
theorem By:c9=aQ:=rfl
theorem sD {α:Type} (l:List α) (k:Nat):l.eraseIdx k=l.take k++l.drop (k+1):=List.eraseIdx_eq_take_drop_succ l k
theorem yd (l:List qN) (k:Nat) (hk:k<afA l): ∃L:List qN,dZ ((k:Int),((k+1:Nat):Int),l)=afI (afA l-1,afA l,L)/\L.take (afA l-1)=l.eraseIdx k:=by
 unfold dZ;have e1:afX ((0:Int)<=(k:Int))=afK:=aF (by omega)
 have e2:afX ((k:Int)<=((k+1:Nat):Int))=afK:=aF (by omega)
 have e3:afX (((k+1:Nat):Int)<=((afA l):Int))=afK:=aF (by omega)
 have e4:afX (((afA l):Int)<=((afA l):Int))=afK:=aF (by omega)
 have e5:((k:Int)==((k+1:Nat):Int))=afO:=dR (by omega)
 have e6:afX ((0:Int)<=((k+1:Nat):Int))=afK:=aF (by omega)
 have e7:afX ((k:Int)<=((afA l):Int))=afK:=aF (by omega)
 have dr:(l.drop (k+1)).take (afA l- (k+1))=l.drop (k+1):=IR (by rw [aet];exact Do _)
 have dl:(l.drop (k+1)).length=afA l- (k+1):=aet;simp only [aA,e1,e2,e3,e4,e5,e6,e7,afp,lw,ol,jO l k (by omega),ar,AC,Nat.zero_add,dr,dl,UV,Bool.and_true]
 by_cases h:k+1=afA l
 · have em:(l.drop (k+1)).isEmpty=afK:=by rw [af3,ae0];omega
   have n1:afu (afA l-k) 0=afO:=by
    cases hb:afu (afA l-k) 0 with
    |false=>rfl
    |true=>have:=aeA hb;omega
   have n2:Nat.ble (k+(afA l-k)) (afA l)=afK:=acK (by omega)
   have ll:(eZ l k (afc (afA l-k) ((0:Int),(0:Int),(0:Int)))).length=(afA l):=by
    unfold eZ;simp;omega
   simp only [em,lw,n1,ol,n2,ll,beq_self_eq_true];refine ⟨_,by rw [show k=afA l-1 by omega],?_⟩
   rw [sD,show (afA l)-1=k by omega]
   unfold eZ;rw [acl,M2 (by rw [F0s];omega),afe,afv]
   rw [aew (by omega),afa]
 have em:(l.drop (k+1)).isEmpty=afO:=by
  cases hb:(l.drop (k+1)).isEmpty with
  |false=>rfl
  |true=>rw [af3,ae0] at hb;omega
 have n1:Nat.ble (k+(afA l- (k+1))) (afA l)=afK:=acK (by omega)
 have n2:afX ((0:Int)<=((k+(afA l- (k+1)):Nat):Int))=afK:=aF (by omega)
 have n3:afX (((k+(afA l- (k+1)):Nat):Int)<=((afA l):Int))=afK:=aF (by omega)
 have n4:afu (afA l- (k+(afA l- (k+1)))) 0=afO:=by
  cases hb:afu (afA l- (k+(afA l- (k+1)))) 0 with
  |false=>rfl
  |true=>have:=aeA hb;omega
 have l1:(eZ l k (l.drop (k+1))).length=(afA l):=by
  unfold eZ;simp;omega
 have n5:Nat.ble (k+(afA l- (k+1))+(afA l- (k+(afA l- (k+1))))) (afA l)=afK:=acK (by omega)
 have l2:(eZ (eZ l k (l.drop (k+1))) (k+(afA l- (k+1))) (afc (afA l- (k+(afA l- (k+1)))) ((0:Int),(0:Int),(0:Int)))).length=(afA l):=by
  unfold eZ;simp;omega
 simp only [em,ol,n1,lw,n2,n3,afp,n4,l1,n5,l2,beq_self_eq_true];refine ⟨_,by rw [show k+(afA l- (k+1))=afA l-1 by omega],?_⟩
 rw [sD]
 have:k+(afA l- (k+1))=afA l-1:=by omega
 unfold eZ;rw [acl,M2 (by simp;omega),afe,afv,acl]
 rw [show (l.take k++(l.drop (k+1)++l.drop (k+(l.drop (k+1)).length)))=(l.take k++l.drop (k+1))++l.drop (k+(l.drop (k+1)).length) by rw [acl]]
 rw [M2 (by simp;omega),IR (by simp;omega)]
theorem OW:gY=dZ:=rfl
theorem wz {α:Type} [Inhabited α] {l:List α} {k i:Nat}:(l.eraseIdx k)[i]! =if i<k then l[i]! else l[i+1]!:=by
 rw [sD]
 by_cases hk:k<afA l
 · by_cases h:i<k
   · rw [pp h,cw (by rw [F0s];omega),iL h]
   rw [rc h,dM (by rw [F0s];omega),kN,F0s]
   congr 1;omega
 have e1:l.take k=l:=IR (by omega)
 have e2:l.drop (k+1)=[]:=aew (by omega)
 rw [e1,e2,afa];split
 · rfl
 rw [getElem!_neg l i (by omega),getElem!_neg l (i+1) (by omega)]
def fq (x:Int×Int):Prop:=0<=x.1/\x.1<=65535/\0<=x.2/\x.2<=65535/\x.1≠x.2
theorem zE (x:Int×Int):sf x=afI (afX (fq x)):=by
 obtain ⟨a,b⟩:=x;unfold sf;dsimp only
 by_cases h1:0<=a
 · by_cases h3:0<=b
   · have e1:afX (0<=if b<a then b else a)=afK:=aF (by split<;>omega)
     rw [e1]
     by_cases h2:a<=65535
     · by_cases h4:b<=65535
       · have e2:afX ((if b>a then b else a)<=65535)=afK:=aF (by split<;>omega)
         rw [e2]
         by_cases h5:a=b
         · rw [bo h5,aC (p:=fq (a,b)) (fun h=>h.2.2.2.2 h5)];rfl
         rw [cC h5,aF (p:=fq (a,b)) ⟨h1,h2,h3,h4,h5⟩];rfl
       have e2:afX ((if b>a then b else a)<=65535)=afO:=aC (by split<;>omega)
       rw [e2,aC (p:=fq (a,b)) (fun h=>h4 h.2.2.2.1)];rfl
     have e2:afX ((if b>a then b else a)<=65535)=afO:=aC (by split<;>omega)
     rw [e2,aC (p:=fq (a,b)) (fun h=>h2 h.2.1)];rfl
   have e1:afX (0<=if b<a then b else a)=afO:=aC (by split<;>omega)
   rw [e1,aC (p:=fq (a,b)) (fun h=>h3 h.2.2.1)];rfl
 have e1:afX (0<=if b<a then b else a)=afO:=aC (by split<;>omega)
 rw [e1,aC (p:=fq (a,b)) (fun h=>h1 h.1)];rfl
theorem zF (x:Int×Int):sd x=afI (afX (fq x)):=by
 obtain ⟨a,b⟩:=x;unfold sd;dsimp only
 by_cases h1:0<=a
 · by_cases h2:a<=65535
   · by_cases h3:0<=b
     · by_cases h4:b<=65535
       · by_cases h5:a=b
         · rw [bo h5,aF h1,aF h2,aF h3,aF h4,aC (p:=fq (a,b)) (fun h=>h.2.2.2.2 h5)];rfl
         rw [cC h5,aF h1,aF h2,aF h3,aF h4,aF (p:=fq (a,b)) ⟨h1,h2,h3,h4,h5⟩];rfl
       rw [aF h1,aF h2,aF h3,aC h4,aC (p:=fq (a,b)) (fun h=>h4 h.2.2.2.1)];rfl
     rw [aF h1,aF h2,aC h3,aC (p:=fq (a,b)) (fun h=>h3 h.2.2.1)];rfl
   rw [aF h1,aC h2,aC (p:=fq (a,b)) (fun h=>h2 h.2.1)];rfl
 rw [aC h1,aC (p:=fq (a,b)) (fun h=>h1 h.1)];rfl
structure eN (c:bG):Prop where
 len:(afA c.ce)<=200
 n0:0<=c.aL
 n1:c.aL<=1000000
 cv: ∀i,i<afA c.ce->fq (c.ce[i]!).2
 nr: ∀i,i<afA c.ce->0<=(c.ce[i]!).1/\(c.ce[i]!).1<c.aL
 up: ∀i j,i<j->j<afA c.ce->(c.ce[i]!).1<(c.ce[j]!).1
 nd: ∀i j,i<j->j<afA c.ce->(c.ce[i]!).2≠(c.ce[j]!).2
def ye (l:List qN) (i:Nat):Int:=if i=0 then -1 else (l[i-1]!).1
def OX (c:bG) (i:Nat):Prop:=fq (c.ce[i]!).2/\(∀j,j<i->(c.ce[j]!).2≠(c.ce[i]!).2)/\ye c.ce i<(c.ce[i]!).1/\(c.ce[i]!).1<c.aL
theorem eN.iff {c:bG} (h1:(afA c.ce)<=200) (h2:0<=c.aL) (h3:c.aL<=1000000):eN c↔ ∀i,i<afA c.ce->OX c i:=by
 constructor
 · intro ok i hi
   refine ⟨ok.cv i hi,fun j hj=>ok.nd j i hj hi,?_,(ok.nr i hi).2⟩
   unfold ye;split
   · have:=(ok.nr i hi).1;omega
   exact ok.up (i-1) i (by omega) hi
 intro h
 have low: ∀i,i<afA c.ce->0<=(c.ce[i]!).1:=by
  intro i
  induction i with
  |zero=>
   intro hi
   have:=(h 0 hi).2.2.1
   unfold ye at this;rw [pp rfl] at this;omega
  |succ i ih=>
   intro hi;have h1:=(h (i+1) hi).2.2.1;unfold ye at h1;rw [rc (by omega),show i+1-1=i by omega] at h1
   have:=ih (by omega)
   omega
 have up: ∀i j,i<j->j<afA c.ce->(c.ce[i]!).1<(c.ce[j]!).1:=by
  intro i j
  induction j with
  |zero=>intro h;omega
  |succ j ih=>
   intro k8 hj;have h1:=(h (j+1) hj).2.2.1;unfold ye at h1;rw [rc (by omega),show j+1-1=j by omega] at h1
   by_cases e:i=j
   · subst e;exact h1
   have:=ih (by omega) (by omega)
   omega
 exact ⟨h1,h2,h3,fun i hi=>(h i hi).1,fun i hi=>⟨low i hi,(h i hi).2.2.2⟩,up,fun i j k8 hj=>(h j hj).2.1 i k8⟩
theorem F' (l:List qN) (k:Nat) (a b:Int):nU [a,b] ((l.take k).map fun x=>[x.2.1,x.2.2])=afK:=by
 unfold nU;rw [List.all_eq_true];intro x hx;obtain ⟨y,hy,rfl⟩:=PP.1 hx;rfl
theorem Ga (l:List qN) (k:Nat) (x:Int×Int):DA ((l.take k).map fun y=>[y.2.1,y.2.2]) [x.1,x.2]=afX (∃j,j<k/\j<afA l/\(l[j]!).2=x):=by
 unfold DA;rw [aex,List.any_eq_true,decide_eq_true_iff];constructor
 · rintro ⟨y,hy,he⟩
   obtain ⟨z,hz,rfl⟩:=PP.1 hy;obtain ⟨j,h1,h2,rfl⟩:=cf.1 hz
   have:[x.1,x.2]=[(l[j]!).2.1,(l[j]!).2.2]:=by simpa using he
   injection this with e1 e2;injection e2 with e2 _;exact ⟨j,h1,h2,NE e1.symm e2.symm⟩
 rintro ⟨j,h1,h2,h3⟩
 refine ⟨[(l[j]!).2.1,(l[j]!).2.2],PP.2 ⟨l[j]!,cf.2 ⟨j,h1,h2,rfl⟩,rfl⟩,?_⟩;rw [h3];simp
theorem ui (c:bG):oY c=afI (if eN c then 0 else 8):=by
 unfold oY;simp only [aA]
 by_cases h1:200<afA c.ce
 · rw [aF (show (200:Int)<((afA c.ce):Int) by omega),rc (fun h=>by have:=h.len;omega)];rfl
 rw [aC (show¬(200:Int)<((afA c.ce):Int) by omega)]
 by_cases h2:c.aL<0
 · rw [aF h2,rc (fun h=>by have:=h.n0;omega)];rfl
 rw [aC h2]
 by_cases h3:1000000<c.aL
 · rw [aF h3,rc (fun h=>by have:=h.n1;omega)];rfl
 rw [aC h3];simp only [ol];have key:=dh (body:=pG) (fun i=>(ye c.ce i,c.ce,((afA c.ce):Int),(i:Int),c.aL,c.ce,(c.ce.take i).map fun x=>[x.2.1,x.2.2])) (afA c.ce) (fun i=> ¬OX c i) (r:=8) (e:=0) (fun i hi=>by
  have e1:afX ((i:Int)<((afA c.ce):Int))=afK:=aF (by omega)
  have has:K3 ((c.ce.take i).map fun x=>[x.2.1,x.2.2]) [(c.ce[i]!).2.1,(c.ce[i]!).2.2]=afI (afX (∃j,j<i/\j<afA c.ce/\(c.ce[j]!).2=(c.ce[i]!).2)):=by
   unfold K3;rw [F',Ga];rfl
  have nx:(c.ce.take (i+1)).map (fun x=>[x.2.1,x.2.2])=((c.ce.take i).map fun x=>[x.2.1,x.2.2])++[[(c.ce[i]!).2.1,(c.ce[i]!).2.2]]:=by
   rw [ew hi,List.map_append];rfl
  have ln:ye c.ce (i+1)=(c.ce[i]!).1:=by unfold ye;rw [rc (by omega),show i+1-1=i by omega]
  unfold pG;simp only [e1,lw,au c.ce i hi,ar,zE,has,nx,ln,aT (show i<1000000000 by omega)]
  unfold OX
  by_cases b1:fq (c.ce[i]!).2
  case neg=>
   rw [aC b1];exact ⟨fun _=>rfl,fun h=>absurd (ut.1 h).1 b1⟩
  rw [aF b1]
  by_cases b2: ∃j,j<i/\j<afA c.ce/\(c.ce[j]!).2=(c.ce[i]!).2
  · rw [aF b2]
    refine ⟨fun _=>rfl,fun h=>?_⟩
    obtain ⟨j,j1,j2,j3⟩:=b2;exact absurd j3 ((ut.1 h).2.1 j j1)
  rw [aC b2];have b2': ∀j,j<i->(c.ce[j]!).2≠(c.ce[i]!).2:=fun j hj he=>b2 ⟨j,hj,by omega,he⟩
  by_cases b3:(c.ce[i]!).1<=ye c.ce i
  · rw [aF b3]
    exact ⟨fun _=>rfl,fun h=>absurd (ut.1 h).2.2.1 (by omega)⟩
  rw [aC b3]
  by_cases b4:c.aL<=(c.ce[i]!).1
  · rw [aF b4]
    exact ⟨fun _=>rfl,fun h=>absurd (ut.1 h).2.2.2 (by omega)⟩
  rw [aC b4];have ins:K4 ((c.ce.take i).map fun x=>[x.2.1,x.2.2]) [(c.ce[i]!).2.1,(c.ce[i]!).2.2]=afI (((c.ce.take i).map fun x=>[x.2.1,x.2.2])++[[(c.ce[i]!).2.1,(c.ce[i]!).2.2]]):=by
   unfold K4 NP;rw [F',Ga,aC b2];rfl
  rw [ins];exact ⟨fun h=>absurd ⟨b1,b2',by omega,by omega⟩ h,fun _=>rfl⟩) (by
  unfold pG
  have:afX (((afA c.ce):Int)<((afA c.ce):Int))=afO:=aC (by omega)
  simp only [this,ol])
 have h0:ye c.ce 0= -1:=rfl;rw [h0] at key
 by_cases ok:eN c
 · rw [pp ok]
   exact key.2 fun i hi=>ut.2 ((eN.iff (by omega) (by omega) (by omega)).1 ok i hi)
 rw [rc ok]
 rw [eN.iff (by omega) (by omega) (by omega)] at ok
 obtain ⟨i,h⟩:=EQ.1 ok;obtain ⟨hi,hx⟩:=If.1 h;exact key.1 ⟨i,hi,hx⟩
theorem Mw (c:bG) (i:Nat) (hi:i<afA c.ce) (hl:(afA c.ce)<=200):
 ((∃j,j<i/\(c.ce[j]!).2=(c.ce[i]!).2)->ax fF ((i:Int),0,c.aL,c.ce,c.ce[i]!)=afI (.done 8))/\
 ((∀j,j<i-> ¬(c.ce[j]!).2=(c.ce[i]!).2)->ax fF ((i:Int),0,c.aL,c.ce,c.ce[i]!)=afI (.next (((i+1:Nat):Int),c.aL,c.ce))):=by
 refine dh (body:=fF) (fun j=>((i:Int),(j:Int),c.aL,c.ce,c.ce[i]!)) i (fun j=>(c.ce[j]!).2=(c.ce[i]!).2) (r:= .done 8) (e:= .next (((i+1:Nat):Int),c.aL,c.ce)) (fun j hj=>?_) ?_
 · have e1:afX ((j:Int)<(i:Int))=afK:=aF (by omega)
   unfold fF;simp only [e1,lw,au c.ce j (by omega),ar,aT (show j<1000000000 by omega)]
   generalize c.ce[j]! =x;generalize c.ce[i]! =y;constructor
   · intro h;rw [eu (congrArg afm h),eu (congrArg afn h)];rfl
   intro h
   by_cases h1:x.2.1=y.2.1
   · rw [eu h1,dR (fun h2=>h (NE h1 h2))];rfl
   rw [dR h1];rfl
 unfold fF
 have:afX ((i:Int)<(i:Int))=afO:=aC (by omega)
 simp only [this,ol,aT (show i<1000000000 by omega)]
theorem yf (c:bG):qg c=afI (if eN c then 0 else 8):=by
 unfold qg;simp only [aA]
 by_cases h1:200<afA c.ce
 · rw [aF (show (200:Int)<((afA c.ce):Int) by omega),rc (fun h=>by have:=h.len;omega)];rfl
 rw [aC (show¬(200:Int)<((afA c.ce):Int) by omega)]
 by_cases h2:c.aL<0
 · rw [aF h2,rc (fun h=>by have:=h.n0;omega)];rfl
 rw [aC h2]
 by_cases h3:1000000<c.aL
 · rw [aF h3,rc (fun h=>by have:=h.n1;omega)];rfl
 rw [aC h3];simp only [ol];have key:=dh (body:=oa) (fun i=>((i:Int),c.aL,c.ce)) (afA c.ce) (fun i=> ¬(fq (c.ce[i]!).2/\0<=(c.ce[i]!).1/\(c.ce[i]!).1<c.aL/\(0<i->(c.ce[i-1]!).1<(c.ce[i]!).1)/\ ∀j,j<i-> ¬(c.ce[j]!).2=(c.ce[i]!).2)) (r:=8) (e:=0) (fun i hi=>by
  have e1:afX ((i:Int)<((afA c.ce):Int))=afK:=aF (by omega)
  have l1:=Mw c i hi (by omega)
  unfold oa;simp only [aA,e1,lw,au c.ce i hi,ar,zF]
  by_cases b1:fq (c.ce[i]!).2
  case neg=>
   rw [aC b1];exact ⟨fun _=>rfl,fun h=>absurd (ut.1 h).1 b1⟩
  rw [aF b1]
  by_cases b2:(c.ce[i]!).1<0
  · rw [aF b2]
    exact ⟨fun _=>rfl,fun h=>absurd (ut.1 h).2.1 (by omega)⟩
  rw [aC b2]
  by_cases b3:c.aL<=(c.ce[i]!).1
  · rw [aF b3]
    exact ⟨fun _=>rfl,fun h=>absurd (ut.1 h).2.2.1 (by omega)⟩
  rw [aC b3];simp only [ww,ol];have go:(0<i->(c.ce[i-1]!).1<(c.ce[i]!).1)->(¬(fq (c.ce[i]!).2/\0<=(c.ce[i]!).1/\(c.ce[i]!).1<c.aL/\(0<i->(c.ce[i-1]!).1<(c.ce[i]!).1)/\ ∀j,j<i-> ¬(c.ce[j]!).2=(c.ce[i]!).2)->ax fF ((i:Int),0,c.aL,c.ce,c.ce[i]!)=afI (.done 8))/\
   (¬¬(fq (c.ce[i]!).2/\0<=(c.ce[i]!).1/\(c.ce[i]!).1<c.aL/\(0<i->(c.ce[i-1]!).1<(c.ce[i]!).1)/\ ∀j,j<i-> ¬(c.ce[j]!).2=(c.ce[i]!).2)->ax fF ((i:Int),0,c.aL,c.ce,c.ce[i]!)=afI (.next (((i+1:Nat):Int),c.aL,c.ce))):=by
   intro hp;constructor
   · intro h
     refine l1.1 (Classical.byContradiction fun hx=>h ⟨b1,by omega,by omega,hp,fun j hj he=>hx ⟨j,hj,he⟩⟩)
   intro h
   exact l1.2 (ut.1 h).2.2.2.2
  by_cases b4:0<i
  · have f1:afX ((0:Int)<(i:Int))=afK:=aF (by omega)
    simp only [f1,lw,mF (show i<1000000000 by omega) b4,au c.ce (i-1) (by omega),ar]
    by_cases b5:(c.ce[i]!).1<=(c.ce[i-1]!).1
    · rw [aF b5]
      exact ⟨fun _=>rfl,fun h=>absurd ((ut.1 h).2.2.2.1 b4) (by omega)⟩
    rw [aC b5]
    exact go fun _=>by omega
  · have f1:afX ((0:Int)<(i:Int))=afO:=aC (by omega)
    rw [f1];exact go fun h=>absurd h b4) (by
  unfold oa
  have:afX (((afA c.ce):Int)<((afA c.ce):Int))=afO:=aC (by omega)
  simp only [aA,this,ol])
 have same:eN c↔ ∀i,i<afA c.ce->(fq (c.ce[i]!).2/\0<=(c.ce[i]!).1/\(c.ce[i]!).1<c.aL/\(0<i->(c.ce[i-1]!).1<(c.ce[i]!).1)/\ ∀j,j<i-> ¬(c.ce[j]!).2=(c.ce[i]!).2):=by
  constructor
  · intro ok i hi
    exact ⟨ok.cv i hi,(ok.nr i hi).1,(ok.nr i hi).2,fun h=>ok.up (i-1) i (by omega) hi,fun j hj=>ok.nd j i hj hi⟩
  intro h
  rw [eN.iff (by omega) (by omega) (by omega)]
  intro i hi;obtain ⟨a1,a2,a3,a4,a5⟩:=h i hi;refine ⟨a1,a5,?_,a3⟩;unfold ye;split
  · omega
  exact a4 (by omega)
 by_cases ok:eN c
 · rw [pp ok]
   exact key.2 fun i hi=>ut.2 (same.1 ok i hi)
 rw [rc ok]
 rw [same] at ok;obtain ⟨i,h⟩:=EQ.1 ok;obtain ⟨hi,hx⟩:=If.1 h;exact key.1 ⟨i,hi,hx⟩
def uj (l:List qN) (x:Int×Int):Prop:= ∃i,i<afA l/\(l[i]!).2=x
theorem Mx (l:List qN) (x:Int×Int) (hl:(afA l)<=1000000):cB l x=afI (afX (uj l x)):=by
 unfold cB fw;have key:=hO (body:=dp) (fun i=>(l,x.1,x.2,((afA l):Int),(i:Int))) (afA l) (fun i=>(l[i]!).2=x) (fun i=>(i:Int)) (e:= -1) (fun i hi=>by
  have e1:afX ((i:Int)<((afA l):Int))=afK:=aF (by omega)
  unfold dp Am;simp only [e1,lw,au l i hi,ar,aT (show i<1000000000 by omega)]
  generalize l[i]! =y;constructor
  · intro h;rw [eu (congrArg afm h),eu (congrArg afn h)];rfl
  · intro h
    by_cases h1:y.2.1=x.1
    · rw [eu h1,dR (fun h2=>h (NE h1 h2))];rfl
    rw [dR h1];rfl) (by
  unfold dp
  have:afX (((afA l):Int)<((afA l):Int))=afO:=aC (by omega)
  simp only [this,ol])
 rw [aA]
 by_cases hx:uj l x
 · obtain ⟨k,h1,h2,h3⟩:=least hx
   have:=key.1 k h1 h2 h3
   rw [show ((0:Nat):Int)=0 from rfl] at this;rw [this,aF hx];simp only [ar,aF (show (0:Int)<=(k:Int) by omega)]
 have:=key.2 fun i hi he=>hx ⟨i,hi,he⟩
 rw [show ((0:Nat):Int)=0 from rfl] at this;rw [this,aC hx];rfl
theorem CI:dX=cB:=rfl
theorem wB (c:bG) (x:Int×Int) (hl:(afA c.ce)<=1000000):rI c x=afI (afX (uj c.ce x)):=by
 unfold rI;have key:=dh (body:=rj) (fun i=>((i:Int),c.aL,c.ce,x)) (afA c.ce) (fun i=>(c.ce[i]!).2=x) (r:=afK) (e:=afO) (fun i hi=>by
  have e1:afX ((i:Int)<((afA c.ce):Int))=afK:=aF (by omega)
  unfold rj;simp only [aA,e1,lw,au c.ce i hi,ar,aT (show i<1000000000 by omega)]
  generalize c.ce[i]! =y;constructor
  · intro h;rw [eu (congrArg afm h),eu (congrArg afn h)];rfl
  · intro h
    by_cases h1:y.2.1=x.1
    · rw [eu h1,dR (fun h2=>h (NE h1 h2))];rfl
    rw [dR h1];rfl) (by
  unfold rj
  have:afX (((afA c.ce):Int)<((afA c.ce):Int))=afO:=aC (by omega)
  simp only [aA,this,ol])
 by_cases hx:uj c.ce x
 · rw [aF hx];exact key.1 hx
 rw [aC hx];exact key.2 fun i hi he=>hx ⟨i,hi,he⟩
def oB (c:bG) (x:Int×Int):bG:=⟨c.aL+1,c.ce++[(c.aL,x)]⟩
def Bz (c:bG):Prop:=afA c.ce=200\/c.aL=1000000
theorem My {c:bG} (ok:eN c) {x:Int×Int} (hx:fq x):Bq c x=afI (if uj c.ce x then (⟨0,[]⟩,0,14) else if Bz c then (⟨0,[]⟩,0,18) else (oB c x,c.aL,0)):=by
 have:=ok.len;have:=ok.n0;have:=ok.n1
 unfold Bq;rw [ui,pp ok,zE,aF hx,Mx _ _ (by omega)]
 simp only [ar,show ((0:Int) !=0)=afO from rfl,ol,ww,aA]
 by_cases h1:uj c.ce x
 · rw [aF h1,pp h1];rfl
 rw [aC h1,rc h1];unfold Bz
 by_cases h2:(afA c.ce)=200
 · rw [eu (show ((afA c.ce):Int)=200 by omega),pp (.inl h2)];rfl
 rw [dR (show¬((afA c.ce):Int)=200 by omega)]
 by_cases h3:c.aL=1000000
 · rw [eu h3,pp (.inr h3)];rfl
 rw [dR h3,rc (by omega)]
 have e:ae .i64 (c.aL+1)=c.aL+1:=by rw [wi];omega
 simp only [ol,ba (show (afA c.ce)<=1048576 by omega),ar,bY (show (afA c.ce)+[(c.aL,x)].length<=1048576 by simp;omega),e]
 rfl
theorem JR {c:bG} (ok:eN c) {x:Int×Int} (hx:fq x):yL c x=afI (if uj c.ce x then (⟨0,[]⟩,0,14) else if Bz c then (⟨0,[]⟩,0,18) else (oB c x,c.aL,0)):=by
 have:=ok.len;have:=ok.n0;have:=ok.n1
 unfold yL oV;rw [yf,pp ok,zF,aF hx,wB _ _ (by omega)]
 simp only [ar,show ((0:Int) !=0)=afO from rfl,ol,ww,aA]
 by_cases h1:uj c.ce x
 · rw [aF h1,pp h1];rfl
 rw [aC h1,rc h1];unfold Bz
 by_cases h2:(afA c.ce)=200
 · rw [eu (show ((afA c.ce):Int)=200 by omega),pp (.inl h2)];rfl
 rw [dR (show¬((afA c.ce):Int)=200 by omega)]
 by_cases h3:c.aL=1000000
 · rw [eu h3,pp (.inr h3)];rfl
 rw [dR h3,rc (by omega)]
 have e:ae .i64 (c.aL+1)=c.aL+1:=by rw [wi];omega
 simp only [ol,ba (show (afA c.ce)<=1048576 by omega),ar,bY (show (afA c.ce)+[(c.aL,x)].length<=1048576 by simp;omega),e]
 rfl
theorem sE {c:bG} {x:Int×Int} {i:Nat}:(oB c x).ce[i]! =if i<(afA c.ce) then c.ce[i]! else if i=(afA c.ce) then (c.aL,x) else default:=by
 show (c.ce++[(c.aL,x)])[i]! =_
 by_cases h:i<afA c.ce
 · rw [pp h,cw h]
 rw [rc h,dM (by omega)]
 by_cases e:i=afA c.ce
 · rw [pp e,e,aev];rfl
 rw [rc e,getElem!_neg _ _ (by simp;omega)]
theorem yY {c:bG} {x:Int×Int}:(oB c x).ce.length=afA c.ce+1:=by
 show (c.ce++[(c.aL,x)]).length=_;simp
theorem OY {c:bG} (ok:eN c) {x:Int×Int} (hx:fq x) (hn: ¬uj c.ce x) (hf: ¬Bz c):eN (oB c x):=by
 have h1:=ok.len;have h2:=ok.n0;have h3:=ok.n1;unfold Bz at hf;refine ⟨by rw [yY];omega,by show 0<=c.aL+1;omega,by show c.aL+1<=1000000;omega,?_,?_,?_,?_⟩
 · intro i hi
   rw [yY] at hi;rw [sE]
   by_cases h:i<afA c.ce
   · rw [pp h];exact ok.cv i h
   rw [rc h,pp (by omega)];exact hx
 · intro i hi
   rw [yY] at hi;rw [sE];show 0<=_/\_<c.aL+1
   by_cases h:i<afA c.ce
   · rw [pp h];have:=ok.nr i h;omega
   rw [rc h,pp (by omega)];dsimp only;omega
 · intro i j k8 hj
   rw [yY] at hj;rw [sE,sE,pp (by omega)]
   by_cases h:j<afA c.ce
   · rw [pp h];exact ok.up i j k8 h
   rw [rc h,pp (by omega)]
   exact (ok.nr i (by omega)).2
 intro i j k8 hj
 rw [yY] at hj;rw [sE,sE,pp (by omega)]
 by_cases h:j<afA c.ce
 · rw [pp h];exact ok.nd i j k8 h
 rw [rc h,pp (by omega)]
 exact fun he=>hn ⟨i,by omega,he⟩
def mH (c:bG) (k:Nat):bG:=⟨c.aL,c.ce.eraseIdx k⟩
theorem BA {α:Type} {l:List α} {k:Nat} (hk:k<afA l):(l.eraseIdx k).length=afA l-1:=by
 rw [List.length_eraseIdx,pp hk]
theorem Gb {c:bG} (ok:eN c) {k:Nat} (hk:k<afA c.ce):eN (mH c k):=by
 have h1:=ok.len;have len:(mH c k).ce.length=afA c.ce-1:=BA hk;have cell: ∀i,∃j,i<=j/\j<=i+1/\(i<afA c.ce-1->j<afA c.ce)/\(mH c k).ce[i]! =c.ce[j]!/\(i<k->j=i)/\(k<=i->j=i+1):=by
  intro i
  by_cases h:i<k
  · exact ⟨i,by omega,by omega,by omega,by show (c.ce.eraseIdx k)[i]! =_;rw [wz,pp h],fun _=>rfl,by omega⟩
  exact ⟨i+1,by omega,by omega,by omega,by show (c.ce.eraseIdx k)[i]! =_;rw [wz,rc h],by omega,fun _=>rfl⟩
 refine ⟨by omega,ok.n0,ok.n1,?_,?_,?_,?_⟩
 · intro i hi
   obtain ⟨j,j1,j2,j3,j4,j5,j6⟩:=cell i;rw [j4];exact ok.cv j (j3 (by omega))
 · intro i hi
   obtain ⟨j,j1,j2,j3,j4,j5,j6⟩:=cell i;rw [j4];exact ok.nr j (j3 (by omega))
 · intro i i' k8 hi
   obtain ⟨j,j1,j2,j3,j4,j5,j6⟩:=cell i;obtain ⟨m,m1,m2,m3,m4,m5,m6⟩:=cell i';rw [j4,m4];exact ok.up j m (by omega) (m3 (by omega))
 intro i i' k8 hi
 obtain ⟨j,j1,j2,j3,j4,j5,j6⟩:=cell i;obtain ⟨m,m1,m2,m3,m4,m5,m6⟩:=cell i';rw [j4,m4];exact ok.nd j m (by omega) (m3 (by omega))
theorem Gc {c:bG} (ok:eN c) {k:Nat} (hk:k<afA c.ce) {n:Int} (hn:(c.ce[k]!).1=n):th c n=afI (mH c k,(c.ce[k]!).2,0):=by
 have h1:=ok.len;unfold th Cx;obtain ⟨L,d1,d2⟩:=yd c.ce k hk;rw [ui,pp ok,(pQ c.ce n (by omega) ok.up).1 k hk hn]
 simp only [ar,show ((0:Int) !=0)=afO from rfl,ol,ww,ba (show (afA c.ce)<=1048576 by omega),aT (show k<1000000000 by omega),d1,au c.ce k hk,d2]
 rfl
theorem BB {l:List qN} {k:Nat} (hk:k<afA l) (hs: ∀i j,i<j->j<afA l->(l[i]!).1<(l[j]!).1) {n:Int} (hn:(l[k]!).1=n):l.filter (fun x=>x.1 !=n)=l.eraseIdx k:=by
 rw [sD];have e:l.filter (fun x=>x.1 !=n)=(l.take k++l[k]!::l.drop (k+1)).filter (fun x=>x.1 !=n):=congrArg _ (Me hk)
 rw [e,aeH,List.filter_cons_of_neg (by rw [hn];simp)]
 congr 1
 · rw [aeC]
   intro x hx;obtain ⟨i,h1,h2,rfl⟩:=cf.1 hx
   have:=hs i k h1 hk
   exact cC (by omega)
 rw [aeC]
 intro x hx;obtain ⟨i,h1,rfl⟩:=aS.1 hx;rw [aet] at h1;rw [kN]
 have:=hs k (k+1+i) (by omega) (by omega)
 exact cC (by omega)
theorem CJ {c:bG} (ok:eN c) {k:Nat} (hk:k<afA c.ce) {n:Int} (hn:(c.ce[k]!).1=n):pB c n=afI (mH c k):=by
 have h1:=ok.len;unfold pB;have key:=cz (body:=jE) (fun i=>(n,(i:Int),c.aL,c.ce,0,c.aL,(c.ce.take i).filter (fun x=>x.1 !=n))) (afA c.ce) (fun i hi=>by
  have e1:afX ((i:Int)<((afA c.ce):Int))=afK:=aF (by omega)
  have nx:(c.ce.take (i+1)).filter (fun x=>x.1 !=n)=(c.ce.take i).filter (fun x=>x.1 !=n)++(if (c.ce[i]!).1 !=n then [c.ce[i]!] else []):=by
   rw [ew hi,aeH,List.filter_cons,List.filter_nil]
  have fl:((c.ce.take i).filter (fun x=>x.1 !=n)).length<=200:=aft (List.length_filter_le _ _) (by rw [F0s];omega)
  unfold jE;simp only [aA,e1,lw,au c.ce i hi,ar,aT (show i<1000000000 by omega),nx]
  by_cases h:(c.ce[i]!).1=n
  · rw [bo h];simp
  rw [cC h]
  simp only [lw,if_true,bY (show ((c.ce.take i).filter (fun x=>x.1 !=n)).length+[c.ce[i]!].length<=1048576 by simp only [af0,af9];omega),ar])
 have fin:jE (n,((afA c.ce):Int),c.aL,c.ce,0,c.aL,(c.ce.take (afA c.ce)).filter (fun x=>x.1 !=n))=afI (.done (mH c k)):=by
  unfold jE
  have:afX (((afA c.ce):Int)<((afA c.ce):Int))=afO:=aC (by omega)
  simp only [aA,this,ol,List.take_length];rw [BB hk ok.up hn];rfl
 refine Eq.trans ?_ (aJ fin);exact key
def fU (l:List Pt) (id:Int):Prop:= ∃k,k<afA l/\(l[k]!).1=id
noncomputable def gF (l:List Pt) (id:Int):Pt:=if h:fU l id then l[h.choose]! else (-1,0,0)
theorem BC {l:List Pt} (hs:fM l) {k:Nat} (hk:k<afA l) {id:Int} (h:(l[k]!).1=id):gF l id=l[k]!:=by
 have hp:fU l id:=⟨k,hk,h⟩;unfold gF;rw [dif_pos hp]
 have:=hp.choose_spec
 rw [Ap hs this.1 hk (by rw [this.2,h])]
theorem fa {l:List Pt} (ok:bC l) {id:Int} (h:fU l id):fK (gF l id)/\(gF l id).1=id:=by
 obtain ⟨k,hk,he⟩:=h;rw [BC ok.2.2 hk he];exact ⟨ok.2.1 _ (aY hk),he⟩
theorem CK {l:List Pt} {id:Int} (h: ¬fU l id):gF l id=(-1,0,0):=by unfold gF;rw [dif_neg h]
theorem lK {l:List Pt} (ok:bC l) (id:Int):iV ⟨l⟩ id=afI (gF l id):=by
 have h1:=ok.1;have bs:=pQ l id (by omega) (fun i j=>eH ok.2.2)
 unfold iV;dsimp only;rw [VG]
 by_cases h:fU l id
 · obtain ⟨k,hk,he⟩:=h
   rw [bs.1 k hk he];simp only [ar,ww,ol,au l k hk,BC ok.2.2 hk he]
 obtain ⟨m,m1,m2,m3,e⟩:=bs.2 (fun k hk he=>h ⟨k,hk,he⟩)
 rw [e,CK h];rfl
theorem wC {l:List Pt} (ok:bC l) {id:Int} (h:fU l id): ∃k,k<afA l/\fE ⟨l⟩ id=afI (k:Int)/\l[k]! =gF l id:=by
 have h1:=ok.1;obtain ⟨k,hk,he⟩:=h;exact ⟨k,hk,CC ok.2.2 (by omega) hk he,(BC ok.2.2 hk he).symm⟩
theorem CL {l:List Pt} (ok:bC l) {id:Int} (h: ¬fU l id):fE ⟨l⟩ id=afI (-1):=by
 have h1:=ok.1;exact adZ (by omega) fun k hk he=>h ⟨k,hk,he⟩
def jj (l:List Pt) (x:Int×Int):Prop:=fU l x.1/\fU l x.2
noncomputable def bE (l:List Pt) (x t:Int×Int):(Int×Int)×Bool:=zC (gF l x.2) (gF l x.1) t
theorem uo {l:List Pt} (ok:bC l) {x t:Int×Int} (hx:fq x) (ht:cE t) (h64:oM t):
 o4 ⟨l⟩ x t=afI (if jj l x then ((bE l x t).1,(bE l x t).2,0) else ((0,0),afO,8)):=by
 unfold o4;rw [lK ok,lK ok];simp only [ar,DE h64];have bad: ¬fK (-1,0,0):=by unfold fK;dsimp only;omega
 by_cases h1:fU l x.1
 · by_cases h2:fU l x.2
   · obtain ⟨p1,p2⟩:=fa ok h1
     obtain ⟨q1,q2⟩:=fa ok h2;rw [pp ⟨q1,p1,ht,by rw [p2,q2];exact fun h=>hx.2.2.2.2 h.symm⟩,pp ⟨h1,h2⟩]
     rfl
   rw [CK h2,rc (fun h=>bad h.1),rc (fun h=>bad h.1),rc (fun h=>h2 h.2)]
 rw [CK h1,rc (fun h=>bad h.2.1),rc (fun h=>bad h.2.1),rc (fun h=>h1 h.1)]
theorem uq {l:List Pt} (ok:bC l) {x t:Int×Int} (h64:oM t) (hb:jj l x):oX ⟨l⟩ x t=afI (bE l x t):=by
 obtain ⟨h1,h2⟩:=hb;obtain ⟨j,j1,j2,j3⟩:=wC ok h1;obtain ⟨k,k1,k2,k3⟩:=wC ok h2;unfold oX;simp only [j2,k2,ar,au l j j1,au l k k1,j3,k3,OL (fa ok h2).1 (fa ok h1).1 h64];rfl
theorem VH (c:bG) {l:List Pt} (ok:bC l) (hl:(afA c.ce)<=200):ti c ⟨l⟩=afI (afX (∀i,i<afA c.ce->jj l (c.ce[i]!).2)):=by
 unfold ti;have key:=dh (body:=oi) (fun i=>((i:Int),c.aL,c.ce,l)) (afA c.ce) (fun i=> ¬jj l (c.ce[i]!).2) (r:=afO) (e:=afK) (fun i hi=>by
  have e1:afX ((i:Int)<((afA c.ce):Int))=afK:=aF (by omega)
  unfold oi jj;simp only [aA,e1,lw,au c.ce i hi,ar,aT (show i<1000000000 by omega)]
  by_cases h1:fU l (c.ce[i]!).2.1
  · obtain ⟨k,k1,k2,_⟩:=wC ok h1
    rw [k2];simp only [ar,aC (show¬(k:Int)<0 by omega),ol]
    by_cases h2:fU l (c.ce[i]!).2.2
    · obtain ⟨j,j1,j2,_⟩:=wC ok h2
      rw [j2];simp only [ar,aC (show¬(j:Int)<0 by omega),ol]
      exact ⟨fun h=>absurd ⟨h1,h2⟩ h,fun _=>trivial⟩
    rw [CL ok h2]
    exact ⟨fun _=>rfl,fun h=>absurd (ut.1 h).2 h2⟩
  · rw [CL ok h1]
    exact ⟨fun _=>rfl,fun h=>absurd (ut.1 h).1 h1⟩) (by
  unfold oi
  have:afX (((afA c.ce):Int)<((afA c.ce):Int))=afO:=aC (by omega)
  simp only [aA,this,ol])
 by_cases hx: ∀i,i<afA c.ce->jj l (c.ce[i]!).2
 · rw [aF hx];exact key.2 fun i hi=>ut.2 (hx i hi)
 rw [aC hx]
 obtain ⟨i,h⟩:=EQ.1 hx;obtain ⟨hi,hx⟩:=If.1 h;exact key.1 ⟨i,hi,hx⟩
def aW (l:List Pt) (t:Int×Int) (H:List Ev):List qN->List qN->Prop
 | [],ds=>ds=[]
 |x::cs,ds=>((bE l x.2 t).2=afK-> ∃d y8,ds=d::y8/\d.1=x.1/\((bE l x.2 t).1.1,(bE l x.2 t).1.2,x.1,d.2)∈H/\aW l t H cs y8)/\((bE l x.2 t).2=afO->aW l t H cs ds)
structure bn (c:aP):Prop where
 qv:cE c.ci
 hU:oM c.ci
 jS:bC c.ii.am
 uu:eN c.ai
 mS:eK c.aa
 JS:(afA c.aa.aj)=200
 hd:(afA c.aa.bv)=afA c.io
 known: ∀i,i<afA c.ai.ce->jj c.ii.am (c.ai.ce[i]!).2
 DG:aW c.ii.am c.ci c.aa.bv c.ai.ce c.io
structure qw (c:aP):Prop where
 hU:oM c.ci
 ag:x9 c.aa
 du:(afA c.io)<=1000000
theorem afk {a:aM} (ok:eK a) (w2:(afA a.aj)=200) (t:Int×Int) (n:Int) (h:Int×Int):
 (0<=h.1/\h.1<200/\0<=a.aj[h.1.toNat]!/\a.bv[(a.aj[h.1.toNat]!).toNat]! =(t.1,t.2,n,h))↔((t.1,t.2,n,h):Ev)∈a.bv:=by
 have wl:=ok.wl;have hu:=ok.so.ul;constructor
 · rintro ⟨h1,h2,h3,h4⟩
   cases hb:a.af.be[h.1.toNat]! with
   |false=>
    have:=ok.un h.1.toNat (by omega) hb
    omega
   |true=>
    have:=ok.fwd h.1.toNat (by omega) hb
    rw [<- h4];exact aY (by omega)
 intro hm
 obtain ⟨w,hw,he⟩:=aS.1 hm;obtain ⟨b1,b2,b3,b4,b5⟩:=ok.back hw;have e:Ev.ix a.bv[w]! =h.1:=by rw [he]
 have e2:Ev.n a.bv[w]! =h.1.toNat:=by rw [he]
 rw [e] at b1 b2;rw [e2] at b5;refine ⟨b1,by omega,by omega,?_⟩
 rw [b5,AC,he]
theorem VI {a:aM} (ok:eK a) {i:Nat} (hi:i<afA a.af.aB) (h:0<=a.aj[i]!):a.aj[i]!<(afA a.bv):=by
 cases hb:a.af.be[i]! with
 |false=>have:=ok.un i hi hb;omega
 |true=>exact (ok.fwd i hi hb).2.1
theorem rL {α:Type} [Inhabited α] {l:List α} {i:Nat} (h:i<afA l):l.drop i=l[i]!::l.drop (i+1):=by
 rw [getElem!_pos l i h];exact List.drop_eq_getElem_cons h
theorem Mz {c:aP} (qv:cE c.ci) (hU:oM c.ci) (jS:bC c.ii.am) (uu:eN c.ai) (mS:eK c.aa) (w2:(afA c.aa.aj)=200):
 ∀(d i:Nat) (ds:List qN),afA c.ai.ce-i<=d->i<=afA c.ai.ce->afA ds<=1000000->
  ax cR (ds,c.ai.ce,((afA c.ai.ce):Int),(i:Int),c.ci.1,c.ci.2,c.ii.am,c.ai.aL,c.ai.ce,c.aa.af.aB,c.aa.af.be,c.aa.af.bi,c.aa.bv,c.aa.aj,c.io)=
   afI (.done (if (∀j,i<=j->j<afA c.ai.ce->jj c.ii.am (c.ai.ce[j]!).2)/\aW c.ii.am c.ci c.aa.bv (c.ai.ce.drop i) ds then 0 else 8)):=by
 have hl:=uu.len;have wl:=mS.wl;have fin: ∀(ds:List qN),ax cR (ds,c.ai.ce,((afA c.ai.ce):Int),((afA c.ai.ce):Int),c.ci.1,c.ci.2,c.ii.am,c.ai.aL,c.ai.ce,c.aa.af.aB,c.aa.af.be,c.aa.af.bi,c.aa.bv,c.aa.aj,c.io)=afI (.done (if ds=[] then 0 else 8)):=by
  intro ds;refine aJ ?_;unfold cR;have e1:afX (((afA c.ai.ce):Int)<((afA c.ai.ce):Int))=afO:=aC (by omega)
  simp only [aA,e1,ol];cases ds with
  |nil=>rw [aC (by simp),pp rfl];rfl
  |cons d ds=>rw [aF (by simp),rc (by simp)];rfl
 intro d
 induction d with
 |zero=>
  intro i ds hd hi WB
  have:i=(afA c.ai.ce):=by omega
  subst this;rw [fin ds,adc]
  have:((∀j,afA c.ai.ce<=j->j<afA c.ai.ce->jj c.ii.am (c.ai.ce[j]!).2)/\aW c.ii.am c.ci c.aa.bv [] ds)↔ds=[]:=⟨fun h=>h.2,fun h=>⟨fun j h1 h2=>by omega,h⟩⟩
  by_cases h:ds=[]
  · rw [pp h,pp (this.2 h)]
  rw [rc h,rc (fun k=>h (this.1 k))]
 |succ d ih=>
  intro i ds hd hi WB
  by_cases he:i=afA c.ai.ce
  · subst he
    rw [fin ds,adc]
    have:((∀j,afA c.ai.ce<=j->j<afA c.ai.ce->jj c.ii.am (c.ai.ce[j]!).2)/\aW c.ii.am c.ci c.aa.bv [] ds)↔ds=[]:=⟨fun h=>h.2,fun h=>⟨fun j h1 h2=>by omega,h⟩⟩
    by_cases h:ds=[]
    · rw [pp h,pp (this.2 h)]
    rw [rc h,rc (fun k=>h (this.1 k))]
  have sJ:i<(afA c.ai.ce):=by omega
  have e1:afX ((i:Int)<((afA c.ai.ce):Int))=afK:=aF (by omega)
  have hw:=uo jS (x:=(c.ai.ce[i]!).2) (t:=(c.ci.1,c.ci.2)) (uu.cv i sJ) qv hU;have dr:=rL sJ;have all:(∀j,i<=j->j<afA c.ai.ce->jj c.ii.am (c.ai.ce[j]!).2)↔(jj c.ii.am (c.ai.ce[i]!).2/\ ∀j,i+1<=j->j<afA c.ai.ce->jj c.ii.am (c.ai.ce[j]!).2):=by
   constructor
   · intro h;exact ⟨h i (Do _) sJ,fun j h1 h2=>h j (by omega) h2⟩
   rintro ⟨h1,h2⟩ j h3 h4
   by_cases e:j=i
   · rw [e];exact h1
   exact h2 j (by omega) h4
  have sc:=aT (show i<1000000000 by omega)
  by_cases hb:jj c.ii.am (c.ai.ce[i]!).2
  case neg=>
   rw [rc (fun h=>hb (all.1 h.1).1)]
   refine aJ ?_;unfold cR;simp only [e1,lw,au c.ai.ce i sJ,ar,hw,rc hb];rfl
  rw [pp hb] at hw
  by_cases is:(bE c.ii.am (c.ai.ce[i]!).2 c.ci).2=afK
  case neg=>
   have is':(bE c.ii.am (c.ai.ce[i]!).2 c.ci).2=afO:=by simpa using is
   rw [aZ (y:=(ds,c.ai.ce,((afA c.ai.ce):Int),((i+1:Nat):Int),c.ci.1,c.ci.2,c.ii.am,c.ai.aL,c.ai.ce,c.aa.af.aB,c.aa.af.be,c.aa.af.bi,c.aa.bv,c.aa.aj,c.io)) (by
    unfold cR;simp only [e1,lw,au c.ai.ce i sJ,ar,hw,sc,is',show ((0:Int) !=0)=afO from rfl,ol,UV]),ih (i+1) ds (by omega) (by omega) WB]
   have same:((∀j,i<=j->j<afA c.ai.ce->jj c.ii.am (c.ai.ce[j]!).2)/\aW c.ii.am c.ci c.aa.bv (c.ai.ce.drop i) ds)↔((∀j,i+1<=j->j<afA c.ai.ce->jj c.ii.am (c.ai.ce[j]!).2)/\aW c.ii.am c.ci c.aa.bv (c.ai.ce.drop (i+1)) ds):=by
    rw [dr,all];constructor
    · rintro ⟨⟨_,h1⟩,h2⟩;exact ⟨h1,h2.2 is'⟩
    rintro ⟨h1,h2⟩;exact ⟨⟨hb,h1⟩,fun h=>absurd h is,fun _=>h2⟩
   simp only [same]
  have stop:(¬((∀j,i<=j->j<afA c.ai.ce->jj c.ii.am (c.ai.ce[j]!).2)/\aW c.ii.am c.ci c.aa.bv (c.ai.ce.drop i) ds))->cR (ds,c.ai.ce,((afA c.ai.ce):Int),(i:Int),c.ci.1,c.ci.2,c.ii.am,c.ai.aL,c.ai.ce,c.aa.af.aB,c.aa.af.be,c.aa.af.bi,c.aa.bv,c.aa.aj,c.io)=afI (.done (.done 8))->ax cR (ds,c.ai.ce,((afA c.ai.ce):Int),(i:Int),c.ci.1,c.ci.2,c.ii.am,c.ai.aL,c.ai.ce,c.aa.af.aB,c.aa.af.be,c.aa.af.bi,c.aa.bv,c.aa.aj,c.io)=
   afI (.done (if (∀j,i<=j->j<afA c.ai.ce->jj c.ii.am (c.ai.ce[j]!).2)/\aW c.ii.am c.ci c.aa.bv (c.ai.ce.drop i) ds then 0 else 8)):=by
   intro h1 h2;rw [rc h1];exact aJ h2
  cases ds with
  |nil=>
   refine stop (fun h=>?_) ?_
   · rw [dr] at h
     obtain ⟨d,y8,h1,_⟩:=h.2.1 is;cases h1
   unfold cR
   simp only [e1,lw,au c.ai.ce i sJ,ar,hw,is,show ((0:Int) !=0)=afO from rfl,ol,ww];rfl
  |cons d0 ds=>
   have l0:((((d0::ds).length:Nat):Int)==0)=afO:=dR (by simp;omega)
   have g0:aI (d0::ds) 0=afI d0:=rfl
   have DG: ∀P:Prop,(P↔d0.1=(c.ai.ce[i]!).1/\(((bE c.ii.am (c.ai.ce[i]!).2 c.ci).1.1,(bE c.ii.am (c.ai.ce[i]!).2 c.ci).1.2,(c.ai.ce[i]!).1,d0.2):Ev)∈c.aa.bv)-> ¬P-> ¬((∀j,i<=j->j<afA c.ai.ce->jj c.ii.am (c.ai.ce[j]!).2)/\aW c.ii.am c.ci c.aa.bv (c.ai.ce.drop i) (d0::ds)):=by
    intro P hP hn h;rw [dr] at h;obtain ⟨d,y8,h1,h2,h3,_⟩:=h.2.1 is;injection h1 with h1 _;subst h1;exact hn (hP.2 ⟨h2,h3⟩)
   by_cases b1:d0.1=(c.ai.ce[i]!).1
   case neg=>
    refine stop (DG (d0.1=(c.ai.ce[i]!).1/\_) aeu (fun h=>b1 h.1)) ?_
    unfold cR;simp only [aA,e1,lw,au c.ai.ce i sJ,ar,hw,is,show ((0:Int) !=0)=afO from rfl,ol,ww,l0,g0,cC b1]
   have ea:=afk mS w2 (bE c.ii.am (c.ai.ce[i]!).2 c.ci).1 (c.ai.ce[i]!).1 d0.2
   by_cases b2:d0.2.1<0
   · refine stop (DG (d0.1=(c.ai.ce[i]!).1/\_) aeu (fun h=>by have:=(ea.2 h.2).1;omega)) ?_
     unfold cR;simp only [aA,e1,lw,au c.ai.ce i sJ,ar,hw,is,show ((0:Int) !=0)=afO from rfl,ol,ww,l0,g0,bo b1,aF b2]
   by_cases b3:200<=d0.2.1
   · refine stop (DG (d0.1=(c.ai.ce[i]!).1/\_) aeu (fun h=>by have:=(ea.2 h.2).2.1;omega)) ?_
     unfold cR;simp only [aA,e1,lw,au c.ai.ce i sJ,ar,hw,is,show ((0:Int) !=0)=afO from rfl,ol,ww,l0,g0,bo b1,aC b2,aF b3]
   have gw:=dG (l:=c.aa.aj) (i:=d0.2.1) (by omega) (by omega)
   by_cases b4:c.aa.aj[d0.2.1.toNat]!<0
   · refine stop (DG (d0.1=(c.ai.ce[i]!).1/\_) aeu (fun h=>by have:=(ea.2 h.2).2.2.1;omega)) ?_
     unfold cR;simp only [aA,e1,lw,au c.ai.ce i sJ,ar,hw,is,show ((0:Int) !=0)=afO from rfl,ol,ww,l0,g0,bo b1,aC b2,aC b3,gw,aF b4]
   have gh:=dG (l:=c.aa.bv) (i:=c.aa.aj[d0.2.1.toNat]!) (by omega) (VI mS (by omega) (by omega))
   have sl:fP (d0::ds) 1 ((((d0::ds).length:Nat):Int))=afI ds:=by
    unfold fP;rw [pp ⟨by omega,by simp;omega,by omega⟩]
    simp
   have evq: ∀(e:Ev) (p:Int×Int) (n:Int) (h:Int×Int),((e.1==p.1)&&((e.2.1==p.2)&&((e.2.2.1==n)&&((e.2.2.2.1==h.1)&&(e.2.2.2.2==h.2)))))=afX (e=(p.1,p.2,n,h)):=by
    intro e p n h;rw [aex,decide_eq_true_iff];simp only [af5,beq_iff_eq];constructor
    · rintro ⟨h1,h2,h3,h4,h5⟩
      exact NE h1 (NE h2 (NE h3 (NE h4 h5)))
    intro h;rw [h];exact ⟨rfl,rfl,rfl,rfl,rfl⟩
   have aqF:=evq c.aa.bv[(c.aa.aj[d0.2.1.toNat]!).toNat]! (bE c.ii.am (c.ai.ce[i]!).2 c.ci).1 (c.ai.ce[i]!).1 d0.2
   by_cases b5:c.aa.bv[(c.aa.aj[d0.2.1.toNat]!).toNat]! =((bE c.ii.am (c.ai.ce[i]!).2 c.ci).1.1,(bE c.ii.am (c.ai.ce[i]!).2 c.ci).1.2,(c.ai.ce[i]!).1,d0.2)
   case neg=>
    refine stop (DG (d0.1=(c.ai.ce[i]!).1/\_) aeu (fun h=>b5 (ea.2 h.2).2.2.2)) ?_
    unfold cR;simp only [aA,e1,lw,au c.ai.ce i sJ,ar,hw,is,show ((0:Int) !=0)=afO from rfl,ol,ww,l0,g0,bo b1,aC b2,aC b3,gw,aC b4,gh];rw [aqF,aC b5];rfl
   have y6:=ea.1 ⟨by omega,by omega,by omega,b5⟩
   rw [aZ (y:=(ds,c.ai.ce,((afA c.ai.ce):Int),((i+1:Nat):Int),c.ci.1,c.ci.2,c.ii.am,c.ai.aL,c.ai.ce,c.aa.af.aB,c.aa.af.be,c.aa.af.bi,c.aa.bv,c.aa.aj,c.io)) (by
    unfold cR;simp only [aA,e1,lw,au c.ai.ce i sJ,ar,hw,is,show ((0:Int) !=0)=afO from rfl,ol,ww,l0,g0,bo b1,aC b2,aC b3,gw,aC b4,gh,sl,sc];rw [aqF,aF b5]
    rfl),ih (i+1) ds (by omega) (by omega) (by simp at WB;omega)]
   have same:((∀j,i<=j->j<afA c.ai.ce->jj c.ii.am (c.ai.ce[j]!).2)/\aW c.ii.am c.ci c.aa.bv (c.ai.ce.drop i) (d0::ds))↔((∀j,i+1<=j->j<afA c.ai.ce->jj c.ii.am (c.ai.ce[j]!).2)/\aW c.ii.am c.ci c.aa.bv (c.ai.ce.drop (i+1)) ds):=by
    rw [dr,all];constructor
    · rintro ⟨⟨_,h1⟩,h2⟩
      obtain ⟨d,y8,k1,k2,k3,k4⟩:=h2.1 is;injection k1 with k1 k5;subst k5;exact ⟨h1,k4⟩
    rintro ⟨h1,h2⟩
    exact ⟨⟨hb,h1⟩,fun _=>⟨d0,ds,rfl,b1,y6,h2⟩,fun h=>by rw [is] at h;cases h⟩
   simp only [same]
theorem bn.iff {c:aP} (fit:qw c):bn c↔cE c.ci/\bC c.ii.am/\eN c.ai/\eK c.aa/\afA c.aa.aj=200/\afA c.aa.bv=afA c.io/\(∀i,i<afA c.ai.ce->jj c.ii.am (c.ai.ce[i]!).2)/\aW c.ii.am c.ci c.aa.bv c.ai.ce c.io:=
 ⟨fun h=>⟨h.qv,h.jS,h.uu,h.mS,h.JS,h.hd,h.known,h.DG⟩,fun ⟨h1,h2,h3,h4,h5,h6,h7,h8⟩=>⟨h1,fit.hU,h2,h3,h4,h5,h6,h7,h8⟩⟩
theorem bn.fit {c:aP} (ok:bn c):qw c:=⟨ok.hU,ok.mS.fit,by have:=ok.hd;have:=ok.mS.bd;omega⟩
theorem MA {c:aP} {n0 n1 n2 n3:Int}:
 ax eU (4,0,c.ci.1,c.ci.2,c.ii.am,c.ai.aL,c.ai.ce,c.aa.af.aB,c.aa.af.be,c.aa.af.bi,c.aa.bv,c.aa.aj,c.io,[n0,n1,n2,n3])=
  if n0=0/\n1=0/\n2=0/\n3=0 then ax eU (4,4,c.ci.1,c.ci.2,c.ii.am,c.ai.aL,c.ai.ce,c.aa.af.aB,c.aa.af.be,c.aa.af.bi,c.aa.bv,c.aa.aj,c.io,[n0,n1,n2,n3]) else afI 8:=by
 have st: ∀(i:Nat) (n:Int),i<4->aI [n0,n1,n2,n3] (i:Int)=afI n->ax eU (4,(i:Int),c.ci.1,c.ci.2,c.ii.am,c.ai.aL,c.ai.ce,c.aa.af.aB,c.aa.af.be,c.aa.af.bi,c.aa.bv,c.aa.aj,c.io,[n0,n1,n2,n3])=
  if n=0 then ax eU (4,((i+1:Nat):Int),c.ci.1,c.ci.2,c.ii.am,c.ai.aL,c.ai.ce,c.aa.af.aB,c.aa.af.be,c.aa.af.bi,c.aa.bv,c.aa.aj,c.io,[n0,n1,n2,n3]) else afI 8:=by
  intro i n hi hg;have e1:afX ((i:Int)<4)=afK:=aF (by omega)
  by_cases h:n=0
  · rw [pp h]
    refine aZ ?_;unfold eU;simp only [e1,lw,hg,ar,bo h,ol,aT (show i<1000000000 by omega)]
  rw [rc h]
  refine aJ ?_;unfold eU;simp only [e1,lw,hg,ar,cC h]
 have s0:=st 0 n0 (by omega) rfl
 have s1:=st 1 n1 (by omega) rfl
 have s2:=st 2 n2 (by omega) rfl
 have s3:=st 3 n3 (by omega) rfl
 have c0:((0:Nat):Int)=0:=rfl;have c4:((3+1:Nat):Int)=4:=rfl;rw [c0] at s0;rw [c4] at s3;rw [s0]
 by_cases h0:n0=0
 · rw [pp h0,show ((0+1:Nat):Int)=((1:Nat):Int) from rfl,s1]
   by_cases h1:n1=0
   · rw [pp h1,show ((1+1:Nat):Int)=((2:Nat):Int) from rfl,s2]
     by_cases h2:n2=0
     · rw [pp h2,show ((2+1:Nat):Int)=((3:Nat):Int) from rfl,s3]
       by_cases h3:n3=0
       · rw [pp h3,pp ⟨h0,h1,h2,h3⟩]
       rw [rc h3,rc (fun h=>h3 h.2.2.2)]
     rw [rc h2,rc (fun h=>h2 h.2.2.1)]
   rw [rc h1,rc (fun h=>h1 h.2.1)]
 rw [rc h0,rc (fun h=>h0 h.1)]
theorem lL {c:aP} (fit:qw c):gj c=afI (if bn c then 0 else 8):=by
 unfold gj;rw [fI fit.hU,gm,ui,kF _ fit.ag];simp only [ar];have h4:Int.ofNat [if cE c.ci then (0:Int) else 8,sC c.ii.am,if eN c.ai then (0:Int) else 8,if eK c.aa then (0:Int) else 8].length=4:=rfl
 rw [h4,MA];have z: ∀(p:Prop) [Decidable p],(if p then (0:Int) else 8)=0↔p:=fun p _=>by by_cases h:p<;>simp [h]
 simp only [z,fo];have f1:=bn.iff fit
 by_cases ok:cE c.ci/\bC c.ii.am/\eN c.ai/\eK c.aa
 case neg=>rw [rc ok,rc (c:=bn c) (fun h=>ok ⟨h.qv,h.jS,h.uu,h.mS⟩)]
 obtain ⟨qv,jS,uu,mS⟩:=ok;rw [pp ⟨qv,jS,uu,mS⟩]
 by_cases w2:(afA c.aa.aj)=200
 case neg=>
  rw [rc (c:=bn c) (fun h=>w2 h.JS)]
  refine aJ ?_;unfold eU;simp only [aA,aC (show¬(4:Int)<4 by omega),ol,cC (show¬((afA c.aa.aj):Int)=200 by omega),lw]
 by_cases hd:(afA c.aa.bv)=afA c.io
 case neg=>
  rw [rc (c:=bn c) (fun h=>hd h.hd)]
  refine aJ ?_;unfold eU;simp only [aA,aC (show¬(4:Int)<4 by omega),ol,bo (show ((afA c.aa.aj):Int)=200 by omega),cC (show¬((afA c.aa.bv):Int)=((afA c.io):Int) by omega),lw]
 have run:=Mz qv fit.hU jS uu mS w2 (afA c.ai.ce) 0 c.io (by omega) (by omega) fit.du
 rw [aeB] at run;have same:((∀j,0<=j->j<afA c.ai.ce->jj c.ii.am (c.ai.ce[j]!).2)/\aW c.ii.am c.ci c.aa.bv c.ai.ce c.io)↔bn c:=by
  rw [f1];constructor
  · rintro ⟨h1,h2⟩;exact ⟨qv,jS,uu,mS,w2,hd,fun i hi=>h1 i (by omega) hi,h2⟩
  rintro ⟨_,_,_,_,_,_,h1,h2⟩;exact ⟨fun j _ hj=>h1 j hj,h2⟩
 simp only [same] at run;refine aJ ?_;unfold eU;simp only [aA,aC (show¬(4:Int)<4 by omega),ol,bo (show ((afA c.aa.aj):Int)=200 by omega),bo (show ((afA c.aa.bv):Int)=((afA c.io):Int) by omega)]
 exact run
theorem ad1 {a:aM} (ok:eK a) (h:Int×Int):sy a h=afI (if tD a.af h then (a.bv[(a.aj[h.1.toNat]!).toNat]!,0) else ((0,0,0,0,0),6)):=by
 unfold sy;rw [yb a ok.fit,pp ok,QN ok.so];simp only [ar,show ((0:Int) !=0)=afO from rfl,ol]
 by_cases lv:tD a.af h
 · obtain ⟨i,hi,hw,hh⟩:=ok.live lv
   have:=lv.1;have:=lv.2.1;have:=ok.wl
   rw [aF lv,pp lv,dG (l:=a.aj) lv.1 (by omega),hw]
   simp only [ww,ol,ar,au a.bv i hi,AC]
 rw [aC lv,rc lv];rfl
theorem MB {c:aP} (hU:oM c.ci) (jS:bC c.ii.am) (uu:eN c.ai) (mS:eK c.aa) (w2:(afA c.aa.aj)=200) (hdu:(afA c.io)<=1000000)
 (kn: ∀i,i<afA c.ai.ce->jj c.ii.am (c.ai.ce[i]!).2):
 ∀(d i k:Nat),afA c.ai.ce-i<=d->i<=afA c.ai.ce->k<=afA c.io->
  ax dA ((k:Int),(i:Int),c.ci.1,c.ci.2,c.ii.am,c.ai.aL,c.ai.ce,c.aa.af.aB,c.aa.af.be,c.aa.af.bi,c.aa.bv,c.aa.aj,c.io)=
   afI (if aW c.ii.am c.ci c.aa.bv (c.ai.ce.drop i) (c.io.drop k) then 0 else 8):=by
 have hl:=uu.len;have wl:=mS.wl
 have fin: ∀k:Nat,k<=afA c.io->ax dA ((k:Int),((afA c.ai.ce):Int),c.ci.1,c.ci.2,c.ii.am,c.ai.aL,c.ai.ce,c.aa.af.aB,c.aa.af.be,c.aa.af.bi,c.aa.bv,c.aa.aj,c.io)=afI (if aW c.ii.am c.ci c.aa.bv (c.ai.ce.drop (afA c.ai.ce)) (c.io.drop k) then 0 else 8):=by
  intro k hk;rw [adc];refine aJ ?_;unfold dA;have e1:afX (((afA c.ai.ce):Int)<((afA c.ai.ce):Int))=afO:=aC (by omega)
  simp only [aA,e1,ol]
  have:aW c.ii.am c.ci c.aa.bv [] (c.io.drop k)↔k=(afA c.io):=by
   show c.io.drop k=[]↔_;rw [ae0];omega
  by_cases h:k=afA c.io
  · rw [pp (this.2 h),bo (by omega)];rfl
  rw [rc (fun x=>h (this.1 x)),cC (by omega)];rfl
 intro d
 induction d with
 |zero=>
  intro i k hd hi hk
  have:i=(afA c.ai.ce):=by omega
  subst this;exact fin k hk
 |succ d ih=>
  intro i k hd hi hk
  by_cases he:i=afA c.ai.ce
  · subst he;exact fin k hk
  have sJ:i<(afA c.ai.ce):=by omega
  have e1:afX ((i:Int)<((afA c.ai.ce):Int))=afK:=aF (by omega)
  have hw:=uq jS (x:=(c.ai.ce[i]!).2) (t:=(c.ci.1,c.ci.2)) hU (kn i sJ);have dr:=rL sJ;have sc:=aT (show i<1000000000 by omega)
  have sk:=aT (show k<1000000000 by omega)
  by_cases is:(bE c.ii.am (c.ai.ce[i]!).2 c.ci).2=afK
  case neg=>
   have is':(bE c.ii.am (c.ai.ce[i]!).2 c.ci).2=afO:=by simpa using is
   rw [aZ (y:=((k:Int),((i+1:Nat):Int),c.ci.1,c.ci.2,c.ii.am,c.ai.aL,c.ai.ce,c.aa.af.aB,c.aa.af.be,c.aa.af.bi,c.aa.bv,c.aa.aj,c.io)) (by
    unfold dA;simp only [aA,e1,lw,au c.ai.ce i sJ,ar,hw,sc,is',UV]),ih (i+1) k (by omega) (by omega) hk]
   have same:aW c.ii.am c.ci c.aa.bv (c.ai.ce.drop i) (c.io.drop k)↔aW c.ii.am c.ci c.aa.bv (c.ai.ce.drop (i+1)) (c.io.drop k):=by
    rw [dr];exact ⟨fun h=>h.2 is',fun h=>⟨fun h'=>absurd h' is,fun _=>h⟩⟩
   simp only [same]
  have stop:(¬aW c.ii.am c.ci c.aa.bv (c.ai.ce.drop i) (c.io.drop k))->dA ((k:Int),(i:Int),c.ci.1,c.ci.2,c.ii.am,c.ai.aL,c.ai.ce,c.aa.af.aB,c.aa.af.be,c.aa.af.bi,c.aa.bv,c.aa.aj,c.io)=afI (.done 8)->
   ax dA ((k:Int),(i:Int),c.ci.1,c.ci.2,c.ii.am,c.ai.aL,c.ai.ce,c.aa.af.aB,c.aa.af.be,c.aa.af.bi,c.aa.bv,c.aa.aj,c.io)=afI (if aW c.ii.am c.ci c.aa.bv (c.ai.ce.drop i) (c.io.drop k) then 0 else 8):=by
   intro h1 h2;rw [rc h1];exact aJ h2
  by_cases SL:k=afA c.io
  · refine stop (fun h=>?_) ?_
    · rw [dr] at h
      obtain ⟨d,y8,h1,_⟩:=h.1 is;rw [SL,adc] at h1;cases h1
    unfold dA
    simp only [aA,e1,lw,au c.ai.ce i sJ,ar,hw,is,ww,ol,aF (show ((afA c.io):Int)<=(k:Int) by omega)]
  have KW:k<(afA c.io):=by omega
  have dk:=rL KW;have e2:afX (((afA c.io):Int)<=(k:Int))=afO:=aC (by omega)
  have DG: ¬((c.io[k]!).1=(c.ai.ce[i]!).1/\(((bE c.ii.am (c.ai.ce[i]!).2 c.ci).1.1,(bE c.ii.am (c.ai.ce[i]!).2 c.ci).1.2,(c.ai.ce[i]!).1,(c.io[k]!).2):Ev)∈c.aa.bv)-> ¬aW c.ii.am c.ci c.aa.bv (c.ai.ce.drop i) (c.io.drop k):=by
   intro hn h;rw [dr,dk] at h;obtain ⟨d,y8,h1,h2,h3,_⟩:=h.1 is;injection h1 with h1 _;subst h1;exact hn ⟨h2,h3⟩
  by_cases b1:(c.io[k]!).1=(c.ai.ce[i]!).1
  case neg=>
   refine stop (DG (fun h=>b1 h.1)) ?_
   unfold dA;simp only [aA,e1,lw,au c.ai.ce i sJ,ar,hw,is,ww,ol,e2,au c.io k KW,cC b1]
  have fi:=ad1 mS (c.io[k]!).2;have ea:=afk mS w2 (bE c.ii.am (c.ai.ce[i]!).2 c.ci).1 (c.ai.ce[i]!).1 (c.io[k]!).2;have fi':sy (aM.mk (bc.mk c.aa.af.aB c.aa.af.be c.aa.af.bi) c.aa.bv c.aa.aj) (c.io[k]!).2=_:=fi
  by_cases lv:tD c.aa.af (c.io[k]!).2
  case neg=>
   rw [rc lv] at fi';refine stop (DG (fun h=>lv ?_)) ?_
   · obtain ⟨w,Wl,gK⟩:=aS.1 h.2
     have:=(mS.handle Wl).1
     rwa [gK] at this
   unfold dA
   simp only [aA,e1,lw,au c.ai.ce i sJ,ar,hw,is,ww,ol,e2,au c.io k KW,bo b1,fi',show ((6:Int) !=0)=afK from rfl]
  rw [pp lv] at fi';obtain ⟨w,hw1,WC,hw3⟩:=mS.live lv;rw [WC,AC] at fi';have q1:(0<=(c.io[k]!).2.1/\(c.io[k]!).2.1<200/\0<=c.aa.aj[(c.io[k]!).2.1.toNat]!):=⟨lv.1,by have:=lv.2.1;omega,by rw [WC];omega⟩
  by_cases b2:(c.aa.bv[w]!).2.2.1=(c.ai.ce[i]!).1
  case neg=>
   refine stop (DG (fun h=>b2 ?_)) ?_
   · have:=(ea.2 h.2).2.2.2
     rw [WC,AC] at this;rw [this]
   unfold dA
   simp only [aA,e1,lw,au c.ai.ce i sJ,ar,hw,is,ww,ol,e2,au c.io k KW,bo b1,fi',show ((0:Int) !=0)=afO from rfl,cC b2]
  have teq:((c.aa.bv[w]!).1==(bE c.ii.am (c.ai.ce[i]!).2 c.ci).1.1&&(c.aa.bv[w]!).2.1==(bE c.ii.am (c.ai.ce[i]!).2 c.ci).1.2)=afX (((c.aa.bv[w]!).1,(c.aa.bv[w]!).2.1)=(bE c.ii.am (c.ai.ce[i]!).2 c.ci).1):=by
   rw [aex,decide_eq_true_iff];simp only [af5,beq_iff_eq];constructor
   · rintro ⟨h1,h2⟩;exact NE h1 h2
   intro h;rw [<- h];exact ⟨rfl,rfl⟩
  by_cases b3:((c.aa.bv[w]!).1,(c.aa.bv[w]!).2.1)=(bE c.ii.am (c.ai.ce[i]!).2 c.ci).1
  case neg=>
   refine stop (DG (fun h=>b3 ?_)) ?_
   · have:=(ea.2 h.2).2.2.2
     rw [WC,AC] at this;rw [this]
   unfold dA
   simp only [aA,e1,lw,au c.ai.ce i sJ,ar,hw,is,ww,ol,e2,au c.io k KW,bo b1,fi',show ((0:Int) !=0)=afO from rfl,bo b2];rw [teq,aC b3];rfl
  have y6:=ea.1 ⟨q1.1,q1.2.1,q1.2.2,by
   rw [WC,AC];have t1:=congrArg afm b3;have t2:=congrArg afn b3;exact NE t1 (NE t2 (NE b2 hw3))⟩
  rw [aZ (y:=(((k+1:Nat):Int),((i+1:Nat):Int),c.ci.1,c.ci.2,c.ii.am,c.ai.aL,c.ai.ce,c.aa.af.aB,c.aa.af.be,c.aa.af.bi,c.aa.bv,c.aa.aj,c.io)) (by
   unfold dA;simp only [aA,e1,lw,au c.ai.ce i sJ,ar,hw,is,ww,ol,e2,au c.io k KW,bo b1,fi',show ((0:Int) !=0)=afO from rfl,bo b2,sc,sk];rw [teq,aF b3]
   rfl),ih (i+1) (k+1) (by omega) (by omega) (by omega)]
  have same:aW c.ii.am c.ci c.aa.bv (c.ai.ce.drop i) (c.io.drop k)↔aW c.ii.am c.ci c.aa.bv (c.ai.ce.drop (i+1)) (c.io.drop (k+1)):=by
   rw [dr,dk];constructor
   · intro h2
     obtain ⟨d,y8,k1,k2,k3,k4⟩:=h2.1 is;injection k1 with k1 k5;subst k5;exact k4
   intro h2
   exact ⟨fun _=>⟨_,_,rfl,b1,y6,h2⟩,fun h=>by rw [is] at h;cases h⟩
  simp only [same]
theorem Gd {c:aP} (fit:qw c):tp c=afI (if bn c then 0 else 8):=by
 unfold tp;rw [x3 fit.hU,oA,yf,yb _ fit.ag];simp only [ar]
 by_cases qv:cE c.ci
 case neg=>rw [rc qv,rc (c:=bn c) (fun h=>qv h.qv)];rfl
 rw [pp qv]
 by_cases jS:bC c.ii.am
 case neg=>rw [cC (fun h=>jS (fo.1 h)),rc (c:=bn c) (fun h=>jS h.jS)];rfl
 rw [bo (fo.2 jS)]
 by_cases uu:eN c.ai
 case neg=>rw [rc uu,rc (c:=bn c) (fun h=>uu h.uu)];rfl
 rw [pp uu];have kn:=VH c.ai jS uu.len;simp only [show ((0:Int) !=0)=afO from rfl,ol,kn,ar]
 by_cases known: ∀i,i<afA c.ai.ce->jj c.ii.am (c.ai.ce[i]!).2
 case neg=>rw [aC known,rc (c:=bn c) (fun h=>known h.known)];rfl
 rw [aF known]
 by_cases mS:eK c.aa
 case neg=>rw [rc mS,rc (c:=bn c) (fun h=>mS h.mS)];rfl
 rw [pp mS];simp only [aA,show ((0:Int) !=0)=afO from rfl,ol,ww]
 by_cases w2:(afA c.aa.aj)=200
 case neg=>rw [cC (by omega),rc (c:=bn c) (fun h=>w2 h.JS)];rfl
 rw [bo (by omega)]
 by_cases hd:(afA c.aa.bv)=afA c.io
 case neg=>rw [cC (by omega),rc (c:=bn c) (fun h=>hd h.hd)];rfl
 rw [bo (by omega)]
 have run:=MB fit.hU jS uu mS w2 fit.du known (afA c.ai.ce) 0 0 (by omega) (by omega) (by omega)
 rw [aeB,aeB] at run;have same:aW c.ii.am c.ci c.aa.bv c.ai.ce c.io↔bn c:=by
  rw [bn.iff fit];exact ⟨fun h=>⟨qv,jS,uu,mS,w2,hd,known,h⟩,fun h=>h.2.2.2.2.2.2.2⟩
 simp only [same] at run;simp only [ol];exact run
section
variable {l : List Pt} {t : Int × Int}
theorem aW.ig {H:List Ev} {x:qN} {cs ds:List qN} (h:(bE l x.2 t).2=afK):aW l t H (x::cs) ds↔ ∃d y8,ds=d::y8/\d.1=x.1/\(((bE l x.2 t).1.1,(bE l x.2 t).1.2,x.1,d.2):Ev)∈H/\aW l t H cs y8:=
 ⟨fun k=>k.1 h,fun k=>⟨fun _=>k,fun k'=>(by rw [h] at k';cases k')⟩⟩
theorem aW.fV {H:List Ev} {x:qN} {cs ds:List qN} (h:(bE l x.2 t).2=afO):aW l t H (x::cs) ds↔aW l t H cs ds:=
 ⟨fun k=>k.2 h,fun k=>⟨fun k'=>(by rw [h] at k';cases k'),fun _=>k⟩⟩
theorem aW.mono {H H':List Ev}: ∀{cs ds:List qN},(∀x∈cs,∀e:Ev,e.num=x.1->e∈H->e∈H')->aW l t H cs ds->aW l t H' cs ds
 | [],_,_,h=>h
 |x::cs,ds,hm,h=>by
  have B': ∀y∈cs,∀e:Ev,e.num=y.1->e∈H->e∈H':=fun y hy=>hm y (by simp [hy])
  cases hx:(bE l x.2 t).2 with
  |true=>
   rw [aW.ig hx] at h ⊢;obtain ⟨d,y8,h1,h2,h3,h4⟩:=h;exact ⟨d,y8,h1,h2,hm x (by simp) _ rfl h3,aW.mono B' h4⟩
  |false=>
   rw [aW.fV hx] at h ⊢;exact aW.mono B' h
theorem aW.io {H:List Ev}: ∀{cs ds:List qN},aW l t H cs ds-> ∀d∈ds,∃x∈cs,d.1=x.1/\(bE l x.2 t).2=afK/\(((bE l x.2 t).1.1,(bE l x.2 t).1.2,x.1,d.2):Ev)∈H
 | [],ds,h,d,hd=>by
  have:ds=[]:=h
  subst this;cases hd
 |x::cs,ds,h,d,hd=>by
  cases hx:(bE l x.2 t).2 with
  |true=>
   rw [aW.ig hx] at h;obtain ⟨e,y8,h1,h2,h3,h4⟩:=h;subst h1;rcases aeE.1 hd with rfl|hd
   · exact ⟨x,by simp,h2,hx,h3⟩
   obtain ⟨y,hy,k⟩:=aW.io h4 d hd
   exact ⟨y,by simp [hy],k⟩
  |false=>
   rw [aW.fV hx] at h;obtain ⟨y,hy,k⟩:=aW.io h d hd;exact ⟨y,by simp [hy],k⟩
theorem aW.has {H:List Ev}: ∀{cs ds:List qN},aW l t H cs ds-> ∀x∈cs,(bE l x.2 t).2=afK-> ∃d∈ds,d.1=x.1/\(((bE l x.2 t).1.1,(bE l x.2 t).1.2,x.1,d.2):Ev)∈H
 | [],_,_,x,hx,_=>by cases hx
 |y::cs,ds,h,x,hx,hf=>by
  cases hy:(bE l y.2 t).2 with
  |true=>
   rw [aW.ig hy] at h;obtain ⟨e,y8,h1,h2,h3,h4⟩:=h;subst h1;rcases aeE.1 hx with rfl|hx
   · exact ⟨e,by simp,h2,h3⟩
   obtain ⟨d,hd,k⟩:=aW.has h4 x hx hf
   exact ⟨d,by simp [hd],k⟩
  |false=>
   rw [aW.fV hy] at h;rcases aeE.1 hx with rfl|hx
   · rw [hf] at hy;cases hy
   exact aW.has h x hx hf
def Up (cs:List qN):Prop:=cs.Pairwise fun x y=>x.1<y.1
theorem rB {cs:List qN}:Up cs↔ ∀i j,i<j->j<afA cs->(cs[i]!).1<(cs[j]!).1:=by
 unfold Up;rw [List.pairwise_iff_getElem];constructor
 · intro h i j k8 hj
   rw [getElem!_pos cs i (by omega),getElem!_pos cs j hj]
   exact h i j (by omega) hj k8
 intro h i j hi hj k8
 have:=h i j k8 hj
 rwa [getElem!_pos cs i hi,getElem!_pos cs j hj] at this
theorem aW.up {H:List Ev}: ∀{cs ds:List qN},aW l t H cs ds->Up cs->Up ds
 | [],ds,h,_=>by
  have:ds=[]:=h
  subst this;exact List.Pairwise.nil
 |x::cs,ds,h,hu=>by
  have BP:=aeJ.1 hu;cases hx:(bE l x.2 t).2 with
  |true=>
   rw [aW.ig hx] at h;obtain ⟨e,y8,h1,h2,h3,h4⟩:=h;subst h1;refine aeJ.2 ⟨fun d hd=>?_,aW.up h4 BP.2⟩
   obtain ⟨y,hy,k,_⟩:=aW.io h4 d hd
   have:=BP.1 y hy
   omega
  |false=>
   rw [aW.fV hx] at h;exact aW.up h BP.2
theorem aW.snoc {H:List Ev}: ∀{cs ds:List qN} {x:qN},aW l t H cs ds->((bE l x.2 t).2=afO->aW l t H (cs++[x]) ds)/\
 (∀d:qN,(bE l x.2 t).2=afK->d.1=x.1->(((bE l x.2 t).1.1,(bE l x.2 t).1.2,x.1,d.2):Ev)∈H->aW l t H (cs++[x]) (ds++[d]))
 | [],ds,x,h=>by
  have:ds=[]:=h
  subst this;refine ⟨fun hx=>(aW.fV hx).2 rfl,fun d hx h1 h2=>(aW.ig hx).2 ⟨d,[],rfl,h1,h2,rfl⟩⟩
 |y::cs,ds,x,h=>by
  cases hy:(bE l y.2 t).2 with
  |true=>
   rw [aW.ig hy] at h;obtain ⟨e,y8,h1,h2,h3,h4⟩:=h;subst h1;have ih:=aW.snoc (x:=x) h4;refine ⟨fun hx=>(aW.ig hy).2 ⟨e,y8,rfl,h2,h3,ih.1 hx⟩,fun d hx k1 k2=>(aW.ig hy).2 ⟨e,y8++[d],rfl,h2,h3,ih.2 d hx k1 k2⟩⟩
  |false=>
   rw [aW.fV hy] at h;have ih:=aW.snoc (x:=x) h;exact ⟨fun hx=>(aW.fV hy).2 (ih.1 hx),fun d hx k1 k2=>(aW.fV hy).2 (ih.2 d hx k1 k2)⟩
theorem aW.erase {H:List Ev}: ∀{cs ds:List qN} {i:Nat},aW l t H cs ds->i<afA cs->((bE l (cs[i]!).2 t).2=afO->aW l t H (cs.eraseIdx i) ds)/\
 ((bE l (cs[i]!).2 t).2=afK-> ∃k,k<afA ds/\(ds[k]!).1=(cs[i]!).1/\(((bE l (cs[i]!).2 t).1.1,(bE l (cs[i]!).2 t).1.2,(cs[i]!).1,(ds[k]!).2):Ev)∈H/\aW l t H (cs.eraseIdx i) (ds.eraseIdx k))
 | [],_,i,_,hi=>by cases hi
 |y::cs,ds,0,h,_=>by
  show ((bE l y.2 t).2=afO->aW l t H cs ds)/\((bE l y.2 t).2=afK-> ∃k,k<afA ds/\(ds[k]!).1=y.1/\(((bE l y.2 t).1.1,(bE l y.2 t).1.2,y.1,(ds[k]!).2):Ev)∈H/\aW l t H cs (ds.eraseIdx k));refine ⟨fun hy=>(aW.fV hy).1 h,fun hy=>?_⟩
  obtain ⟨e,y8,h1,h2,h3,h4⟩:=(aW.ig hy).1 h;subst h1;exact ⟨0,by simp,h2,h3,h4⟩
 |y::cs,ds,i+1,h,hi=>by
  have sJ:i<(afA cs):=by simpa using hi
  show ((bE l (cs[i]!).2 t).2=afO->aW l t H (y::cs.eraseIdx i) ds)/\((bE l (cs[i]!).2 t).2=afK-> ∃k,k<afA ds/\(ds[k]!).1=(cs[i]!).1/\(((bE l (cs[i]!).2 t).1.1,(bE l (cs[i]!).2 t).1.2,(cs[i]!).1,(ds[k]!).2):Ev)∈H/\aW l t H (y::cs.eraseIdx i) (ds.eraseIdx k));cases hy:(bE l y.2 t).2 with
  |true=>
   obtain ⟨e,y8,h1,h2,h3,h4⟩:=(aW.ig hy).1 h;subst h1;have ih:=aW.erase (i:=i) h4 sJ;refine ⟨fun hx=>(aW.ig hy).2 ⟨e,y8,rfl,h2,h3,ih.1 hx⟩,fun hx=>?_⟩
   obtain ⟨k,k1,k2,k3,k4⟩:=ih.2 hx;exact ⟨k+1,by simp;omega,k2,k3,(aW.ig hy).2 ⟨e,y8.eraseIdx k,rfl,h2,h3,k4⟩⟩
  |false=>
   have h:=(aW.fV hy).1 h;have ih:=aW.erase (i:=i) h sJ;refine ⟨fun hx=>(aW.fV hy).2 (ih.1 hx),fun hx=>?_⟩
   obtain ⟨k,k1,k2,k3,k4⟩:=ih.2 hx;exact ⟨k,k1,k2,k3,(aW.fV hy).2 k4⟩
end
theorem Dn {H:List Ev} {ns:List Int} (hd:ns.Nodup) (hl:(afA H)<=afA ns) (he: ∀n∈ns,∃e∈H,Ev.num e=n): ∀e∈H,Ev.num e∈ns:=by
 have pos: ∀n,n∈ns-> ∃w,w<afA H/\Ev.num H[w]! =n:=fun n hn=>by
  obtain ⟨e,he,h2⟩:=he n hn;obtain ⟨w,hw,rfl⟩:=aS.1 he;exact ⟨w,hw,h2⟩
 let f:Int->Nat:=fun n=>if h: ∃w,w<afA H/\Ev.num H[w]! =n then h.choose else 0
 have hf: ∀n∈ns,f n<afA H/\Ev.num H[f n]! =n:=fun n hn=>by
  have h:=pos n hn;show (if h: ∃w,w<afA H/\Ev.num H[w]! =n then h.choose else 0)<_/\Ev.num H[(if h: ∃w,w<afA H/\Ev.num H[w]! =n then h.choose else 0)]! =n
  rw [dif_pos h];exact h.choose_spec
 have full:=Di (n:=afA H) (l:=ns.map f) (yX hd fun x hx y hy h=>by
  have h1:=(hf x hx).2;have h2:=(hf y hy).2;rw [h] at h1
  omega) (fun x hx=>by
  obtain ⟨n,hn,rfl⟩:=PP.1 hx;exact (hf n hn).1) (by rw [afb];exact hl)
 intro e hm;obtain ⟨w,hw,rfl⟩:=aS.1 hm;obtain ⟨n,hn,h⟩:=PP.1 (full w hw);rw [<- h,(hf n hn).2];exact hn
theorem MC {cs:List qN} (h:Up cs):(cs.map fun x=>x.1).Nodup:=by
 refine yX ?_ ?_
 · unfold Up at h
   exact h.imp fun Rb he=>by rw [he] at Rb;omega
 intro x hx y hy he
 obtain ⟨i,hi,rfl⟩:=aS.1 hx;obtain ⟨j,hj,rfl⟩:=aS.1 hy;rcases ae5 i j with h1|h1|h1
 · have:=rB.1 h i j h1 hj;omega
 · rw [h1]
 have:=rB.1 h j i h1 hi;omega
theorem bn.wD {c:aP} (ok:bn c):Up c.ai.ce:=rB.2 ok.uu.up
theorem bn.Ge {c:aP} (ok:bn c):Up c.io:=ok.DG.up ok.wD
theorem bn.Au {c:aP} (ok:bn c): ∀e∈c.aa.bv,∃d∈c.io,d.1=Ev.num e:=by
 have:=Dn (H:=c.aa.bv) (MC ok.Ge) (by rw [afb,ok.hd];exact Do _) (fun n hn=>by
  obtain ⟨d,hd,rfl⟩:=PP.1 hn;obtain ⟨x,hx,h1,h2,h3⟩:=ok.DG.io d hd;exact ⟨_,h3,h1.symm⟩)
 intro e he;obtain ⟨d,hd,h⟩:=PP.1 (this e he);exact ⟨d,hd,h⟩
end Go.Proofs.YtbgoiokedpjgbaaGreat
