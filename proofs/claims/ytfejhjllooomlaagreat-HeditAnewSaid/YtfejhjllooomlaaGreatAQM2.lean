/- Plain laws (2). -/
import Derived.Test.YtfejhjllooomlaaGreatAQM1
open Classical renaming not_not->lw,not_forall->ww,not_imp->Do
open List renaming length_set->rc,length_take->AC,take_of_length_le->EQ,take_append_of_le_length->If,mem_map->M2,append_assoc->PP,drop_length->aa4,drop_eq_nil_iff->ab0,length_append->ab1,set_eq_of_length_le->abI,length_drop->abJ,drop_eq_nil_of_le->abM,drop_zero->abR,filter_eq_self->abS,mem_cons->abU,getElem?_take->abV,filter_append->abX,pairwise_cons->abZ,getElem?_set->ac5,length_cons->ac9,isEmpty_iff->acg,length_nil->acl,append_nil->acr,length_map->acx,replicate->acy,take_take->acB,set_comm->acJ,length->acV
open Bool renaming not_true->ut,not_false->NE,eq_iff_iff->abP,and_eq_true->ack,and_self->acK,true->adc,false->adk
open Int renaming toNat_natCast->v4,lt_irrefl->abT
open Nat renaming le_refl->v6,ble_eq_true_of_le->UV,lt_trichotomy->abH,sub_self->abL,eq_of_beq_eq_true->abQ,le_trans->acO,beq->acP,min_self->acQ
open Prod renaming ext->IR,fst->acD,snd->acH
open Iff renaming rfl->abK
open Option renaming some->acX
open Decidable renaming decide->ado
namespace Go.Proofs.YtfejhjllooomlaaGreat
open Go.Vm Classical
theorem Jk (a:aI) (fit:yJ a) (so:eX a.af) (wl:(acV a.aj)=acV a.af.ay):
 aB lq (a.aj,((acV a.aj):Int),0,a.af.ay,a.af.be,a.af.bi,a.bv,a.aj)=acX (if (∀i,i<acV a.af.ay->Gb a i)/\(∀k,k<acV a.bv->G1 a.bv k) then 0 else 8):=by
 have hu:=so.ul;have hn:=so.n2;have hh:=fit.hp;have yG:=Jj a.bv a.af.ay a.af.bi a.aj a.af.be fit.hp fit.Nx;have key:=db (body:=lq) (fun i=>(a.aj,((acV a.aj):Int),(i:Int),a.af.ay,a.af.be,a.af.bi,a.bv,a.aj)) (acV a.aj) (fun i=> ¬Gb a i) (r:=8) (e:=if (∀k,k<acV a.bv->G1 a.bv k) then 0 else 8) (fun i hi=>by
  have e1:ado ((i:Int)<((acV a.aj):Int))=adc:=aJ (by omega);unfold lq;simp only [az,e1,kw,ar a.aj i hi,ar a.af.be i (by omega),ar a.af.ay i (by omega),aq,aY (show i<1000000000 by omega)];unfold Gb;generalize a.aj[i]! =w at*;cases hb:a.af.be[i]! with
  |false=>
   simp only [NE,kw]
   by_cases hw:w= -1
   · rw [bo hw]
     exact ⟨fun h=>absurd ⟨fun h=>(by cases h),fun _=>hw⟩ h,fun _=>rfl⟩
   rw [dL hw]
   exact ⟨fun _=>rfl,fun h=>absurd ((lw.1 h).2 trivial) hw⟩
  |true=>
   simp only [ut,lc]
   by_cases b1:w<0
   · rw [aJ b1]
     exact ⟨fun _=>rfl,fun h=>absurd ((lw.1 h).1 trivial).1 (by omega)⟩
   by_cases b2:((acV a.bv):Int)<=w
   · rw [aF b1,aJ b2]
     exact ⟨fun _=>rfl,fun h=>absurd ((lw.1 h).1 trivial).2.1 (by omega)⟩
   rw [aF b1,aF b2];simp only [lc,dO (l:=a.bv) (i:=w) (by omega) (by omega),aq]
   by_cases b3:(a.bv[w.toNat]!).2.2.2.1=i
   · by_cases b4:(a.bv[w.toNat]!).2.2.2.2=a.af.ay[i]!
     · rw [cV b3,cV b4]
       exact ⟨fun h=>absurd ⟨fun _=>⟨by omega,by omega,b3,b4⟩,fun h=>(by cases h)⟩ h,fun _=>rfl⟩
     rw [cV b3,dM b4]
     exact ⟨fun _=>rfl,fun h=>absurd ((lw.1 h).1 trivial).2.2.2 b4⟩
   rw [dM b3]
   exact ⟨fun _=>rfl,fun h=>absurd ((lw.1 h).1 trivial).2.2.1 b3⟩) (by
  unfold lq;have:ado (((acV a.aj):Int)<((acV a.aj):Int))=adk:=aF (by omega);simp only [az,this,lc]
  by_cases hx: ∀k,k<acV a.bv->G1 a.bv k
  · rw [lm hx];exact yG.1 hx
  rw [ls hx];exact yG.2 hx)
 by_cases hw: ∀i,i<acV a.af.ay->Gb a i
 · refine (key.2 fun i hi=>lw.2 (hw i (by omega))).trans ?_
   by_cases hx: ∀k,k<acV a.bv->G1 a.bv k
   · rw [lm hx,lm ⟨hw,hx⟩]
   rw [ls hx,ls (fun h=>hx h.2)]
 rw [ls (fun h=>hw h.1)]
 obtain ⟨i,h⟩:=ww.1 hw;obtain ⟨hi,hx⟩:=Do.1 h;exact key.1 ⟨i,by omega,hx⟩
theorem jr (a:aI) (fit:yJ a):jA a=acX (if eY a then 0 else 8):=by
 have hh:=fit.hp;unfold jA;rw [uZ _ fit.fr];simp only [az]
 by_cases so:eX a.af
 case neg=>rw [ls so,ls (fun h=>so h.so)];rfl
 have hu:=so.ul;have hn:=so.n2;have hf:=so.fl;rw [lm so];simp only [aq,show ((0:Int) !=0)=adk from rfl,lc]
 by_cases wl:(acV a.aj)=acV a.af.ay
 case neg=>rw [dL (by omega),ls (fun h=>wl h.wl)];rfl
 rw [bo (by omega)];have e:ae .i64 (((acV a.af.be):Int) - ((acV a.af.bi):Int))=((acV a.af.ay-(acV a.af.bi):Nat):Int):=by rw [wi];omega
 rw [e]
 by_cases hl:(acV a.bv)+acV a.af.bi=acV a.af.ay
 case neg=>rw [dL (by omega),ls (fun h=>hl h.hl)];rfl
 rw [bo (by omega)];simp only [lc];rw [Jk a fit so wl]
 by_cases ok:eY a
 · rw [lm ok,lm ok.to]
 rw [ls ok,ls]
 intro h;exact ok (eY.of fit so wl hl h.1 h.2)
theorem T0 {x y:Ev} (hx:jW (x.1,x.2.1)) (hy:jW (y.1,y.2.1)):eH x y=acX (ado (less x y)):=by
 unfold eH less;rw [AL hx hy];simp only [aq];generalize iB (x.1,x.2.1) (y.1,y.2.1)=c
 by_cases h1:c<0
 · simp [h1]
 by_cases h2:c=0
 · subst h2;simp
 simp only [h1,dM h2,h2,decide_false,lc,false_or,false_and]
theorem O9 {s:aQ} (ok:eX s) (h:Int×Int):tc s h=acX (ado (uw s h)):=by
 have hu:=ok.ul;unfold tc uw;simp only [az]
 by_cases a1:0<=h.1
 · by_cases a2:h.1<acV s.ay
   · simp only [a1,a2,decide_true,kw,dO (l:=s.be) a1 (by omega),dO (l:=s.ay) a1 a2,aq,true_and]
     generalize s.ay[h.1.toNat]! =u;cases s.be[h.1.toNat]!<;>simp [O6]
   simp [a1,a2]
 simp [a1]
theorem QO (a:aI) (so:eX a.af):sA a=acX (ado (acV a.aj=acV a.af.ay/\acV a.bv+acV a.af.bi=acV a.af.ay/\ ∀i,i<acV a.af.ay->Gb a i)):=by
 have hu:=so.ul;have hn:=so.n2;have hf:=so.fl;unfold sA;simp only [az]
 by_cases wl:(acV a.aj)=acV a.af.ay
 case neg=>rw [dL (by omega),aF (fun h=>wl h.1)];rfl
 rw [bo (by omega)];have e:ae .i64 (((acV a.af.ay):Int) - ((acV a.af.bi):Int))=((acV a.af.ay-(acV a.af.bi):Nat):Int):=by rw [wi];omega
 rw [e]
 by_cases hl:(acV a.bv)+acV a.af.bi=acV a.af.ay
 case neg=>rw [dL (by omega),aF (fun h=>hl h.2.1)];rfl
 rw [bo (by omega)];simp only [lc];have key:=db (body:=na) (fun i=>(((acV a.af.ay):Int),(i:Int),a.af.ay,a.af.be,a.af.bi,a.bv,a.aj)) (acV a.af.ay) (fun i=> ¬Gb a i) (r:=adk) (e:=adc) (fun i hi=>by
  have e1:ado ((i:Int)<((acV a.af.ay):Int))=adc:=aJ (by omega);unfold na;simp only [az,e1,kw,ar a.aj i (by omega),ar a.af.be i (by omega),aq,aY (show i<1000000000 by omega)];unfold Gb;generalize a.aj[i]! =w at*;cases hb:a.af.be[i]! with
  |false=>
   simp only [NE,kw]
   by_cases hw:w= -1
   · rw [bo hw]
     exact ⟨fun h=>absurd ⟨fun h=>(by cases h),fun _=>hw⟩ h,fun _=>rfl⟩
   rw [dL hw]
   exact ⟨fun _=>rfl,fun h=>absurd ((lw.1 h).2 trivial) hw⟩
  |true=>
   simp only [ut,lc]
   by_cases b1:w<0
   · rw [aJ b1]
     exact ⟨fun _=>rfl,fun h=>absurd ((lw.1 h).1 trivial).1 (by omega)⟩
   by_cases b2:((acV a.bv):Int)<=w
   · rw [aF b1,aJ b2]
     exact ⟨fun _=>rfl,fun h=>absurd ((lw.1 h).1 trivial).2.1 (by omega)⟩
   rw [aF b1,aF b2];simp only [lc,dO (l:=a.bv) (i:=w) (by omega) (by omega),aq]
   by_cases b3:(a.bv[w.toNat]!).2.2.2.1=i
   · rw [bo b3]
     simp only [lc];rw [O9 (s:=⟨a.af.ay,a.af.be,a.af.bi⟩) so];have lv:uw ⟨a.af.ay,a.af.be,a.af.bi⟩ (a.bv[w.toNat]!).2.2.2↔(a.bv[w.toNat]!).2.2.2.2=a.af.ay[i]!:=by
      unfold uw;dsimp only;rw [b3];constructor
      · intro h;exact h.2.2.2.symm
      intro h;exact ⟨by omega,by omega,by rw [v4];exact hb,by rw [v4];exact h.symm⟩
     simp only [aq,lv]
     by_cases b4:(a.bv[w.toNat]!).2.2.2.2=a.af.ay[i]!
     · rw [aJ b4]
       exact ⟨fun h=>absurd ⟨fun _=>⟨by omega,by omega,b3,b4⟩,fun h=>(by cases h)⟩ h,fun _=>rfl⟩
     rw [aF b4]
     exact ⟨fun _=>rfl,fun h=>absurd ((lw.1 h).1 trivial).2.2.2 b4⟩
   rw [dL b3]
   exact ⟨fun _=>rfl,fun h=>absurd ((lw.1 h).1 trivial).2.2.1 b3⟩) (by
  unfold na;have:ado (((acV a.af.ay):Int)<((acV a.af.ay):Int))=adk:=aF (by omega);simp only [this,lc])
 by_cases hw: ∀i,i<acV a.af.ay->Gb a i
 · rw [aJ ⟨wl,hl,hw⟩]
   exact key.2 fun i hi=>lw.2 (hw i hi)
 rw [aF (fun h=>hw h.2.2)]
 obtain ⟨i,h⟩:=ww.1 hw;obtain ⟨hi,hx⟩:=Do.1 h;exact key.1 ⟨i,hi,hx⟩
theorem Lk (H:List Ev) (u fr W:List Int) (us:List Bool) (k:Nat) (hk:k<acV H) (hl:(acV H)<=1000000) (x:Ev):
 ((∃j,j<k/\(H[j]!).2.2.1=x.2.2.1)->aB kC ((k:Int),0,u,us,fr,H,W,x)=acX (.done 8))/\
 ((∀j,j<k-> ¬(H[j]!).2.2.1=x.2.2.1)->aB kC ((k:Int),0,u,us,fr,H,W,x)=acX (.next (((k+1:Nat):Int),u,us,fr,H,W))):=by
 refine db (body:=kC) (fun j=>((k:Int),(j:Int),u,us,fr,H,W,x)) k (fun j=>(H[j]!).2.2.1=x.2.2.1) (r:= .done 8) (e:= .next (((k+1:Nat):Int),u,us,fr,H,W)) (fun j hj=>?_) ?_
 · have e1:ado ((j:Int)<(k:Int))=adc:=aJ (by omega)
   unfold kC;simp only [e1,kw,ar H j (by omega),aq,aY (show j<1000000000 by omega)];constructor
   · intro h;rw [cV h];rfl
   intro h;rw [dM h];rfl
 unfold kC
 have:ado ((k:Int)<(k:Int))=adk:=aF (by omega);simp only [this,lc,aY (show k<1000000000 by omega)]
theorem Lm (H:List Ev) (u fr W:List Int) (us:List Bool) (hl:(acV H)<=1000000) (jl: ∀w,w<acV H->jW ((H[w]!).1,(H[w]!).2.1)):
 aB kD (1,u,us,fr,H,W)=acX (.done (if∀k,0<k->k<acV H-> ¬less H[k]! H[(k-1) / 2]! then 0 else 8)):=by
 by_cases h0:(acV H)=0
 · rw [lm (fun k _ hk=>by omega)]
   refine aA ?_;unfold kD;have:ado ((1:Int)<((acV H):Int))=adk:=aF (by omega);simp only [az,this,lc]
 have key:=db (body:=kD) (fun i=>(((i+1:Nat):Int),u,us,fr,H,W)) (acV H-1) (fun i=>less H[i+1]! H[i / 2]!) (r:= .done 8) (e:= .done 0) (fun i hi=>by
  have e1:ado (((i+1:Nat):Int)<((acV H):Int))=adc:=aJ (by omega);unfold kD;simp only [az,e1,kw,rE (show i<1000000000 by omega),ar H (i+1) (by omega),ar H (i / 2) (by omega),aq,T0 (jl (i+1) (by omega)) (jl (i / 2) (by omega)),aY (show i+1<1000000000 by omega)];constructor
  · intro h;rw [aJ h];rfl
  · intro h;rw [aF h];rfl) (by
  unfold kD;have:ado (((acV H-1+1:Nat):Int)<((acV H):Int))=adk:=aF (by omega);simp only [az,this,lc])
 by_cases ho: ∀k,0<k->k<acV H-> ¬less H[k]! H[(k-1) / 2]!
 · rw [lm ho]
   refine key.2 fun i hi hc=>ho (i+1) (by omega) (by omega) ?_
   rwa [show (i+1-1) / 2=i / 2 by omega]
 rw [ls ho]
 obtain ⟨k,h⟩:=ww.1 ho;obtain ⟨k0,h⟩:=Do.1 h;obtain ⟨hk,hx⟩:=Do.1 h;refine key.1 ⟨k-1,by omega,?_⟩;rw [show k-1+1=k by omega];exact lw.1 hx
def Jl (H:List Ev) (k:Nat):Prop:=bA ((H[k]!).1,(H[k]!).2.1)/\0<=(H[k]!).2.2.1/\(H[k]!).2.2.1<=1000000/\(∀j,j<k-> ¬(H[j]!).2.2.1=(H[k]!).2.2.1)
theorem yK (a:aI) (fit:yJ a):qP a=acX (if eY a then 0 else 8):=by
 have hh:=fit.hp;unfold qP;rw [Ga _ fit.fr]
 by_cases so:eX a.af
 case neg=>rw [ls so,ls (fun h=>so h.so)];rfl
 rw [lm so];simp only [aq,show ((0:Int) !=0)=adk from rfl,lc,QO a so]
 by_cases pl:(acV a.aj)=acV a.af.ay/\acV a.bv+acV a.af.bi=acV a.af.ay/\ ∀i,i<acV a.af.ay->Gb a i
 case neg=>rw [aF pl,ls (fun h=>pl ⟨h.wl,h.hl,h.to.1⟩)];rfl
 rw [aJ pl];obtain ⟨wl,hl,hw⟩:=pl;simp only [ut,lc];have key:=db (body:=oP) (fun k=>((k:Int),a.af.ay,a.af.be,a.af.bi,a.bv,a.aj)) (acV a.bv) (fun k=> ¬Jl a.bv k) (r:=8) (e:=if∀k,0<k->k<acV a.bv-> ¬less a.bv[k]! a.bv[(k-1) / 2]! then 0 else 8) (fun k hk=>by
  have e1:ado ((k:Int)<((acV a.bv):Int))=adc:=aJ (by omega);have l1:=Lk a.bv a.af.ay a.af.bi a.aj a.af.be k hk hh a.bv[k]!;unfold oP;simp only [az,e1,kw,ar a.bv k hk,aq,tg (fit.Nx k hk)];unfold Jl
  by_cases b1:bA ((a.bv[k]!).1,(a.bv[k]!).2.1)
  case neg=>rw [ls b1];exact ⟨fun _=>rfl,fun h=>absurd (lw.1 h).1 b1⟩
  rw [lm b1]
  by_cases b2:(a.bv[k]!).2.2.1<0
  · rw [aJ b2]
    exact ⟨fun _=>rfl,fun h=>absurd (lw.1 h).2.1 (by omega)⟩
  by_cases b3:1000000<(a.bv[k]!).2.2.1
  · rw [aF b2,aJ b3]
    exact ⟨fun _=>rfl,fun h=>absurd (lw.1 h).2.2.1 (by omega)⟩
  rw [aF b2,aF b3];simp only [show ((0:Int) !=0)=adk from rfl,lc]
  by_cases b4: ∃j,j<k/\(a.bv[j]!).2.2.1=(a.bv[k]!).2.2.1
  · refine ⟨fun _=>l1.1 b4,fun h=>?_⟩
    obtain ⟨j,j1,j2⟩:=b4;exact absurd j2 ((lw.1 h).2.2.2 j j1)
  · have b4': ∀j,j<k-> ¬(a.bv[j]!).2.2.1=(a.bv[k]!).2.2.1:=fun j h1 h2=>b4 ⟨j,h1,h2⟩
    exact ⟨fun h=>absurd ⟨b1,by omega,by omega,b4'⟩ h,fun _=>l1.2 b4'⟩) (by
  unfold oP;have:ado (((acV a.bv):Int)<((acV a.bv):Int))=adk:=aF (by omega);simp only [az,this,lc];exact Lm a.bv _ _ _ _ hh fit.Nx)
 have same:eY a↔(∀k,k<acV a.bv->Jl a.bv k)/\ ∀k,0<k->k<acV a.bv-> ¬less a.bv[k]! a.bv[(k-1) / 2]!:=by
  constructor
  · intro ok
    refine ⟨fun k hk=>?_,ok.ord⟩;have:=ok.to.2 k hk;exact ⟨this.1,this.2.1,this.2.2.1,this.2.2.2.1⟩
  rintro ⟨h1,h2⟩
  refine eY.of fit so wl hl hw fun k hk=>?_
  obtain ⟨c1,c2,c3,c4⟩:=h1 k hk;refine ⟨c1,c2,c3,c4,fun k0=>?_⟩;unfold Ny;rw [lm ⟨c1,(h1 ((k-1) / 2) (by omega)).1⟩,BL];exact h2 k k0 hk
 by_cases he: ∀k,k<acV a.bv->Jl a.bv k
 · refine (key.2 fun i hi=>lw.2 (he i hi)).trans ?_
   by_cases ho: ∀k,0<k->k<acV a.bv-> ¬less a.bv[k]! a.bv[(k-1) / 2]!
   · rw [lm ho,lm (same.2 ⟨he,ho⟩)]
   rw [ls ho,ls (fun h=>ho (same.1 h).2)]
 rw [ls (fun h=>he (same.1 h).1)]
 obtain ⟨i,h⟩:=ww.1 he;obtain ⟨hi,hx⟩:=Do.1 h;exact key.1 ⟨i,hi,hx⟩
theorem z4 {l:List Ev} {n:Nat} {e:Ev} (hn:n<=acV l):e∈l.take n↔ ∃w,w<n/\l[w]! =e:=by
 rw [cH];constructor
 · rintro ⟨i,h1,_,h3⟩;exact ⟨i,h1,h3⟩
 rintro ⟨i,h1,h3⟩;exact ⟨i,h1,by omega,h3⟩
theorem acE {s:aQ} (so:eX s) {n:Nat} {H:List Ev} {W:List Int} (E:Ev->Prop) (hn:n<=acV H) (wl:(acV W)=acV s.ay) (hl:n+acV s.bi=acV s.ay)
 (ix: ∀w,w<n->0<=(H[w]!).ix/\(H[w]!).ix<acV W/\W[(H[w]!).n]! =(w:Int)) (mem: ∀e,(∃w,w<n/\H[w]! =e)↔E e) (ord: ∀k,0<k->k<n-> ¬less H[k]! H[(k-1) / 2]!)
 (ue: ∀i,i<acV s.ay->s.be[i]! =adc-> ∃e:Ev,E e/\e.ix=i/\e.2.2.2.2=s.ay[i]!) (un: ∀i,i<acV s.ay->s.be[i]! =adk->W[i]! = -1)
 (ev: ∀e,E e->pO e) (zH: ∀e f:Ev,E e->E f->e.num=f.num->e.ix=f.ix):eY ⟨s,H.take n,W⟩:=by
 have len:(H.take n).length=n:=by rw [AC];omega
 have cell: ∀w,w<n->(H.take n)[w]! =H[w]!:=fun w hw=>lG hw
 refine ⟨so,wl,by show (H.take n).length+_=_;rw [len];exact hl,?_,un,?_,?_,?_⟩
 · intro i hi hu
   dsimp only at hi hu ⊢;rw [len];obtain ⟨e,he,e1,e2⟩:=ue i hi hu;obtain ⟨w,hw,rfl⟩:=(mem e).2 he;obtain ⟨a1,a2,a3⟩:=ix w hw;have hn':(H[w]!).n=i:=by show ((H[w]!).ix).toNat=i;omega
   rw [hn'] at a3;rw [a3,v4,cell w hw];exact ⟨by omega,by omega,e1,e2⟩
 · intro w hw
   dsimp only at hw ⊢;rw [len] at hw;rw [cell w hw];exact ev _ ((mem _).1 ⟨w,hw,rfl⟩)
 · intro v w hv hw
   dsimp only at hw ⊢;rw [len] at hw;rw [cell v (by omega),cell w hw];intro hc;have:=zH _ _ ((mem _).1 ⟨v,by omega,rfl⟩) ((mem _).1 ⟨w,hw,rfl⟩) hc;obtain ⟨a1,a2,a3⟩:=ix v (by omega);obtain ⟨b1,b2,b3⟩:=ix w hw;have hn':(H[v]!).n=(H[w]!).n:=by show ((H[v]!).ix).toNat=((H[w]!).ix).toNat;rw [this]
   rw [hn'] at a3;omega
 intro k k0 hk
 dsimp only at hk ⊢;rw [len] at hk;rw [cell k hk,cell _ (by omega)];exact ord k k0 hk
theorem u6 {s:aQ} (so:eX s) {n:Nat} {x:Ev} {M:Ev->Prop} {K:Nat->Prop} {H H1:List Ev} {W W1:List Int} (st:zy n x M K H W H1 W1) (hn:n<=acV H) (wl:(acV W)=acV s.ay) (hl:n+acV s.bi=acV s.ay)
 (ue: ∀i,i<acV s.ay->s.be[i]! =adc-> ∃e:Ev,(e=x\/M e)/\e.ix=i/\e.2.2.2.2=s.ay[i]!) (un: ∀i,i<acV s.ay->s.be[i]! =adk->K i/\W[i]! = -1)
 (ev: ∀e,(e=x\/M e)->pO e) (zH: ∀e f:Ev,(e=x\/M e)->(f=x\/M f)->e.num=f.num->e.ix=f.ix):eY ⟨s,H1.take n,W1⟩:=by
 refine acE so (fun e=>e=x\/M e) (by rw [st.hl];exact hn) (by rw [st.wl];exact wl) hl (by rw [st.wl];exact st.ix) st.mem st.ord ue ?_ ev zH;intro i hi hu;rw [st.out i (un i hi hu).1];exact (un i hi hu).2
theorem eY.bd {a:aI} (ok:eY a):(acV a.bv)<=200/\acV a.aj<=200:=by have:=ok.hl;have:=ok.wl;have:=ok.so.n2;omega
theorem eY.cells {a:aI} (ok:eY a):mr (acV a.bv) a.bv a.aj:=by have:=ok.bd;refine ⟨v6 _,by omega,fun w hw=>?_⟩;obtain ⟨b1,b2,b3,b4,b5⟩:=ok.back hw;exact ⟨ok.ev w hw,b1,by rw [ok.wl];exact b2⟩
theorem eY.inj {a:aI} (ok:eY a) {v w:Nat} (hv:v<acV a.bv) (hw:w<acV a.bv) (h:Ev.ix a.bv[v]! =Ev.ix a.bv[w]!):v=w:=by
 have h1:=(ok.back hv).2.2.2.2;have h2:=(ok.back hw).2.2.2.2;have:Ev.n a.bv[v]! =Ev.n a.bv[w]!:=by show (Ev.ix a.bv[v]!).toNat=(Ev.ix a.bv[w]!).toNat;rw [h]
 rw [this] at h1;omega
theorem eY.Lf {a:aI} (ok:eY a) {i k:Nat} (i0:0<i) (k0:0<k) (hk:k<acV a.bv) (hp:(k-1) / 2=i): ¬less a.bv[k]! a.bv[(i-1) / 2]!:=by have h1:=ok.ord k k0 hk;rw [hp] at h1;exact vQ (ok.ev _ (by omega)).den (ok.ev _ (by omega)).den (ok.ev _ hk).den (ok.ord i i0 (by omega)) h1
theorem eY.live {a:aI} (ok:eY a) {h:Int×Int} (lv:uw a.af h): ∃i,i<acV a.bv/\a.aj[h.1.toNat]! =(i:Int)/\(a.bv[i]!).2.2.2=h:=by
 obtain ⟨l1,l2,l3,l4⟩:=lv;obtain ⟨f1,f2,f3,f4⟩:=ok.fwd h.1.toNat (by omega) l3;refine ⟨(a.aj[h.1.toNat]!).toNat,by omega,by omega,?_⟩;have e1:(a.bv[(a.aj[h.1.toNat]!).toNat]!).2.2.2.1=h.1:=by have:Ev.ix a.bv[(a.aj[h.1.toNat]!).toNat]! =(h.1.toNat:Int):=f3;have h2:Ev.ix a.bv[(a.aj[h.1.toNat]!).toNat]! =(a.bv[(a.aj[h.1.toNat]!).toNat]!).2.2.2.1:=rfl;omega
 exact IR e1 (by rw [f4,l4])
theorem eY.handle {a:aI} (ok:eY a) {i:Nat} (hi:i<acV a.bv):uw a.af (a.bv[i]!).2.2.2/\a.aj[((a.bv[i]!).2.2.2.1).toNat]! =(i:Int):=by obtain ⟨b1,b2,b3,b4,b5⟩:=ok.back hi;exact ⟨⟨b1,b2,b3,b4⟩,b5⟩
theorem eY.Ea {a:aI} (ok:eY a) {i:Nat} (hi:i<acV a.af.ay) (hu:a.af.be[i]! =adc): ∃w,w<acV a.bv/\Ev.ix a.bv[w]! =i/\(a.bv[w]!).2.2.2.2=a.af.ay[i]!:=by obtain ⟨f1,f2,f3,f4⟩:=ok.fwd i hi hu;exact ⟨(a.aj[i]!).toNat,by omega,f3,f4⟩
theorem eY.HR {a:aI} (ok:eY a) {i:Nat} (hu:a.af.be[i]! =adk) {w:Nat} (hw:w<acV a.bv):Ev.n a.bv[w]!≠i:=by intro h;have:=(ok.back hw).2.2.1;rw [h,hu] at this;cases this
theorem eY.zH {a:aI} (ok:eY a) {v w:Nat} (hv:v<acV a.bv) (hw:w<acV a.bv) (h:Ev.num a.bv[v]! =Ev.num a.bv[w]!):v=w:=by
 rcases abH v w with h1|h1|h1
 · exact absurd h (ok.nd v w h1 hw)
 · exact h1
 exact absurd h.symm (ok.nd w v h1 hv)
theorem fG {α:Type} [Inhabited α] {l:List α} {k:Nat} {v:α} (h:l[k]! =v):l.set k v=l:=by
 by_cases hk:k<acV l
 · apply BF (by rw [rc])
   intro i hi;rw [bn];split
   · rename_i e;rw [e.1];exact h.symm
   rfl
 exact abI (by omega)
def pP (x:Ev) (t:Int×Int):Ev:=(t.1,t.2,x.2.2)
noncomputable def j9 (a:aI) (i:Nat) (t:Int×Int):aI:=⟨a.af,(cB (acV a.bv) (pP a.bv[i]! t) i a.bv a.aj).1,(cB (acV a.bv) (pP a.bv[i]! t) i a.bv a.aj).2⟩
theorem Gc {a:aI} (ok:eY a) {i:Nat} (hi:i<acV a.bv) {t:Int×Int} (ht:bA t) (h64:jW t):pO (pP a.bv[i]! t):=by have:=ok.ev i hi;exact ⟨ht,h64,this.2.2.1,this.2.2.2⟩
theorem Gd {a:aI} (ok:eY a) {i:Nat} (hi:i<acV a.bv) (t:Int×Int):AN (acV a.bv) (pP a.bv[i]! t) (fun e=> ∃w,w<acV a.bv/\w≠i/\a.bv[w]! =e) a.bv a.aj i:=by obtain ⟨b1,b2,b3,b4,b5⟩:=ok.back hi;refine ⟨hi,v6 _,fun w hw Jg=>?_,b1,by rw [ok.wl];exact b2,fun e=>abK⟩;obtain ⟨c1,c2,c3,c4,c5⟩:=ok.back hw;exact ⟨c1,by rw [ok.wl];exact c2,c5,fun h=>Jg (ok.inj hw hi h)⟩
theorem HS {a:aI} (ok:eY a) (i:Nat):Ord (acV a.bv) a.bv i:=
 ⟨fun w hw=>(ok.ev w hw).den,fun k k0 hk _ _=>ok.ord k k0 hk,fun i0 _k k0 hk hp=>ok.Lf i0 k0 hk hp⟩
theorem mX {a:aI} (ok:eY a) {i:Nat} (hi:i<acV a.bv) {t:Int×Int} (ht:bA t):
 zy (acV a.bv) (pP a.bv[i]! t) (fun e=> ∃w,w<acV a.bv/\w≠i/\a.bv[w]! =e) (fun k=>k≠Ev.n (pP a.bv[i]! t)/\ ∀w,w<acV a.bv->w≠i->Ev.n a.bv[w]!≠k) a.bv a.aj (j9 a i t).bv (j9 a i t).aj:=
 yH (x:=pP a.bv[i]! t) ht.1 (Gd ok hi t) (HS ok i)
theorem CU {a:aI} (ok:eY a) {i:Nat} (hi:i<acV a.bv) {t:Int×Int} (ht:bA t):(j9 a i t).bv.length=acV a.bv/\(j9 a i t).aj.length=(acV a.aj):=
 ⟨(mX ok hi ht).hl,(mX ok hi ht).wl⟩
theorem QP {a:aI} (ok:eY a) {i:Nat} (hi:i<acV a.bv) {t:Int×Int} (ht:bA t) (e:Ev):e∈(j9 a i t).bv↔(e=pP a.bv[i]! t\/(e∈a.bv/\e≠a.bv[i]!)):=by
 have st:=mX ok hi ht;have h1:e∈(j9 a i t).bv↔ ∃w,w<acV a.bv/\((j9 a i t).bv)[w]! =e:=by rw [aO,(CU ok hi ht).1]
 rw [h1];refine (st.mem e).trans ?_;constructor
 · rintro (h|⟨w,hw,Jg,rfl⟩)
   · exact .inl h
   exact .inr ⟨aL hw,fun h=>Jg (ok.inj hw hi (by rw [h]))⟩
 rintro (h|⟨h,dK⟩)
 · exact .inl h
 obtain ⟨w,hw,rfl⟩:=aO.1 h
 exact .inr ⟨w,hw,fun h=>dK (by rw [h]),rfl⟩
theorem T1 {a:aI} (ok:eY a) {i:Nat} (hi:i<acV a.bv) {t:Int×Int} (ht:bA t) (h64:jW t):eY (j9 a i t):=by
 have st:=mX ok hi ht;have len:=(CU ok hi ht).1;have hx:Ev.ix (pP a.bv[i]! t)=Ev.ix a.bv[i]!:=rfl;have key:=u6 ok.so st (v6 _) ok.wl ok.hl (fun j hj hu=>by
  obtain ⟨w,hw,e1,e2⟩:=ok.Ea hj hu
  by_cases e:w=i
  · subst e;exact ⟨pP a.bv[w]! t,.inl rfl,e1,e2⟩
  · exact ⟨a.bv[w]!,.inr ⟨w,hw,e,rfl⟩,e1,e2⟩) (fun j hj hu=>⟨⟨(ok.HR hu hi).symm,fun w hw _=>ok.HR hu hw⟩,ok.un j hj hu⟩) (by
  rintro e (rfl|⟨w,hw,_,rfl⟩)
  · exact Gc ok hi ht h64
  · exact ok.ev w hw) (by
  rintro e f (rfl|⟨v,hv,hvi,rfl⟩) (rfl|⟨w,hw,Jg,rfl⟩) he
  · rfl
  · exact absurd (ok.zH hi hw he).symm Jg
  · exact absurd (ok.zH hv hi he) hvi
  rw [ok.zH hv hw he])
 have:(j9 a i t).bv.take (acV a.bv)=(j9 a i t).bv:=EQ (by rw [len];exact v6 _);show eY ⟨a.af,(j9 a i t).bv,(j9 a i t).aj⟩;rw [<- this];exact key
theorem Ln {a:aI} (ok:eY a) (fit:yJ a) {h:Int×Int} {i:Nat} (hi:i<acV a.bv) (hh:(a.bv[i]!).2.2.2=h):oL a h=acX ((i:Int),0):=by
 obtain ⟨lv,wv⟩:=ok.handle hi;rw [hh] at lv;unfold oL;rw [jr a fit,lm ok];simp only [aq,show ((0:Int) !=0)=adk from rfl,lc,DB ok.so,aJ lv,ut];have:=lv.2.1;have:=lv.1;have:=ok.wl;have e:(a.bv[i]!).2.2.2.1=h.1:=by rw [hh]
 rw [dO (l:=a.aj) lv.1 (by omega),<- e,wv];rfl
theorem DW {a:aI} (ok:eY a) (fit:yJ a) {h t:Int×Int} {i:Nat} (hi:i<acV a.bv) (hh:(a.bv[i]!).2.2.2=h) (ht:bA t) (h64:jW t):sy a h t=acX (j9 a i t,0):=by
 have bd:=ok.bd;obtain ⟨b1,b2,b3,b4,b5⟩:=ok.back hi;unfold sy;rw [jr a fit,lm ok,dD h64,lm ht];have pl:=Ln ok fit hi hh;have se:=F8 (u:=a.af.ay) (us:=a.af.be) (fr:=a.af.bi) (Gc ok hi ht h64) (show 0<=Ev.ix (pP a.bv[i]! t) from b1) ok.cells rfl hi (show Ev.ix (pP a.bv[i]! t)<(acV a.aj) by rw [ok.wl];exact b2);have se':fb (a.af.ay,a.af.be,a.af.bi,(i:Int),t.1,t.2,(a.bv[i]!).2.2.1,(a.bv[i]!).2.2.2.1,(a.bv[i]!).2.2.2.2,a.bv,a.aj)=acX (cB (acV a.bv) (pP a.bv[i]! t) i a.bv a.aj):=se;simp only [aq,gt_iff_lt,abT,if_false,show ((0:Int) !=0)=adk from rfl,lc,pl,bc (show (acV a.bv)<=1048576 by omega),bc (show (acV a.aj)<=1048576 by omega),ar a.bv i hi,se'];rfl
theorem qo {a:aI} (ok:eY a):mb a=acX a:=by have bd:=ok.bd;unfold mb;simp only [u4 ok.so,aq,bc (show (acV a.bv)<=1048576 by omega),bc (show (acV a.aj)<=1048576 by omega)]
theorem CV {a:aI} (ok:eY a) {h t:Int×Int} {i:Nat} (hi:i<acV a.bv) (hh:(a.bv[i]!).2.2.2=h) (ht:bA t) (h64:jW t):p9 a h t=acX (j9 a i t):=by
 have bd:=ok.bd;obtain ⟨b1,b2,b3,b4,b5⟩:=ok.back hi;obtain ⟨lv,wv⟩:=ok.handle hi;have hx:=Gc ok hi ht h64;have x1:Ev.ix (pP a.bv[i]! t)<(acV a.aj):=by rw [ok.wl];exact b2
 have st:=mX ok hi ht;obtain ⟨j,H1,W1,e1,e3,e4,e5,e6,e7,e8,e9,e10⟩:=D8 (x:=pP a.bv[i]! t) ht.1 i a.bv a.aj (Gd ok hi t) (HS ok i);have w1:a.aj.set (Ev.n (pP a.bv[i]! t)) (i:Int)=a.aj:=fG b5;unfold p9;rw [qo ok];have g1:aE a.aj h.1=acX (i:Int):=by
  have e:(a.bv[i]!).2.2.2.1=h.1:=by rw [hh]
  rw [dO (l:=a.aj) (i:=h.1) (by rw [<- e];exact b1) (by rw [<- e,ok.wl];exact b2),<- e,wv]
 have u1:oB ((i:Int),a.af.ay,a.af.be,a.af.bi,a.bv.set i (pP a.bv[i]! t),a.aj)=acX ((j:Int),a.af.ay,a.af.be,a.af.bi,H1.set j (pP a.bv[i]! t),W1.set (Ev.n (pP a.bv[i]! t)) (j:Int)):=by unfold oB;have:=TW (c0:=((i:Int),a.af.ay,a.af.be,a.af.bi,a.bv.set i (pP a.bv[i]! t),a.aj)) (u:=a.af.ay) (us:=a.af.be) (fr:=a.af.bi) hx b1 rfl rfl rfl i a.bv a.aj ok.cells hi rfl x1 rc rfl;rw [w1,e1] at this;exact this
 have Nz:mr (acV a.bv) H1 W1:=by refine ⟨by rw [e5];exact v6 _,by omega,fun w hw=>?_⟩;exact ⟨(yI ok.cells hi e1 w hw).1,(yI ok.cells hi e1 w hw).2.1,by rw [e6];exact (yI ok.cells hi e1 w hw).2.2⟩
 have d1:mF ((j:Int),a.af.ay,a.af.be,a.af.bi,H1.set j (pP a.bv[i]! t),W1.set (Ev.n (pP a.bv[i]! t)) (j:Int))=acX (a.af.ay,a.af.be,a.af.bi,(cB (acV a.bv) (pP a.bv[i]! t) i a.bv a.aj).1,(cB (acV a.bv) (pP a.bv[i]! t) i a.bv a.aj).2):=by
  unfold mF;have:=Li (c0:=((j:Int),a.af.ay,a.af.be,a.af.bi,H1.set j (pP a.bv[i]! t),W1.set (Ev.n (pP a.bv[i]! t)) (j:Int))) (n:=acV a.bv) (u:=a.af.ay) (us:=a.af.be) (fr:=a.af.bi) hx b1 rfl rfl rfl (acV a.bv) j H1 W1 (by omega) Nz e3.lt e5 (by rw [e6];exact x1) rc rc;rw [this];unfold cB;rw [e1]
 have s1:bz a.bv (i:Int) (t.1,t.2,(a.bv[i]!).2.2)=a.bv.set i (pP a.bv[i]! t):=rfl;simp only [aq,g1,ar a.bv i hi,s1,u1,d1];rfl
theorem HT (H:List Ev) (n:Int) (hl:(acV H)<=1000000):cT H n=acX (ado (∃w,w<acV H/\(H[w]!).2.2.1=n)):=by
 unfold cT eW;have key:=jE (body:=cS) (fun i=>(H,n,((acV H):Int),(i:Int))) (acV H) (fun i=>(H[i]!).2.2.1=n) (fun i=>(i:Int)) (e:= -1) (fun i hi=>by
  have e1:ado ((i:Int)<((acV H):Int))=adc:=aJ (by omega);unfold cS uV;simp only [e1,kw,ar H i hi,aq,aY (show i<1000000000 by omega)];constructor
  · intro h;rw [cV h];rfl
  · intro h;rw [dM h];rfl) (by
  unfold cS;have:ado (((acV H):Int)<((acV H):Int))=adk:=aF (by omega);simp only [this,lc])
 rw [az]
 by_cases hx: ∃w,w<acV H/\(H[w]!).2.2.1=n
 · obtain ⟨k,h1,h2,h3⟩:=least hx
   have:=key.1 k h1 h2 h3;rw [show ((0:Nat):Int)=0 from rfl] at this;rw [this,aJ hx];simp only [aq,aJ (show (0:Int)<=(k:Int) by omega)]
 have:=key.2 fun i hi he=>hx ⟨i,hi,he⟩
 rw [show ((0:Nat):Int)=0 from rfl] at this;rw [this,aF hx];rfl
noncomputable def dm (a:aI) (t:Int×Int) (n:Int):Ev:=(t.1,t.2,n,k8 a.af)
noncomputable def k9 (a:aI) (t:Int×Int) (n:Int):aI:=
 ⟨gD a.af,(cB (acV a.bv+1) (dm a t n) (acV a.bv) (a.bv++[dm a t n]) a.aj).1,(cB (acV a.bv+1) (dm a t n) (acV a.bv) (a.bv++[dm a t n]) a.aj).2⟩
section
variable {a : aI} (ok : eY a) (op : vP a.af) {t : Int × Int} (ht : bA t) (h64 : jW t) {n : Int} (n0 : 0 <= n) (n1 : n <= 1000000)
include ok op
theorem BN:Ev.ix (dm a t n)=(cW a.af:Int)/\cW a.af<acV a.af.ay/\a.af.be[cW a.af]! =adk/\acV a.af.bi=(gD a.af).bi.length+1:=by
 obtain ⟨h1,h2,h3⟩:=xd ok.so op.1;refine ⟨rfl,h1,?_,?_⟩
 · have:=ok.so.uf (cW a.af) h1
   cases h:a.af.be[cW a.af]! with
   |false=>rfl
   |true=>exact absurd h3 (this.1 h)
 show _=(a.af.bi.take (acV a.af.bi-1)).length+1
 have:=op.1;rw [AC];omega
theorem HU:AN (acV a.bv+1) (dm a t n) (fun e=>e∈a.bv) (a.bv++[dm a t n]) a.aj (acV a.bv):=by
 obtain ⟨h1,h2,h3,h4⟩:=BN (t:=t) (n:=n) ok op;have cell: ∀w,w<acV a.bv->(a.bv++[dm a t n])[w]! =a.bv[w]!:=fun w hw=>gL hw
 refine ⟨by omega,by simp,fun w hw Jg=>?_,by rw [h1];omega,by rw [h1,ok.wl];omega,fun e=>?_⟩
 · have hw':w<(acV a.bv):=by omega
   rw [cell w hw'];obtain ⟨c1,c2,c3,c4,c5⟩:=ok.back hw';refine ⟨c1,by rw [ok.wl];exact c2,c5,fun h=>?_⟩;rw [h1] at h;have:Ev.n a.bv[w]! =cW a.af:=by show (Ev.ix a.bv[w]!).toNat=_;omega
   exact ok.HR h3 hw' this
 constructor
 · rintro ⟨w,hw,Jg,rfl⟩
   rw [cell w (by omega)];exact aL (by omega)
 intro h
 obtain ⟨w,hw,rfl⟩:=aO.1 h;exact ⟨w,by omega,by omega,cell w hw⟩
theorem Lo (ht:bA t):Ord (acV a.bv+1) (a.bv++[dm a t n]) (acV a.bv):=by
 have _:=op;have cell: ∀w,w<acV a.bv->(a.bv++[dm a t n])[w]! =a.bv[w]!:=fun w hw=>gL hw
 refine ⟨fun w hw=>?_,fun k k0 hk k1 k2=>?_,fun i0 k k0 hk hp=>by omega⟩
 · by_cases h:w<acV a.bv
   · rw [cell w h];exact (ok.ev w h).den
   have:w=(acV a.bv):=by omega
   subst this;rw [kG (v6 _),abL];exact ht.1
 rw [cell k (by omega),cell _ (by omega)]
 exact ok.ord k k0 (by omega)
theorem xh (ht:bA t):zy (acV a.bv+1) (dm a t n) (fun e=>e∈a.bv) (fun k=>k≠Ev.n (dm a t n)/\ ∀w,w<acV a.bv+1->w≠acV a.bv->Ev.n (a.bv++[dm a t n])[w]!≠k) (a.bv++[dm a t n]) a.aj (k9 a t n).bv (k9 a t n).aj:=
 yH (x:=dm a t n) ht.1 (HU ok op) (Lo ok op ht)
theorem BO (ht:bA t):(k9 a t n).bv.length=acV a.bv+1:=by have:=(xh (n:=n) ok op ht).hl;rw [this];simp
theorem Lp (ht:bA t) (e:Ev):e∈(k9 a t n).bv↔(e=dm a t n\/e∈a.bv):=by have st:=xh (n:=n) ok op ht;rw [aO,BO ok op ht];exact st.mem e
theorem Jm (ht:bA t) (h64:jW t) (n0:0<=n) (n1:n<=1000000):pO (dm a t n):=by have _:=ok;have _:=op;exact ⟨ht,h64,n0,n1⟩
theorem O' (ht:bA t) (h64:jW t) (n0:0<=n) (n1:n<=1000000) (nn: ∀e∈a.bv,Ev.num e≠n):eY (k9 a t n):=by
 have st:=xh (n:=n) ok op ht;have len:=BO (n:=n) ok op ht;obtain ⟨h1,h2,h3,h4⟩:=BN (t:=t) (n:=n) ok op;have hu:=ok.so.ul;have ul:(gD a.af).ay.length=(acV a.af.ay):=rc;have key:=u6 (TR ok.so op) st (by simp) (by rw [ul];exact ok.wl) (by rw [ul];have:=ok.hl;omega) (fun j hj B3=>by
  rw [ul] at hj;change (a.af.be.set (cW a.af) adc)[j]! =adc at B3;rw [bn] at B3;show∃e:Ev,_/\_/\_=(a.af.ay.set (cW a.af) (a.af.ay[cW a.af]!+1))[j]!;rw [bn]
  by_cases e:j=cW a.af
  · rw [lm ⟨e,h2⟩]
    exact ⟨dm a t n,.inl rfl,by rw [h1,e],rfl⟩
  · rw [ls (fun k=>e k.1)]
    rw [ls (fun k=>e k.1)] at B3;obtain ⟨w,hw,e1,e2⟩:=ok.Ea hj B3;exact ⟨a.bv[w]!,.inr (aL hw),e1,e2⟩) (fun j hj B3=>by
  rw [ul] at hj;change (a.af.be.set (cW a.af) adc)[j]! =adk at B3;rw [bn] at B3
  by_cases e:j=cW a.af
  · rw [lm ⟨e,by omega⟩] at B3;cases B3
  · rw [ls (fun k=>e k.1)] at B3
    refine ⟨⟨?_,fun w hw Jg=>?_⟩,ok.un j hj B3⟩
    · show j≠(Ev.ix (dm a t n)).toNat
      omega
    rw [gL (by omega)]
    exact ok.HR B3 (by omega)) (by
  rintro e (rfl|h)
  · exact Jm ok op ht h64 n0 n1
  · obtain ⟨w,hw,rfl⟩:=aO.1 h
    exact ok.ev w hw) (by
  rintro e f (rfl|he) (rfl|hf) hn
  · rfl
  · exact absurd hn.symm (nn f hf)
  · exact absurd hn (nn e he)
  obtain ⟨v,hv,rfl⟩:=aO.1 he
  obtain ⟨w,hw,rfl⟩:=aO.1 hf;rw [ok.zH hv hw hn])
 have:(k9 a t n).bv.take (acV a.bv+1)=(k9 a t n).bv:=EQ (by rw [len];exact v6 _);show eY ⟨gD a.af,(k9 a t n).bv,(k9 a t n).aj⟩;rw [<- this];exact key
theorem Ge (ht:bA t) (h64:jW t) (n0:0<=n) (n1:n<=1000000):mr (acV a.bv+1) (a.bv++[dm a t n]) a.aj:=by
 have bd:=ok.bd;obtain ⟨h1,h2,h3,h4⟩:=BN (t:=t) (n:=n) ok op;refine ⟨by simp,by simp;omega,fun w hw=>?_⟩
 by_cases h:w<acV a.bv
 · rw [gL h];exact ok.cells.ev w h
 have:w=(acV a.bv):=by omega
 subst this;rw [kG (v6 _),abL];exact ⟨Jm ok op ht h64 n0 n1,by show 0<=Ev.ix (dm a t n);omega,by show Ev.ix (dm a t n)<_;rw [ok.wl];omega⟩
theorem vR (fit:yJ a) (ht:bA t) (h64:jW t) (n0:0<=n) (n1:n<=1000000) (nn: ∀e∈a.bv,Ev.num e≠n):kQ a t n=acX (k9 a t n,k8 a.af,0):=by
 have bd:=ok.bd;obtain ⟨h1,h2,h3,h4⟩:=BN (t:=t) (n:=n) ok op;have hn: ¬ ∃w,w<acV a.bv/\(a.bv[w]!).2.2.1=n:=by rintro ⟨w,hw,e⟩;exact nn _ (aL hw) e
 unfold kQ;rw [jr a fit,lm ok,dD h64,lm ht,HT _ _ (by omega),aF hn,BK ok.so,lm op];have se:=F8 (u:=(gD a.af).ay) (us:=(gD a.af).be) (fr:=(gD a.af).bi) (Jm ok op ht h64 n0 n1) (show 0<=Ev.ix (dm a t n) by omega) (Ge ok op ht h64 n0 n1) (by simp) (show (acV a.bv)<acV a.bv+1 by omega) (show Ev.ix (dm a t n)<(acV a.aj) by rw [ok.wl];omega);have e1:ae .i64 (((a.bv++[dm a t n]).length:Int) -1)=((acV a.bv):Int):=by rw [wi,ab1];simp;omega
 have ap:bI a.bv [(t.1,t.2,n,k8 a.af)]=acX (a.bv++[dm a t n]):=cR (by simp;omega);have se':fb ((gD a.af).ay,(gD a.af).be,(gD a.af).bi,((acV a.bv):Int),t.1,t.2,n,(k8 a.af).1,(k8 a.af).2,a.bv++[dm a t n],a.aj)=acX (cB (acV a.bv+1) (dm a t n) (acV a.bv) (a.bv++[dm a t n]) a.aj):=se;simp only [aq,gt_iff_lt,abT,if_false,show ((0:Int) !=0)=adk from rfl,lc,aF (show¬n<0 by omega),aF (show¬1000000<n by omega),bc (show (acV a.bv)<=1048576 by omega),bc (show (acV a.aj)<=1048576 by omega),ap,az,e1,se'];rfl
theorem xE (ht:bA t) (h64:jW t) (n0:0<=n) (n1:n<=1000000):eS a t n=acX (k9 a t n,k8 a.af):=by
 have bd:=ok.bd;obtain ⟨h1,h2,h3,h4⟩:=BN (t:=t) (n:=n) ok op;unfold eS;rw [qo ok];have e1:ae .i64 (((a.bv++[dm a t n]).length:Int) -1)=((acV a.bv):Int):=by rw [wi,ab1];simp;omega
 have ap:bI a.bv [(t.1,t.2,n,k8 a.af)]=acX (a.bv++[dm a t n]):=cR (by simp;omega);have hx:=Jm (n:=n) ok op ht h64 n0 n1;have last:cB (acV a.bv+1) (dm a t n) (acV a.bv) (a.bv++[dm a t n]) a.aj=_:=Lg (x:=dm a t n) ht.1 (HU ok op) (Lo ok op ht) (fun k k0 hk hp=>by omega);have hs:(a.bv++[dm a t n]).set (acV a.bv) (dm a t n)=a.bv++[dm a t n]:=fG (by rw [kG (v6 _),abL];rfl);have ws:bz a.aj (k8 a.af).1 ((acV a.bv):Int)=a.aj.set (Ev.n (dm a t n)) ((acV a.bv):Int):=rfl
 have u1:oC ((gD a.af).ay,(gD a.af).be,(gD a.af).bi,((acV a.bv):Int),a.bv++[dm a t n],a.aj.set (Ev.n (dm a t n)) ((acV a.bv):Int))=acX (((jc (dm a t n) (acV a.bv) (a.bv++[dm a t n]) a.aj).1:Int),(jc (dm a t n) (acV a.bv) (a.bv++[dm a t n]) a.aj).2.1.set (jc (dm a t n) (acV a.bv) (a.bv++[dm a t n]) a.aj).1 (dm a t n),(jc (dm a t n) (acV a.bv) (a.bv++[dm a t n]) a.aj).2.2.set (Ev.n (dm a t n)) ((jc (dm a t n) (acV a.bv) (a.bv++[dm a t n]) a.aj).1:Int)):=by
  unfold oC;have:=TY (c0:=((gD a.af).ay,(gD a.af).be,(gD a.af).bi,((acV a.bv):Int),a.bv++[dm a t n],a.aj.set (Ev.n (dm a t n)) ((acV a.bv):Int))) (u:=(gD a.af).ay) (us:=(gD a.af).be) (fr:=(gD a.af).bi) hx (show 0<=Ev.ix (dm a t n) by omega) (acV a.bv) (a.bv++[dm a t n]) a.aj (Ge ok op ht h64 n0 n1) (by omega) (by simp) (by rw [ok.wl];omega) rfl rc;rw [hs] at this;exact this
 have g1:aE a.aj (k8 a.af).1=acX a.aj[cW a.af]!:=ar a.aj (cW a.af) (by rw [ok.wl];exact h2);simp only [aq,F3 ok.so op,ap,g1,az,e1,ws,u1];unfold k9;rw [last]
end
theorem vT {a:aI} (ok:eY a) (op: ¬vP a.af) (fit:yJ a) {t:Int×Int} (ht:bA t) (h64:jW t) {n:Int} (n0:0<=n) (n1:n<=1000000) (nn: ∀e∈a.bv,Ev.num e≠n):kQ a t n=acX (⟨⟨[],[],[]⟩,[],[]⟩,(0,0),18):=by
 have bd:=ok.bd;have hn: ¬ ∃w,w<acV a.bv/\(a.bv[w]!).2.2.1=n:=by rintro ⟨w,hw,e⟩;exact nn _ (aL hw) e
 unfold kQ;rw [jr a fit,lm ok,dD h64,lm ht,HT _ _ (by omega),aF hn,BK ok.so,ls op];simp only [aq,gt_iff_lt,abT,if_false,show ((0:Int) !=0)=adk from rfl,lc,aF (show¬n<0 by omega),aF (show¬1000000<n by omega),show ((18:Int) !=0)=adc from rfl,kw]
theorem uy {l:List Ev} {n i:Nat} {v:Ev}:(l.set i v).take n=(l.take n).set i v:=by
 apply List.ext_getElem?;intro j;rw [abV,ac5,ac5,abV,AC]
 by_cases h1:j<n
 · rw [lm h1]
   by_cases h2:i=j
   · subst h2
     by_cases h3:i<acV l
     · rw [lm rfl,lm h3,lm rfl,lm (by omega)]
     rw [lm rfl,ls h3,lm rfl,ls (by omega)]
   rw [ls h2,ls h2,lm h1]
 rw [ls h1]
 by_cases h2:i=j
 · rw [lm h2,ls (by omega)]
 rw [ls h2,ls h1]
theorem Lq {n:Nat} {x:Ev}: ∀(i:Nat) (H:List Ev) (W:List Int),i<n->jc x i (H.take n) W=((jc x i H W).1,(jc x i H W).2.1.take n,(jc x i H W).2.2)
 |0,H,W,hi=>by rw [jc,jc]
 |i+1,H,W,hi=>by
  have e:(H.take n)[i / 2]! =H[i / 2]!:=lG (by omega);rw [jc,jc,e]
  by_cases h:less x H[i / 2]!
  · rw [lm h,lm h,<- uy]
    exact Lq (i / 2) _ _ (by omega)
  rw [ls h,ls h]
termination_by i=>i
decreasing_by omega
theorem T2 {x:Ev}: ∀(i:Nat) (H:List Ev) (W:List Int),(jc x i H W).1<=i
 |0,H,W=>by rw [jc];exact v6 _
 |i+1,H,W=>by
  rw [jc];split
  · exact acO (T2 (i / 2) _ _) (by omega)
  exact v6 _
termination_by i=>i
decreasing_by omega
theorem Gf {n:Nat} {H:List Ev} {i:Nat} (hk:2*i+1<n):ic n (H.take n) i=ic n H i:=by
 unfold ic
 by_cases h:2*i+2<n
 · rw [lG h,lG (show 2*i+1<n by omega)]
 rw [ls (fun k=>h k.1),ls (fun k=>h k.1)]
theorem Lr {n:Nat} {x:Ev} {i:Nat} {H:List Ev} {W:List Int} (h:2*i+1<n) (hl:less H[ic n H i]! x):dV n x i H W=dV n x (ic n H i) (H.set i H[ic n H i]!) (W.set (H[ic n H i]!).n (i:Int)):=by rw [dV,dif_pos h,lm hl]
theorem xi {n:Nat} {x:Ev} {i:Nat} {H:List Ev} {W:List Int} (h: ¬(2*i+1<n/\less H[ic n H i]! x)):dV n x i H W=(i,H,W):=by
 rw [dV];split
 · rename_i h1;rw [ls (fun k=>h ⟨h1,k⟩)]
 rfl
theorem Gg {n : Nat} {x : Ev} : ∀ (d i : Nat) (H : List Ev) (W : List Int), n - i <= d -> dV n x i (H.take n) W = ((dV n x i H W).1, (dV n x i H W).2.1.take n, (dV n x i H W).2.2)
  | 0, i, H, W, hd => by
    rw [xi (fun h => by omega), xi (fun h => by omega)]
  | d + 1, i, H, W, hd => by
    have kc := nZ n H i
    by_cases h : 2 * i + 1 < n /\ less H[ic n H i]! x
    · have e : (H.take n)[ic n (H.take n) i]! = H[ic n H i]! := by rw [Gf h.1, lG (by omega)]
      rw [Lr h.1 h.2, Lr (H := H.take n) h.1 (by rw [e]; exact h.2), e, Gf h.1, <- uy]
      exact Gg d _ _ _ (by omega)
    have h' : ¬ (2 * i + 1 < n /\ less (H.take n)[ic n (H.take n) i]! x) := by
      rintro ⟨k1, k2⟩
      rw [Gf k1, lG (by omega)] at k2
      exact h ⟨k1, k2⟩
    rw [xi h, xi h']
theorem Pa {x:Ev}: ∀(i:Nat) (H:List Ev) (W:List Int),(jc x i H W).2.1.length=acV H/\(jc x i H W).2.2.length=acV W
 |0,H,W=>by rw [jc];exact ⟨rfl,rfl⟩
 |i+1,H,W=>by
  rw [jc];split
  · have:=Pa (x:=x) (i / 2) (H.set (i+1) H[i / 2]!) (W.set (H[i / 2]!).n ((i+1:Nat):Int))
    rwa [rc,rc] at this
  exact ⟨rfl,rfl⟩
termination_by i=>i
decreasing_by omega
theorem BP {n:Nat} {x:Ev} {i:Nat} {H:List Ev} {W:List Int} (hi:i<n):cB n x i (H.take n) W=((cB n x i H W).1.take n,(cB n x i H W).2):=by unfold cB;rw [Lq i H W hi];dsimp only;rw [Gg n _ _ _ (by omega)];dsimp only;rw [uy]
noncomputable def dP (a:aI) (i:Nat):aI:=
 if i<acV a.bv-1 then ⟨fE a.af (a.bv[i]!).2.2.2,(cB (acV a.bv-1) a.bv[acV a.bv-1]! i a.bv (a.aj.set (Ev.n a.bv[i]!) (-1))).1.take (acV a.bv-1),(cB (acV a.bv-1) a.bv[acV a.bv-1]! i a.bv (a.aj.set (Ev.n a.bv[i]!) (-1))).2⟩
 else ⟨fE a.af (a.bv[i]!).2.2.2,a.bv.take (acV a.bv-1),a.aj.set (Ev.n a.bv[i]!) (-1)⟩
section
variable {a : aI} (ok : eY a) {i : Nat} (hi : i < (acV a.bv))
include ok hi
theorem vU {w:Nat} (hw:w<acV a.bv) (dK:w≠i):Ev.n a.bv[w]!≠Ev.n a.bv[i]!:=by have h1:=(ok.back hw).1;have h2:=(ok.back hi).1;exact amO h1 h2 fun h=>dK (ok.inj hw hi h)
theorem HV:mr (acV a.bv-1) a.bv (a.aj.set (Ev.n a.bv[i]!) (-1)):=by have c:=ok.cells;refine ⟨by omega,c.hb,fun w hw=>?_⟩;rw [rc];exact c.ev w (by omega)
theorem T3 (dW:i<acV a.bv-1):AN (acV a.bv-1) a.bv[acV a.bv-1]! (fun e=> ∃w,w<acV a.bv-1/\w≠i/\a.bv[w]! =e) a.bv (a.aj.set (Ev.n a.bv[i]!) (-1)) i:=by
 obtain ⟨b1,b2,b3,b4,b5⟩:=ok.back (show (acV a.bv)-1<(acV a.bv) by omega);refine ⟨dW,by omega,fun w hw Jg=>?_,b1,by rw [rc,ok.wl];exact b2,fun e=>abK⟩;obtain ⟨c1,c2,c3,c4,c5⟩:=ok.back (show w<(acV a.bv) by omega);refine ⟨c1,by rw [rc,ok.wl];exact c2,?_,fun h=>?_⟩
 · rw [bn,ls (fun h=>vU ok hi (show w<(acV a.bv) by omega) Jg h.1)]
   exact c5
 have:=ok.inj (show w<(acV a.bv) by omega) (show (acV a.bv)-1<(acV a.bv) by omega) h
 omega
theorem abc:Ord (acV a.bv-1) a.bv i:=
 ⟨fun w hw=>(ok.ev w (by omega)).den,fun k k0 hk _ _=>ok.ord k k0 (by omega),fun i0 k k0 hk hp=>ok.Lf i0 k0 (by omega) hp⟩
theorem DC (dW:i<acV a.bv-1):
 zy (acV a.bv-1) a.bv[acV a.bv-1]! (fun e=> ∃w,w<acV a.bv-1/\w≠i/\a.bv[w]! =e) (fun k=>k≠Ev.n a.bv[acV a.bv-1]!/\ ∀w,w<acV a.bv-1->w≠i->Ev.n a.bv[w]!≠k) a.bv (a.aj.set (Ev.n a.bv[i]!) (-1))
  (cB (acV a.bv-1) a.bv[acV a.bv-1]! i a.bv (a.aj.set (Ev.n a.bv[i]!) (-1))).1 (cB (acV a.bv-1) a.bv[acV a.bv-1]! i a.bv (a.aj.set (Ev.n a.bv[i]!) (-1))).2:=
 yH (ok.ev (acV a.bv-1) (by omega)).den (T3 ok hi dW) (abc ok hi)
theorem HW:eX (fE a.af (a.bv[i]!).2.2.2):=TQ ok.so (ok.handle hi).1
theorem yL {j:Nat} (hj:j<acV a.af.ay):(fE a.af (a.bv[i]!).2.2.2).be[j]! =if j=Ev.n a.bv[i]! then adk else a.af.be[j]!:=by
 have _:=hi;show (a.af.be.set (Ev.n a.bv[i]!) adk)[j]! =_;rw [bn];have:=ok.so.ul
 by_cases e:j=Ev.n a.bv[i]!
 · rw [lm ⟨e,by omega⟩,lm e]
 rw [ls (fun k=>e k.1),ls e]
theorem CW:eY (dP a i):=by
 have hb:=ok.back hi;have hl:(acV a.bv)-1+(fE a.af (a.bv[i]!).2.2.2).bi.length=(acV a.af.ay):=by show (acV a.bv)-1+(a.af.bi++[_]).length=_;rw [ab1];have:=ok.hl;simp only [ac9,acl];omega
 have un: ∀j,j<acV a.af.ay->(fE a.af (a.bv[i]!).2.2.2).be[j]! =adk->(a.aj.set (Ev.n a.bv[i]!) (-1))[j]! = -1:=by
  intro j hj hu;rw [yL ok hi hj] at hu;rw [bn]
  by_cases e:j=Ev.n a.bv[i]!
  · rw [lm ⟨e.symm▸rfl,by rw [ok.wl];omega⟩]
  rw [ls e] at hu
  rw [ls (fun k=>e k.1)];exact ok.un j hj hu
 unfold dP
 by_cases dW:i<acV a.bv-1
 · rw [lm dW]
   have st:=DC ok hi dW;refine u6 (HW ok hi) st (by omega) (by rw [rc];exact ok.wl) hl (fun j hj hu=>?_) (fun j hj hu=>⟨⟨?_,fun w hw Jg=>?_⟩,un j hj hu⟩) ?_ ?_
   · change j<(acV a.af.ay) at hj
     rw [yL ok hi hj] at hu
     by_cases e:j=Ev.n a.bv[i]!
     · rw [lm e] at hu;cases hu
     rw [ls e] at hu
     obtain ⟨w,hw,e1,e2⟩:=ok.Ea hj hu;refine ⟨a.bv[w]!,?_,e1,e2⟩
     by_cases mS:w=acV a.bv-1
     · left;rw [mS]
     refine .inr ⟨w,by omega,fun h=>e ?_,rfl⟩
     rw [<- h];show j=(Ev.ix a.bv[w]!).toNat;omega
   · change j<(acV a.af.ay) at hj
     rw [yL ok hi hj] at hu
     by_cases e:j=Ev.n a.bv[i]!
     · rw [e];exact (vU ok hi (by omega) (by omega)).symm
     rw [ls e] at hu
     exact (ok.HR hu (by omega)).symm
   · change j<(acV a.af.ay) at hj
     rw [yL ok hi hj] at hu
     by_cases e:j=Ev.n a.bv[i]!
     · rw [e];exact vU ok hi (by omega) Jg
     rw [ls e] at hu
     exact ok.HR hu (by omega)
   · rintro e (rfl|⟨w,hw,_,rfl⟩)
     · exact ok.ev _ (by omega)
     exact ok.ev w (by omega)
   rintro e f (rfl|⟨v,hv,hvi,rfl⟩) (rfl|⟨w,hw,Jg,rfl⟩) he
   · rfl
   · rw [ok.zH (by omega) (by omega) he]
   · rw [ok.zH (by omega) (by omega) he]
   rw [ok.zH (by omega) (by omega) he]
 rw [ls dW]
 have hie:i=acV a.bv-1:=by omega
 refine acE (HW ok hi) (fun e=> ∃w,w<acV a.bv-1/\a.bv[w]! =e) (by omega) (by rw [rc];exact ok.wl) hl (fun w hw=>?_) (fun e=>abK) (fun k k0 hk=>ok.ord k k0 (by omega)) (fun j hj hu=>?_) un ?_ ?_
 · obtain ⟨c1,c2,c3,c4,c5⟩:=ok.back (show w<(acV a.bv) by omega)
   refine ⟨c1,by rw [rc,ok.wl];exact c2,?_⟩;rw [bn,ls (fun h=>vU ok hi (show w<(acV a.bv) by omega) (by omega) h.1)];exact c5
 · change j<(acV a.af.ay) at hj
   rw [yL ok hi hj] at hu
   by_cases e:j=Ev.n a.bv[i]!
   · rw [lm e] at hu;cases hu
   rw [ls e] at hu
   obtain ⟨w,hw,e1,e2⟩:=ok.Ea hj hu;refine ⟨a.bv[w]!,⟨w,?_,rfl⟩,e1,e2⟩;have:w≠i:=fun h=>e (by rw [<- h];show j=(Ev.ix a.bv[w]!).toNat;omega)
   omega
 · rintro e ⟨w,hw,rfl⟩
   exact ok.ev w (by omega)
 rintro e f ⟨v,hv,rfl⟩ ⟨w,hw,rfl⟩ he
 rw [ok.zH (by omega) (by omega) he]
theorem Gh (e:Ev):e∈(dP a i).bv↔(e∈a.bv/\e≠a.bv[i]!):=by
 have other: ∀w,w<acV a.bv->(a.bv[w]!≠a.bv[i]!↔w≠i):=fun w hw=>⟨fun h k=>h (by rw [k]),fun h k=>h (ok.inj hw hi (by rw [k]))⟩
 unfold dP
 by_cases dW:i<acV a.bv-1
 · rw [lm dW]
   have st:=DC ok hi dW;show e∈(_:List Ev).take _↔_;rw [z4 (by rw [st.hl];omega)];refine (st.mem e).trans ?_;constructor
   · rintro (h|⟨w,hw,Jg,rfl⟩)
     · rw [h];exact ⟨aL (by omega),(other _ (by omega)).2 (by omega)⟩
     exact ⟨aL (by omega),(other _ (by omega)).2 Jg⟩
   rintro ⟨h,dK⟩
   obtain ⟨w,hw,rfl⟩:=aO.1 h
   by_cases c:w=acV a.bv-1
   · left;rw [c]
   exact .inr ⟨w,by omega,(other w hw).1 dK,rfl⟩
 rw [ls dW]
 show e∈a.bv.take _↔_;rw [z4 (by omega)];constructor
 · rintro ⟨w,hw,rfl⟩
   exact ⟨aL (by omega),(other _ (by omega)).2 (by omega)⟩
 rintro ⟨h,dK⟩
 obtain ⟨w,hw,rfl⟩:=aO.1 h;have:=(other w hw).1 dK;exact ⟨w,by omega,rfl⟩
theorem CX:qg a (i:Int)=acX (dP a i,a.bv[i]!,0):=by
 have bd:=ok.bd;obtain ⟨b1,b2,b3,b4,b5⟩:=ok.back hi;obtain ⟨c1,c2,c3,c4,c5⟩:=ok.back (show (acV a.bv)-1<(acV a.bv) by omega);unfold qg;have e1:ae .i64 (((acV a.bv):Int) -1)=((acV a.bv-1:Nat):Int):=sC (by omega) (by omega);have g1:aE a.aj (a.bv[i]!).2.2.2.1=acX a.aj[(a.bv[i]!).2.2.2.1.toNat]!:=dO b1 (by rw [ok.wl];exact b2);have ws:bz a.aj (a.bv[i]!).2.2.2.1 (-1)=a.aj.set (Ev.n a.bv[i]!) (-1):=rfl;simp only [ar a.bv i hi,aq,Jf ok.so (ok.handle hi).1,show ((0:Int) !=0)=adk from rfl,lc,bc (show (acV a.bv)<=1048576 by omega),bc (show (acV a.aj)<=1048576 by omega),az,e1,ar a.bv (acV a.bv-1) (by omega),lH a.bv (acV a.bv-1) (by omega),g1,ws,v4];unfold dP
 by_cases dW:i<acV a.bv-1
 · rw [aJ (by omega),lm dW]
   have se:=Nw (cap:=acV a.bv) (u:=(fE a.af (a.bv[i]!).2.2.2).ay) (us:=(fE a.af (a.bv[i]!).2.2.2).be) (fr:=(fE a.af (a.bv[i]!).2.2.2).bi) (ok.ev (acV a.bv-1) (by omega)) (show 0<=Ev.ix a.bv[acV a.bv-1]! from c1) (HV ok hi) dW (show Ev.ix a.bv[acV a.bv-1]!<_ by rw [rc,ok.wl];exact c2);rw [se];rfl
 rw [aF (by omega),ls dW]
 rfl
theorem pQ (fit:yJ a) {h:Int×Int} (hh:(a.bv[i]!).2.2.2=h):lF a h=acX (dP a i,a.bv[i]!,0):=by unfold lF;rw [Ln ok fit hi hh];simp only [aq,show ((0:Int) !=0)=adk from rfl,lc,CX ok hi]
theorem vV {h:Int×Int} (hh:(a.bv[i]!).2.2.2=h):jL a h=acX (dP a i):=by
 have bd:=ok.bd;subst hh;obtain ⟨b1,b2,b3,b4,b5⟩:=ok.back hi;obtain ⟨c1,c2,c3,c4,c5⟩:=ok.back (show (acV a.bv)-1<(acV a.bv) by omega);unfold jL;rw [qo ok];have e1:ae .i64 (((acV a.bv):Int) -1)=((acV a.bv-1:Nat):Int):=sC (by omega) (by omega);have g1:aE a.aj (a.bv[i]!).2.2.2.1=acX (i:Int):=by rw [dO (l:=a.aj) b1 (by rw [ok.wl];exact b2)];exact congrArg acX b5
 have gv:=FZ ok.so (ok.handle hi).1;simp only [aq,g1,az,e1,v4];unfold dP
 by_cases dW:i<acV a.bv-1
 · rw [dL (show (i:Int)≠((acV a.bv-1:Nat):Int) by omega),lm dW]
   have dK:(acV a.bv)-1≠i:=by omega
   have nn:Ev.n a.bv[acV a.bv-1]!≠Ev.n a.bv[i]!:=vU ok hi (by omega) dK;have sw:=BM (n:=acV a.bv) (x:=a.bv[i]!) (u:=a.af.ay) (us:=a.af.be) (fr:=a.af.bi) (H:=a.bv) (W:=a.aj) hi (show (acV a.bv)-1<(acV a.bv) by omega) dK rfl b1 (by rw [ok.wl];exact b2) c1 (by rw [ok.wl];exact c2);rw [fG (l:=a.bv) rfl,fG (l:=a.aj) b5] at sw;have hs:(a.bv.set i a.bv[acV a.bv-1]!).set (acV a.bv-1) a.bv[i]! =(a.bv.set (acV a.bv-1) a.bv[i]!).set i a.bv[acV a.bv-1]!:=acJ _ _ (by omega);have ws:bz ((a.aj.set (Ev.n a.bv[acV a.bv-1]!) (i:Int)).set (Ev.n a.bv[i]!) ((acV a.bv-1:Nat):Int)) (a.bv[i]!).2.2.2.1 (-1)=(a.aj.set (Ev.n a.bv[i]!) (-1)).set (Ev.n a.bv[acV a.bv-1]!) (i:Int):=by
    show ((a.aj.set (Ev.n a.bv[acV a.bv-1]!) (i:Int)).set (Ev.n a.bv[i]!) ((acV a.bv-1:Nat):Int)).set (Ev.n a.bv[i]!) (-1)=_;rw [List.set_set,acJ _ _ nn]
   have g2:aE ((a.aj.set (Ev.n a.bv[acV a.bv-1]!) (i:Int)).set (Ev.n a.bv[i]!) ((acV a.bv-1:Nat):Int)) (a.bv[i]!).2.2.2.1=acX _:=dO b1 (by rw [rc,rc,ok.wl];exact b2);have cells:mr (acV a.bv-1) (a.bv.set (acV a.bv-1) a.bv[i]!) (a.aj.set (Ev.n a.bv[i]!) (-1)):=by refine ⟨by rw [rc];omega,by rw [rc];omega,fun w hw=>?_⟩;rw [bn,ls (by omega)];exact (HV ok hi).ev w hw
   have x1:Ev.ix a.bv[acV a.bv-1]!<(a.aj.set (Ev.n a.bv[i]!) (-1)).length:=by rw [rc,ok.wl];exact c2
   have hx:=ok.ev (acV a.bv-1) (by omega);have gv':nR (aQ.mk a.af.ay a.af.be a.af.bi) (a.bv[i]!).2.2.2=acX (fE a.af (a.bv[i]!).2.2.2):=gv;have tk:(a.bv.set (acV a.bv-1) a.bv[i]!).take (acV a.bv-1)=a.bv.take (acV a.bv-1):=by rw [uy];exact abI (by rw [AC];omega)
   have U:mc ((fE a.af (a.bv[i]!).2.2.2).ay,(fE a.af (a.bv[i]!).2.2.2).be,(fE a.af (a.bv[i]!).2.2.2).bi,acV a.bv-1,((a.bv.set (acV a.bv-1) a.bv[i]!).set i a.bv[acV a.bv-1]!).length,(i:Int),(a.bv.set (acV a.bv-1) a.bv[i]!).set i a.bv[acV a.bv-1]!,(a.aj.set (Ev.n a.bv[i]!) (-1)).set (Ev.n a.bv[acV a.bv-1]!) (i:Int))=
    acX (((jc a.bv[acV a.bv-1]! i (a.bv.set (acV a.bv-1) a.bv[i]!) (a.aj.set (Ev.n a.bv[i]!) (-1))).1:Int),(jc a.bv[acV a.bv-1]! i (a.bv.set (acV a.bv-1) a.bv[i]!) (a.aj.set (Ev.n a.bv[i]!) (-1))).2.1.set (jc a.bv[acV a.bv-1]! i (a.bv.set (acV a.bv-1) a.bv[i]!) (a.aj.set (Ev.n a.bv[i]!) (-1))).1 a.bv[acV a.bv-1]!,(jc a.bv[acV a.bv-1]! i (a.bv.set (acV a.bv-1) a.bv[i]!) (a.aj.set (Ev.n a.bv[i]!) (-1))).2.2.set (Ev.n a.bv[acV a.bv-1]!) ((jc a.bv[acV a.bv-1]! i (a.bv.set (acV a.bv-1) a.bv[i]!) (a.aj.set (Ev.n a.bv[i]!) (-1))).1:Int)):=by
    unfold mc;exact TU (n:=acV a.bv-1) (c0:=((fE a.af (a.bv[i]!).2.2.2).ay,(fE a.af (a.bv[i]!).2.2.2).be,(fE a.af (a.bv[i]!).2.2.2).bi,acV a.bv-1,((a.bv.set (acV a.bv-1) a.bv[i]!).set i a.bv[acV a.bv-1]!).length,(i:Int),(a.bv.set (acV a.bv-1) a.bv[i]!).set i a.bv[acV a.bv-1]!,(a.aj.set (Ev.n a.bv[i]!) (-1)).set (Ev.n a.bv[acV a.bv-1]!) (i:Int))) hx c1 i _ _ cells dW x1 rc rc
   have ul:=T2 (x:=a.bv[acV a.bv-1]!) i (a.bv.set (acV a.bv-1) a.bv[i]!) (a.aj.set (Ev.n a.bv[i]!) (-1));have un:=Pa (x:=a.bv[acV a.bv-1]!) i (a.bv.set (acV a.bv-1) a.bv[i]!) (a.aj.set (Ev.n a.bv[i]!) (-1));have uc:=fun w hw=>yI (x:=a.bv[acV a.bv-1]!) cells dW (i:=i) rfl w hw
   have Nz:mr (acV a.bv-1) (jc a.bv[acV a.bv-1]! i (a.bv.set (acV a.bv-1) a.bv[i]!) (a.aj.set (Ev.n a.bv[i]!) (-1))).2.1 (jc a.bv[acV a.bv-1]! i (a.bv.set (acV a.bv-1) a.bv[i]!) (a.aj.set (Ev.n a.bv[i]!) (-1))).2.2:=by refine ⟨by rw [un.1,rc];omega,by rw [un.1,rc];omega,fun w hw=>?_⟩;rw [un.2];exact uc w hw
   have D:ky ((fE a.af (a.bv[i]!).2.2.2).ay,(fE a.af (a.bv[i]!).2.2.2).be,(fE a.af (a.bv[i]!).2.2.2).bi,acV a.bv-1,((a.bv.set (acV a.bv-1) a.bv[i]!).set i a.bv[acV a.bv-1]!).length,((jc a.bv[acV a.bv-1]! i (a.bv.set (acV a.bv-1) a.bv[i]!) (a.aj.set (Ev.n a.bv[i]!) (-1))).1:Int),(jc a.bv[acV a.bv-1]! i (a.bv.set (acV a.bv-1) a.bv[i]!) (a.aj.set (Ev.n a.bv[i]!) (-1))).2.1.set (jc a.bv[acV a.bv-1]! i (a.bv.set (acV a.bv-1) a.bv[i]!) (a.aj.set (Ev.n a.bv[i]!) (-1))).1 a.bv[acV a.bv-1]!,(jc a.bv[acV a.bv-1]! i (a.bv.set (acV a.bv-1) a.bv[i]!) (a.aj.set (Ev.n a.bv[i]!) (-1))).2.2.set (Ev.n a.bv[acV a.bv-1]!) ((jc a.bv[acV a.bv-1]! i (a.bv.set (acV a.bv-1) a.bv[i]!) (a.aj.set (Ev.n a.bv[i]!) (-1))).1:Int))=
    acX (cB (acV a.bv-1) a.bv[acV a.bv-1]! i (a.bv.set (acV a.bv-1) a.bv[i]!) (a.aj.set (Ev.n a.bv[i]!) (-1))):=by
    unfold ky
    exact Lh (n:=acV a.bv-1) (c0:=((fE a.af (a.bv[i]!).2.2.2).ay,(fE a.af (a.bv[i]!).2.2.2).be,(fE a.af (a.bv[i]!).2.2.2).bi,acV a.bv-1,((a.bv.set (acV a.bv-1) a.bv[i]!).set i a.bv[acV a.bv-1]!).length,((jc a.bv[acV a.bv-1]! i (a.bv.set (acV a.bv-1) a.bv[i]!) (a.aj.set (Ev.n a.bv[i]!) (-1))).1:Int),(jc a.bv[acV a.bv-1]! i (a.bv.set (acV a.bv-1) a.bv[i]!) (a.aj.set (Ev.n a.bv[i]!) (-1))).2.1.set (jc a.bv[acV a.bv-1]! i (a.bv.set (acV a.bv-1) a.bv[i]!) (a.aj.set (Ev.n a.bv[i]!) (-1))).1 a.bv[acV a.bv-1]!,(jc a.bv[acV a.bv-1]! i (a.bv.set (acV a.bv-1) a.bv[i]!) (a.aj.set (Ev.n a.bv[i]!) (-1))).2.2.set (Ev.n a.bv[acV a.bv-1]!) ((jc a.bv[acV a.bv-1]! i (a.bv.set (acV a.bv-1) a.bv[i]!) (a.aj.set (Ev.n a.bv[i]!) (-1))).1:Int))) hx c1 (acV a.bv) (jc a.bv[acV a.bv-1]! i (a.bv.set (acV a.bv-1) a.bv[i]!) (a.aj.set (Ev.n a.bv[i]!) (-1))).1 (jc a.bv[acV a.bv-1]! i (a.bv.set (acV a.bv-1) a.bv[i]!) (a.aj.set (Ev.n a.bv[i]!) (-1))).2.1 (jc a.bv[acV a.bv-1]! i (a.bv.set (acV a.bv-1) a.bv[i]!) (a.aj.set (Ev.n a.bv[i]!) (-1))).2.2 (by omega) Nz (by omega) (by rw [un.2];exact x1) rc rc
   have st:=BP (n:=(acV a.bv-1)) (x:=a.bv[acV a.bv-1]!) (i:=i) (H:=(a.bv.set (acV a.bv-1) a.bv[i]!)) (W:=(a.aj.set (Ev.n a.bv[i]!) (-1))) dW;have v5:=BP (n:=(acV a.bv-1)) (x:=a.bv[acV a.bv-1]!) (i:=i) (H:=a.bv) (W:=(a.aj.set (Ev.n a.bv[i]!) (-1))) dW;rw [tk,v5] at st;injection st with oh MO;simp only [kw,sw,aq,lH _ (acV a.bv-1) (show (acV a.bv)-1<=((a.bv.set (acV a.bv-1) a.bv[i]!).set i a.bv[acV a.bv-1]!).length by rw [rc,rc];omega),g2,gv',ws,hs,U,D,<- oh,<- MO]
 rw [bo (show (i:Int)=((acV a.bv-1:Nat):Int) by omega),ls dW]
 have ws:bz a.aj (a.bv[i]!).2.2.2.1 (-1)=a.aj.set (Ev.n a.bv[i]!) (-1):=rfl;simp only [lc,lH a.bv (acV a.bv-1) (by omega),aq,gv,ws]
end
abbrev qT:=Int×Int×Int
theorem eY.fit {a:aI} (ok:eY a):yJ a:=by have bd:=ok.bd;have:=ok.so.fl;have:=ok.so.n2;exact ⟨by omega,by omega,by omega,fun w hw=>(ok.ev w hw).2.1⟩
theorem sE (l:List qT) (id:Int) (hl:(acV l)<=1000000) (hs: ∀i j,i<j->j<acV l->(l[i]!).1<(l[j]!).1):
 (∀k,k<acV l->(l[k]!).1=id->aT l id ()=acX ((k:Int),adc))/\
 ((∀k,k<acV l->(l[k]!).1≠id)-> ∃m,m<=acV l/\(∀i,i<m->(l[i]!).1<id)/\(∀i,m<=i->i<acV l->id<(l[i]!).1)/\aT l id ()=acX ((m:Int),adk)):=by
 obtain ⟨m,m1,m2,m3⟩:=Ld (fun i=>(l[i]!).1) id (acV l) hs;have run:aT l id ()=aB aR (l,id,((acV l):Int),(m:Int),(m:Int)):=by
  unfold aT;refine CP (body:=aR) (fun lo hi=>(l,id,((acV l):Int),(lo:Int),(hi:Int))) (acV l) m (fun i=>(l[i]!).1<id) (fun lo hi h1 h2=>?_) m2 (fun i h1 h2 h3=>by have:=m3 i h1 h2;omega) (acV l) 0 (acV l) (by omega) (by omega) m1 (v6 _);have e1:ado ((lo:Int)<(hi:Int))=adc:=aJ (by omega);have hh:=aa8 (a:=lo) (b:=hi) (by omega) (by omega);unfold aR qK;simp only [e1,kw,hh,ar l ((lo+hi) / 2) (by omega),kH,aq,aY (show (lo+hi) / 2<1000000000 by omega)];constructor
  · intro h
    have:ado (jX (l[(lo+hi) / 2]!).1 id<0)=adc:=by rcases dR (l[(lo+hi) / 2]!).1 id with ⟨a,e⟩|⟨a,e⟩|⟨a,e⟩<;>rw [e]<;>first|rfl|omega
    rw [this];rfl
  intro h
  have:ado (jX (l[(lo+hi) / 2]!).1 id<0)=adk:=by rcases dR (l[(lo+hi) / 2]!).1 id with ⟨a,e⟩|⟨a,e⟩|⟨a,e⟩<;>rw [e]<;>first|rfl|omega
  rw [this];rfl
 have fin:aB aR (l,id,((acV l):Int),(m:Int),(m:Int))=if m<acV l/\(l[m]!).1=id then acX ((m:Int),adc) else acX ((m:Int),adk):=by
  have e1:ado ((m:Int)<(m:Int))=adk:=aF (by omega)
  by_cases hm:m<acV l
  · have e2:ado ((m:Int)<((acV l):Int))=adc:=aJ (by omega)
    have body:aR (l,id,((acV l):Int),(m:Int),(m:Int))=acX (.done ((m:Int),jX (l[m]!).1 id==0)):=by unfold aR qK;simp only [e1,e2,kw,lc,ar l m hm,kH,aq]
    rw [aA body];rcases dR (l[m]!).1 id with ⟨a,e⟩|⟨a,e⟩|⟨a,e⟩
    · rw [e,ls (fun h=>by omega)];rfl
    · rw [e,lm ⟨hm,a⟩];rfl
    rw [e,ls (fun h=>by omega)];rfl
  have e2:ado ((m:Int)<((acV l):Int))=adk:=aF (by omega)
  have body:aR (l,id,((acV l):Int),(m:Int),(m:Int))=acX (.done ((m:Int),adk)):=by unfold aR;simp only [e1,e2,lc]
  rw [aA body,ls (fun h=>hm h.1)]
 rw [run,fin];constructor
 · intro k hk he
   have hkm:k=m:=by
    rcases abH k m with h|h|h
    · have:=m2 k h;omega
    · exact h
    have h1:=m3 m (v6 _) (by omega)
    have h2:=hs m k h hk;omega
   subst hkm;rw [lm ⟨hk,he⟩]
 intro h
 refine ⟨m,m1,m2,fun i h1 h2=>?_,?_⟩
 · have:=m3 i h1 h2
   have:=h i h2;omega
 rw [ls (fun k=>h m k.1 k.2)]
theorem aiM:c7=aT:=rfl
theorem T4:cX=aT:=rfl
theorem zB:cZ=aT:=rfl
theorem tj {α:Type} (l:List α) (k:Nat):l.eraseIdx k=l.take k++l.drop (k+1):=List.eraseIdx_eq_take_drop_succ l k
theorem uz (l:List qT) (k:Nat) (hk:k<acV l): ∃L:List qT,eC ((k:Int),((k+1:Nat):Int),l)=acX (acV l-1,acV l,L)/\L.take (acV l-1)=l.eraseIdx k:=by
 unfold eC;have e1:ado ((0:Int)<=(k:Int))=adc:=aJ (by omega);have e2:ado ((k:Int)<=((k+1:Nat):Int))=adc:=aJ (by omega);have e3:ado (((k+1:Nat):Int)<=((acV l):Int))=adc:=aJ (by omega);have e4:ado (((acV l):Int)<=((acV l):Int))=adc:=aJ (by omega);have e5:((k:Int)==((k+1:Nat):Int))=adk:=dM (by omega);have e6:ado ((0:Int)<=((k+1:Nat):Int))=adc:=aJ (by omega);have e7:ado ((k:Int)<=((acV l):Int))=adc:=aJ (by omega);have dr:(l.drop (k+1)).take (acV l- (k+1))=l.drop (k+1):=EQ (by rw [abJ];exact v6 _);have dl:(l.drop (k+1)).length=acV l- (k+1):=abJ;simp only [az,e1,e2,e3,e4,e5,e6,e7,acK,kw,lc,lH l k (by omega),aq,v4,Nat.zero_add,dr,dl,NE,Bool.and_true]
 by_cases h:k+1=acV l
 · have em:(l.drop (k+1)).isEmpty=adc:=by rw [acg,ab0];omega
   have n1:acP (acV l-k) 0=adk:=by
    cases hb:acP (acV l-k) 0 with
    |false=>rfl
    |true=>have:=abQ hb;omega
   have n2:Nat.ble (k+(acV l-k)) (acV l)=adc:=UV (by omega);have ll:(ig l k (acy (acV l-k) ((0:Int),(0:Int),(0:Int)))).length=(acV l):=by unfold ig;simp;omega
   simp only [em,kw,n1,lc,n2,ll,beq_self_eq_true];refine ⟨_,by rw [show k=acV l-1 by omega],?_⟩;rw [tj,show (acV l)-1=k by omega];unfold ig;rw [PP,If (by rw [AC];omega),acB,acQ];rw [abM (by omega),acr]
 have em:(l.drop (k+1)).isEmpty=adk:=by
  cases hb:(l.drop (k+1)).isEmpty with
  |false=>rfl
  |true=>rw [acg,ab0] at hb;omega
 have n1:Nat.ble (k+(acV l- (k+1))) (acV l)=adc:=UV (by omega);have n2:ado ((0:Int)<=((k+(acV l- (k+1)):Nat):Int))=adc:=aJ (by omega);have n3:ado (((k+(acV l- (k+1)):Nat):Int)<=((acV l):Int))=adc:=aJ (by omega);have n4:acP (acV l- (k+(acV l- (k+1)))) 0=adk:=by
  cases hb:acP (acV l- (k+(acV l- (k+1)))) 0 with
  |false=>rfl
  |true=>have:=abQ hb;omega
 have l1:(ig l k (l.drop (k+1))).length=(acV l):=by unfold ig;simp;omega
 have n5:Nat.ble (k+(acV l- (k+1))+(acV l- (k+(acV l- (k+1))))) (acV l)=adc:=UV (by omega);have l2:(ig (ig l k (l.drop (k+1))) (k+(acV l- (k+1))) (acy (acV l- (k+(acV l- (k+1)))) ((0:Int),(0:Int),(0:Int)))).length=(acV l):=by unfold ig;simp;omega
 simp only [em,lc,n1,kw,n2,n3,acK,n4,l1,n5,l2,beq_self_eq_true];refine ⟨_,by rw [show k+(acV l- (k+1))=acV l-1 by omega],?_⟩;rw [tj];have:k+(acV l- (k+1))=acV l-1:=by omega
 unfold ig;rw [PP,If (by simp;omega),acB,acQ,PP];rw [show (l.take k++(l.drop (k+1)++l.drop (k+(l.drop (k+1)).length)))=(l.take k++l.drop (k+1))++l.drop (k+(l.drop (k+1)).length) by rw [PP]];rw [If (by simp;omega),EQ (by simp;omega)]
theorem Gi:iA=eC:=rfl
theorem xj {α:Type} [Inhabited α] {l:List α} {k i:Nat}:(l.eraseIdx k)[i]! =if i<k then l[i]! else l[i+1]!:=by
 rw [tj]
 by_cases hk:k<acV l
 · by_cases h:i<k
   · rw [lm h,gL (by rw [AC];omega),lG h]
   rw [ls h,kG (by rw [AC];omega),pL,AC]
   congr 1;omega
 have e1:l.take k=l:=EQ (by omega)
 have e2:l.drop (k+1)=[]:=abM (by omega);rw [e1,e2,acr];split
 · rfl
 rw [getElem!_neg l i (by omega),getElem!_neg l (i+1) (by omega)]
def fN (x:Int×Int):Prop:=0<=x.1/\x.1<=65535/\0<=x.2/\x.2<=65535/\x.1≠x.2
theorem z5 (x:Int×Int):s6 x=acX (ado (fN x)):=by
 obtain ⟨a,b⟩:=x;unfold s6;dsimp only
 by_cases h1:0<=a
 · by_cases h3:0<=b
   · have e1:ado (0<=if b<a then b else a)=adc:=aJ (by split<;>omega)
     rw [e1]
     by_cases h2:a<=65535
     · by_cases h4:b<=65535
       · have e2:ado ((if b>a then b else a)<=65535)=adc:=aJ (by split<;>omega)
         rw [e2]
         by_cases h5:a=b
         · rw [bo h5,aF (p:=fN (a,b)) (fun h=>h.2.2.2.2 h5)];rfl
         rw [dL h5,aJ (p:=fN (a,b)) ⟨h1,h2,h3,h4,h5⟩];rfl
       have e2:ado ((if b>a then b else a)<=65535)=adk:=aF (by split<;>omega)
       rw [e2,aF (p:=fN (a,b)) (fun h=>h4 h.2.2.2.1)];rfl
     have e2:ado ((if b>a then b else a)<=65535)=adk:=aF (by split<;>omega)
     rw [e2,aF (p:=fN (a,b)) (fun h=>h2 h.2.1)];rfl
   have e1:ado (0<=if b<a then b else a)=adk:=aF (by split<;>omega)
   rw [e1,aF (p:=fN (a,b)) (fun h=>h3 h.2.2.1)];rfl
 have e1:ado (0<=if b<a then b else a)=adk:=aF (by split<;>omega)
 rw [e1,aF (p:=fN (a,b)) (fun h=>h1 h.1)];rfl
theorem z6 (x:Int×Int):s5 x=acX (ado (fN x)):=by
 obtain ⟨a,b⟩:=x;unfold s5;dsimp only
 by_cases h1:0<=a
 · by_cases h2:a<=65535
   · by_cases h3:0<=b
     · by_cases h4:b<=65535
       · by_cases h5:a=b
         · rw [bo h5,aJ h1,aJ h2,aJ h3,aJ h4,aF (p:=fN (a,b)) (fun h=>h.2.2.2.2 h5)];rfl
         rw [dL h5,aJ h1,aJ h2,aJ h3,aJ h4,aJ (p:=fN (a,b)) ⟨h1,h2,h3,h4,h5⟩];rfl
       rw [aJ h1,aJ h2,aJ h3,aF h4,aF (p:=fN (a,b)) (fun h=>h4 h.2.2.2.1)];rfl
     rw [aJ h1,aJ h2,aF h3,aF (p:=fN (a,b)) (fun h=>h3 h.2.2.1)];rfl
   rw [aJ h1,aF h2,aF (p:=fN (a,b)) (fun h=>h2 h.2.1)];rfl
 rw [aF h1,aF (p:=fN (a,b)) (fun h=>h1 h.1)];rfl
structure eE (c:bj):Prop where
 len:(acV c.ce)<=200
 n0:0<=c.aK
 n1:c.aK<=1000000
 cv: ∀i,i<acV c.ce->fN (c.ce[i]!).2
 nr: ∀i,i<acV c.ce->0<=(c.ce[i]!).1/\(c.ce[i]!).1<c.aK
 up: ∀i j,i<j->j<acV c.ce->(c.ce[i]!).1<(c.ce[j]!).1
 nd: ∀i j,i<j->j<acV c.ce->(c.ce[i]!).2≠(c.ce[j]!).2
def yM (l:List qT) (i:Nat):Int:=if i=0 then -1 else (l[i-1]!).1
def NA (c:bj) (i:Nat):Prop:=fN (c.ce[i]!).2/\(∀j,j<i->(c.ce[j]!).2≠(c.ce[i]!).2)/\yM c.ce i<(c.ce[i]!).1/\(c.ce[i]!).1<c.aK
theorem eE.iff {c:bj} (h1:(acV c.ce)<=200) (h2:0<=c.aK) (h3:c.aK<=1000000):eE c↔ ∀i,i<acV c.ce->NA c i:=by
 constructor
 · intro ok i hi
   refine ⟨ok.cv i hi,fun j hj=>ok.nd j i hj hi,?_,(ok.nr i hi).2⟩;unfold yM;split
   · have:=(ok.nr i hi).1;omega
   exact ok.up (i-1) i (by omega) hi
 intro h
 have low: ∀i,i<acV c.ce->0<=(c.ce[i]!).1:=by
  intro i
  induction i with
  |zero=>intro hi;have:=(h 0 hi).2.2.1;unfold yM at this;rw [lm rfl] at this;omega
  |succ i ih=>intro hi;have h1:=(h (i+1) hi).2.2.1;unfold yM at h1;rw [ls (by omega),show i+1-1=i by omega] at h1;have:=ih (by omega);omega
 have up: ∀i j,i<j->j<acV c.ce->(c.ce[i]!).1<(c.ce[j]!).1:=by
  intro i j
  induction j with
  |zero=>intro h;omega
  |succ j ih=>
   intro nJ hj;have h1:=(h (j+1) hj).2.2.1;unfold yM at h1;rw [ls (by omega),show j+1-1=j by omega] at h1
   by_cases e:i=j
   · subst e;exact h1
   have:=ih (by omega) (by omega)
   omega
 exact ⟨h1,h2,h3,fun i hi=>(h i hi).1,fun i hi=>⟨low i hi,(h i hi).2.2.2⟩,up,fun i j nJ hj=>(h j hj).2.1 i nJ⟩
theorem Gj (l:List qT) (k:Nat) (a b:Int):ov [a,b] ((l.take k).map fun x=>[x.2.1,x.2.2])=adc:=by unfold ov;rw [List.all_eq_true];intro x hx;obtain ⟨y,hy,rfl⟩:=M2.1 hx;rfl
theorem Gk (l:List qT) (k:Nat) (x:Int×Int):DP ((l.take k).map fun y=>[y.2.1,y.2.2]) [x.1,x.2]=ado (∃j,j<k/\j<acV l/\(l[j]!).2=x):=by
 unfold DP;rw [abP,List.any_eq_true,decide_eq_true_iff];constructor
 · rintro ⟨y,hy,he⟩
   obtain ⟨z,hz,rfl⟩:=M2.1 hy;obtain ⟨j,h1,h2,rfl⟩:=cH.1 hz;have:[x.1,x.2]=[(l[j]!).2.1,(l[j]!).2.2]:=by simpa using he
   injection this with e1 e2;injection e2 with e2 _;exact ⟨j,h1,h2,IR e1.symm e2.symm⟩
 rintro ⟨j,h1,h2,h3⟩
 refine ⟨[(l[j]!).2.1,(l[j]!).2.2],M2.2 ⟨l[j]!,cH.2 ⟨j,h1,h2,rfl⟩,rfl⟩,?_⟩;rw [h3];simp
theorem u7 (c:bj):pG c=acX (if eE c then 0 else 8):=by
 unfold pG;simp only [az]
 by_cases h1:200<acV c.ce
 · rw [aJ (show (200:Int)<((acV c.ce):Int) by omega),ls (fun h=>by have:=h.len;omega)];rfl
 rw [aF (show¬(200:Int)<((acV c.ce):Int) by omega)]
 by_cases h2:c.aK<0
 · rw [aJ h2,ls (fun h=>by have:=h.n0;omega)];rfl
 rw [aF h2]
 by_cases h3:1000000<c.aK
 · rw [aJ h3,ls (fun h=>by have:=h.n1;omega)];rfl
 rw [aF h3];simp only [lc];have key:=db (body:=qc) (fun i=>(yM c.ce i,c.ce,((acV c.ce):Int),(i:Int),c.aK,c.ce,(c.ce.take i).map fun x=>[x.2.1,x.2.2])) (acV c.ce) (fun i=> ¬NA c i) (r:=8) (e:=0) (fun i hi=>by
  have e1:ado ((i:Int)<((acV c.ce):Int))=adc:=aJ (by omega);have has:Kv ((c.ce.take i).map fun x=>[x.2.1,x.2.2]) [(c.ce[i]!).2.1,(c.ce[i]!).2.2]=acX (ado (∃j,j<i/\j<acV c.ce/\(c.ce[j]!).2=(c.ce[i]!).2)):=by unfold Kv;rw [Gj,Gk];rfl
  have nx:(c.ce.take (i+1)).map (fun x=>[x.2.1,x.2.2])=((c.ce.take i).map fun x=>[x.2.1,x.2.2])++[[(c.ce[i]!).2.1,(c.ce[i]!).2.2]]:=by rw [fv hi,List.map_append];rfl
  have ln:yM c.ce (i+1)=(c.ce[i]!).1:=by unfold yM;rw [ls (by omega),show i+1-1=i by omega]
  unfold qc;simp only [e1,kw,ar c.ce i hi,aq,z5,has,nx,ln,aY (show i<1000000000 by omega)];unfold NA
  by_cases b1:fN (c.ce[i]!).2
  case neg=>rw [aF b1];exact ⟨fun _=>rfl,fun h=>absurd (lw.1 h).1 b1⟩
  rw [aJ b1]
  by_cases b2: ∃j,j<i/\j<acV c.ce/\(c.ce[j]!).2=(c.ce[i]!).2
  · rw [aJ b2]
    refine ⟨fun _=>rfl,fun h=>?_⟩;obtain ⟨j,j1,j2,j3⟩:=b2;exact absurd j3 ((lw.1 h).2.1 j j1)
  rw [aF b2];have b2': ∀j,j<i->(c.ce[j]!).2≠(c.ce[i]!).2:=fun j hj he=>b2 ⟨j,hj,by omega,he⟩
  by_cases b3:(c.ce[i]!).1<=yM c.ce i
  · rw [aJ b3]
    exact ⟨fun _=>rfl,fun h=>absurd (lw.1 h).2.2.1 (by omega)⟩
  rw [aF b3]
  by_cases b4:c.aK<=(c.ce[i]!).1
  · rw [aJ b4]
    exact ⟨fun _=>rfl,fun h=>absurd (lw.1 h).2.2.2 (by omega)⟩
  rw [aF b4];have ins:Kw ((c.ce.take i).map fun x=>[x.2.1,x.2.2]) [(c.ce[i]!).2.1,(c.ce[i]!).2.2]=acX (((c.ce.take i).map fun x=>[x.2.1,x.2.2])++[[(c.ce[i]!).2.1,(c.ce[i]!).2.2]]):=by unfold Kw ME;rw [Gj,Gk,aF b2];rfl
  rw [ins];exact ⟨fun h=>absurd ⟨b1,b2',by omega,by omega⟩ h,fun _=>rfl⟩) (by
  unfold qc;have:ado (((acV c.ce):Int)<((acV c.ce):Int))=adk:=aF (by omega);simp only [this,lc])
 have h0:yM c.ce 0= -1:=rfl;rw [h0] at key
 by_cases ok:eE c
 · rw [lm ok]
   exact key.2 fun i hi=>lw.2 ((eE.iff (by omega) (by omega) (by omega)).1 ok i hi)
 rw [ls ok]
 rw [eE.iff (by omega) (by omega) (by omega)] at ok;obtain ⟨i,h⟩:=ww.1 ok;obtain ⟨hi,hx⟩:=Do.1 h;exact key.1 ⟨i,hi,hx⟩
theorem Ls (c:bj) (i:Nat) (hi:i<acV c.ce) (hl:(acV c.ce)<=200):
 ((∃j,j<i/\(c.ce[j]!).2=(c.ce[i]!).2)->aB fZ ((i:Int),0,c.aK,c.ce,c.ce[i]!)=acX (.done 8))/\
 ((∀j,j<i-> ¬(c.ce[j]!).2=(c.ce[i]!).2)->aB fZ ((i:Int),0,c.aK,c.ce,c.ce[i]!)=acX (.next (((i+1:Nat):Int),c.aK,c.ce))):=by
 refine db (body:=fZ) (fun j=>((i:Int),(j:Int),c.aK,c.ce,c.ce[i]!)) i (fun j=>(c.ce[j]!).2=(c.ce[i]!).2) (r:= .done 8) (e:= .next (((i+1:Nat):Int),c.aK,c.ce)) (fun j hj=>?_) ?_
 · have e1:ado ((j:Int)<(i:Int))=adc:=aJ (by omega)
   unfold fZ;simp only [e1,kw,ar c.ce j (by omega),aq,aY (show j<1000000000 by omega)];generalize c.ce[j]! =x;generalize c.ce[i]! =y;constructor
   · intro h;rw [cV (congrArg acD h),cV (congrArg acH h)];rfl
   intro h
   by_cases h1:x.2.1=y.2.1
   · rw [cV h1,dM (fun h2=>h (IR h1 h2))];rfl
   rw [dM h1];rfl
 unfold fZ
 have:ado ((i:Int)<(i:Int))=adk:=aF (by omega);simp only [this,lc,aY (show i<1000000000 by omega)]
theorem yN (c:bj):qH c=acX (if eE c then 0 else 8):=by
 unfold qH;simp only [az]
 by_cases h1:200<acV c.ce
 · rw [aJ (show (200:Int)<((acV c.ce):Int) by omega),ls (fun h=>by have:=h.len;omega)];rfl
 rw [aF (show¬(200:Int)<((acV c.ce):Int) by omega)]
 by_cases h2:c.aK<0
 · rw [aJ h2,ls (fun h=>by have:=h.n0;omega)];rfl
 rw [aF h2]
 by_cases h3:1000000<c.aK
 · rw [aJ h3,ls (fun h=>by have:=h.n1;omega)];rfl
 rw [aF h3];simp only [lc];have key:=db (body:=oD) (fun i=>((i:Int),c.aK,c.ce)) (acV c.ce) (fun i=> ¬(fN (c.ce[i]!).2/\0<=(c.ce[i]!).1/\(c.ce[i]!).1<c.aK/\(0<i->(c.ce[i-1]!).1<(c.ce[i]!).1)/\ ∀j,j<i-> ¬(c.ce[j]!).2=(c.ce[i]!).2)) (r:=8) (e:=0) (fun i hi=>by
  have e1:ado ((i:Int)<((acV c.ce):Int))=adc:=aJ (by omega);have l1:=Ls c i hi (by omega);unfold oD;simp only [az,e1,kw,ar c.ce i hi,aq,z6]
  by_cases b1:fN (c.ce[i]!).2
  case neg=>rw [aF b1];exact ⟨fun _=>rfl,fun h=>absurd (lw.1 h).1 b1⟩
  rw [aJ b1]
  by_cases b2:(c.ce[i]!).1<0
  · rw [aJ b2]
    exact ⟨fun _=>rfl,fun h=>absurd (lw.1 h).2.1 (by omega)⟩
  rw [aF b2]
  by_cases b3:c.aK<=(c.ce[i]!).1
  · rw [aJ b3]
    exact ⟨fun _=>rfl,fun h=>absurd (lw.1 h).2.2.1 (by omega)⟩
  rw [aF b3];simp only [ut,lc];have go:(0<i->(c.ce[i-1]!).1<(c.ce[i]!).1)->(¬(fN (c.ce[i]!).2/\0<=(c.ce[i]!).1/\(c.ce[i]!).1<c.aK/\(0<i->(c.ce[i-1]!).1<(c.ce[i]!).1)/\ ∀j,j<i-> ¬(c.ce[j]!).2=(c.ce[i]!).2)->aB fZ ((i:Int),0,c.aK,c.ce,c.ce[i]!)=acX (.done 8))/\
   (¬¬(fN (c.ce[i]!).2/\0<=(c.ce[i]!).1/\(c.ce[i]!).1<c.aK/\(0<i->(c.ce[i-1]!).1<(c.ce[i]!).1)/\ ∀j,j<i-> ¬(c.ce[j]!).2=(c.ce[i]!).2)->aB fZ ((i:Int),0,c.aK,c.ce,c.ce[i]!)=acX (.next (((i+1:Nat):Int),c.aK,c.ce))):=by
   intro hp;constructor
   · intro h
     refine l1.1 (Classical.byContradiction fun hx=>h ⟨b1,by omega,by omega,hp,fun j hj he=>hx ⟨j,hj,he⟩⟩)
   intro h
   exact l1.2 (lw.1 h).2.2.2.2
  by_cases b4:0<i
  · have f1:ado ((0:Int)<(i:Int))=adc:=aJ (by omega)
    simp only [f1,kw,sC (show i<1000000000 by omega) b4,ar c.ce (i-1) (by omega),aq]
    by_cases b5:(c.ce[i]!).1<=(c.ce[i-1]!).1
    · rw [aJ b5]
      exact ⟨fun _=>rfl,fun h=>absurd ((lw.1 h).2.2.2.1 b4) (by omega)⟩
    rw [aF b5]
    exact go fun _=>by omega
  · have f1:ado ((0:Int)<(i:Int))=adk:=aF (by omega)
    rw [f1];exact go fun h=>absurd h b4) (by
  unfold oD;have:ado (((acV c.ce):Int)<((acV c.ce):Int))=adk:=aF (by omega);simp only [az,this,lc])
 have same:eE c↔ ∀i,i<acV c.ce->(fN (c.ce[i]!).2/\0<=(c.ce[i]!).1/\(c.ce[i]!).1<c.aK/\(0<i->(c.ce[i-1]!).1<(c.ce[i]!).1)/\ ∀j,j<i-> ¬(c.ce[j]!).2=(c.ce[i]!).2):=by
  constructor
  · intro ok i hi
    exact ⟨ok.cv i hi,(ok.nr i hi).1,(ok.nr i hi).2,fun h=>ok.up (i-1) i (by omega) hi,fun j hj=>ok.nd j i hj hi⟩
  intro h
  rw [eE.iff (by omega) (by omega) (by omega)];intro i hi;obtain ⟨a1,a2,a3,a4,a5⟩:=h i hi;refine ⟨a1,a5,?_,a3⟩;unfold yM;split
  · omega
  exact a4 (by omega)
 by_cases ok:eE c
 · rw [lm ok]
   exact key.2 fun i hi=>lw.2 (same.1 ok i hi)
 rw [ls ok]
 rw [same] at ok;obtain ⟨i,h⟩:=ww.1 ok;obtain ⟨hi,hx⟩:=Do.1 h;exact key.1 ⟨i,hi,hx⟩
def rF (l:List qT) (x:Int×Int):Prop:= ∃i,i<acV l/\(l[i]!).2=x
theorem BQ (l:List qT) (x:Int×Int) (hl:(acV l)<=1000000):cy l x=acX (ado (rF l x)):=by
 unfold cy fS;have key:=jE (body:=dv) (fun i=>(l,x.1,x.2,((acV l):Int),(i:Int))) (acV l) (fun i=>(l[i]!).2=x) (fun i=>(i:Int)) (e:= -1) (fun i hi=>by
  have e1:ado ((i:Int)<((acV l):Int))=adc:=aJ (by omega);unfold dv AG;simp only [e1,kw,ar l i hi,aq,aY (show i<1000000000 by omega)];generalize l[i]! =y;constructor
  · intro h;rw [cV (congrArg acD h),cV (congrArg acH h)];rfl
  · intro h
    by_cases h1:y.2.1=x.1
    · rw [cV h1,dM (fun h2=>h (IR h1 h2))];rfl
    rw [dM h1];rfl) (by
  unfold dv;have:ado (((acV l):Int)<((acV l):Int))=adk:=aF (by omega);simp only [this,lc])
 rw [az]
 by_cases hx:rF l x
 · obtain ⟨k,h1,h2,h3⟩:=least hx
   have:=key.1 k h1 h2 h3;rw [show ((0:Nat):Int)=0 from rfl] at this;rw [this,aJ hx];simp only [aq,aJ (show (0:Int)<=(k:Int) by omega)]
 have:=key.2 fun i hi he=>hx ⟨i,hi,he⟩
 rw [show ((0:Nat):Int)=0 from rfl] at this;rw [this,aF hx];rfl
theorem sO:eB=cy:=rfl
theorem xk (c:bj) (x:Int×Int) (hl:(acV c.ce)<=1000000):sM c x=acX (ado (rF c.ce x)):=by
 unfold sM;have key:=db (body:=si) (fun i=>((i:Int),c.aK,c.ce,x)) (acV c.ce) (fun i=>(c.ce[i]!).2=x) (r:=adc) (e:=adk) (fun i hi=>by
  have e1:ado ((i:Int)<((acV c.ce):Int))=adc:=aJ (by omega);unfold si;simp only [az,e1,kw,ar c.ce i hi,aq,aY (show i<1000000000 by omega)];generalize c.ce[i]! =y;constructor
  · intro h;rw [cV (congrArg acD h),cV (congrArg acH h)];rfl
  · intro h
    by_cases h1:y.2.1=x.1
    · rw [cV h1,dM (fun h2=>h (IR h1 h2))];rfl
    rw [dM h1];rfl) (by
  unfold si;have:ado (((acV c.ce):Int)<((acV c.ce):Int))=adk:=aF (by omega);simp only [az,this,lc])
 by_cases hx:rF c.ce x
 · rw [aJ hx];exact key.1 hx
 rw [aF hx];exact key.2 fun i hi he=>hx ⟨i,hi,he⟩
def nj (c:bj) (x:Int×Int):bj:=⟨c.aK+1,c.ce++[(c.aK,x)]⟩
def z7 (c:bj):Prop:=acV c.ce=200\/c.aK=1000000
theorem Lt {c:bj} (ok:eE c) {x:Int×Int} (hx:fN x):BD c x=acX (if rF c.ce x then (⟨0,[]⟩,0,14) else if z7 c then (⟨0,[]⟩,0,18) else (nj c x,c.aK,0)):=by
 have:=ok.len;have:=ok.n0;have:=ok.n1;unfold BD;rw [u7,lm ok,z5,aJ hx,BQ _ _ (by omega)];simp only [aq,show ((0:Int) !=0)=adk from rfl,lc,ut,az]
 by_cases h1:rF c.ce x
 · rw [aJ h1,lm h1];rfl
 rw [aF h1,ls h1];unfold z7
 by_cases h2:(acV c.ce)=200
 · rw [cV (show ((acV c.ce):Int)=200 by omega),lm (.inl h2)];rfl
 rw [dM (show¬((acV c.ce):Int)=200 by omega)]
 by_cases h3:c.aK=1000000
 · rw [cV h3,lm (.inr h3)];rfl
 rw [dM h3,ls (by omega)];have e:ae .i64 (c.aK+1)=c.aK+1:=by rw [wi];omega
 simp only [lc,bc (show (acV c.ce)<=1048576 by omega),aq,cR (show (acV c.ce)+[(c.aK,x)].length<=1048576 by simp;omega),e];rfl
theorem Jn {c:bj} (ok:eE c) {x:Int×Int} (hx:fN x):zn c x=acX (if rF c.ce x then (⟨0,[]⟩,0,14) else if z7 c then (⟨0,[]⟩,0,18) else (nj c x,c.aK,0)):=by
 have:=ok.len;have:=ok.n0;have:=ok.n1;unfold zn pC;rw [yN,lm ok,z6,aJ hx,xk _ _ (by omega)];simp only [aq,show ((0:Int) !=0)=adk from rfl,lc,ut,az]
 by_cases h1:rF c.ce x
 · rw [aJ h1,lm h1];rfl
 rw [aF h1,ls h1];unfold z7
 by_cases h2:(acV c.ce)=200
 · rw [cV (show ((acV c.ce):Int)=200 by omega),lm (.inl h2)];rfl
 rw [dM (show¬((acV c.ce):Int)=200 by omega)]
 by_cases h3:c.aK=1000000
 · rw [cV h3,lm (.inr h3)];rfl
 rw [dM h3,ls (by omega)];have e:ae .i64 (c.aK+1)=c.aK+1:=by rw [wi];omega
 simp only [lc,bc (show (acV c.ce)<=1048576 by omega),aq,cR (show (acV c.ce)+[(c.aK,x)].length<=1048576 by simp;omega),e];rfl
theorem tp {c:bj} {x:Int×Int} {i:Nat}:(nj c x).ce[i]! =if i<(acV c.ce) then c.ce[i]! else if i=(acV c.ce) then (c.aK,x) else default:=by
 show (c.ce++[(c.aK,x)])[i]! =_
 by_cases h:i<acV c.ce
 · rw [lm h,gL h]
 rw [ls h,kG (by omega)]
 by_cases e:i=acV c.ce
 · rw [lm e,e,abL];rfl
 rw [ls e,getElem!_neg _ _ (by simp;omega)]
theorem zC {c:bj} {x:Int×Int}:(nj c x).ce.length=acV c.ce+1:=by show (c.ce++[(c.aK,x)]).length=_;simp
theorem NB {c:bj} (ok:eE c) {x:Int×Int} (hx:fN x) (hn: ¬rF c.ce x) (hf: ¬z7 c):eE (nj c x):=by
 have h1:=ok.len;have h2:=ok.n0;have h3:=ok.n1;unfold z7 at hf;refine ⟨by rw [zC];omega,by show 0<=c.aK+1;omega,by show c.aK+1<=1000000;omega,?_,?_,?_,?_⟩
 · intro i hi
   rw [zC] at hi;rw [tp]
   by_cases h:i<acV c.ce
   · rw [lm h];exact ok.cv i h
   rw [ls h,lm (by omega)];exact hx
 · intro i hi
   rw [zC] at hi;rw [tp];show 0<=_/\_<c.aK+1
   by_cases h:i<acV c.ce
   · rw [lm h];have:=ok.nr i h;omega
   rw [ls h,lm (by omega)];dsimp only;omega
 · intro i j nJ hj
   rw [zC] at hj;rw [tp,tp,lm (by omega)]
   by_cases h:j<acV c.ce
   · rw [lm h];exact ok.up i j nJ h
   rw [ls h,lm (by omega)]
   exact (ok.nr i (by omega)).2
 intro i j nJ hj
 rw [zC] at hj;rw [tp,tp,lm (by omega)]
 by_cases h:j<acV c.ce
 · rw [lm h];exact ok.nd i j nJ h
 rw [ls h,lm (by omega)]
 exact fun he=>hn ⟨i,by omega,he⟩
def mL (c:bj) (k:Nat):bj:=⟨c.aK,c.ce.eraseIdx k⟩
theorem Eb {α:Type} {l:List α} {k:Nat} (hk:k<acV l):(l.eraseIdx k).length=acV l-1:=by rw [List.length_eraseIdx,lm hk]
theorem Gl {c:bj} (ok:eE c) {k:Nat} (hk:k<acV c.ce):eE (mL c k):=by
 have h1:=ok.len;have len:(mL c k).ce.length=acV c.ce-1:=Eb hk;have cell: ∀i,∃j,i<=j/\j<=i+1/\(i<acV c.ce-1->j<acV c.ce)/\(mL c k).ce[i]! =c.ce[j]!/\(i<k->j=i)/\(k<=i->j=i+1):=by
  intro i
  by_cases h:i<k
  · exact ⟨i,by omega,by omega,by omega,by show (c.ce.eraseIdx k)[i]! =_;rw [xj,lm h],fun _=>rfl,by omega⟩
  exact ⟨i+1,by omega,by omega,by omega,by show (c.ce.eraseIdx k)[i]! =_;rw [xj,ls h],by omega,fun _=>rfl⟩
 refine ⟨by omega,ok.n0,ok.n1,?_,?_,?_,?_⟩
 · intro i hi
   obtain ⟨j,j1,j2,j3,j4,j5,j6⟩:=cell i;rw [j4];exact ok.cv j (j3 (by omega))
 · intro i hi
   obtain ⟨j,j1,j2,j3,j4,j5,j6⟩:=cell i;rw [j4];exact ok.nr j (j3 (by omega))
 · intro i i' nJ hi
   obtain ⟨j,j1,j2,j3,j4,j5,j6⟩:=cell i;obtain ⟨m,m1,m2,m3,m4,m5,m6⟩:=cell i';rw [j4,m4];exact ok.up j m (by omega) (m3 (by omega))
 intro i i' nJ hi
 obtain ⟨j,j1,j2,j3,j4,j5,j6⟩:=cell i;obtain ⟨m,m1,m2,m3,m4,m5,m6⟩:=cell i';rw [j4,m4];exact ok.nd j m (by omega) (m3 (by omega))
theorem yO {c:bj} (ok:eE c) {k:Nat} (hk:k<acV c.ce) {n:Int} (hn:(c.ce[k]!).1=n):uj c n=acX (mL c k,(c.ce[k]!).2,0):=by have h1:=ok.len;unfold uj CL;obtain ⟨L,d1,d2⟩:=uz c.ce k hk;rw [u7,lm ok,(sE c.ce n (by omega) ok.up).1 k hk hn];simp only [aq,show ((0:Int) !=0)=adk from rfl,lc,ut,bc (show (acV c.ce)<=1048576 by omega),aY (show k<1000000000 by omega),d1,ar c.ce k hk,d2];rfl
theorem BS {l:List qT} {k:Nat} (hk:k<acV l) (hs: ∀i j,i<j->j<acV l->(l[i]!).1<(l[j]!).1) {n:Int} (hn:(l[k]!).1=n):l.filter (fun x=>x.1 !=n)=l.eraseIdx k:=by
 rw [tj];have e:l.filter (fun x=>x.1 !=n)=(l.take k++l[k]!::l.drop (k+1)).filter (fun x=>x.1 !=n):=congrArg _ (FU hk);rw [e,abX,List.filter_cons_of_neg (by rw [hn];simp)]
 congr 1
 · rw [abS]
   intro x hx;obtain ⟨i,h1,h2,rfl⟩:=cH.1 hx;have:=hs i k h1 hk;exact dL (by omega)
 rw [abS]
 intro x hx;obtain ⟨i,h1,rfl⟩:=aO.1 hx;rw [abJ] at h1;rw [pL];have:=hs k (k+1+i) (by omega) (by omega);exact dL (by omega)
theorem CY {c:bj} (ok:eE c) {k:Nat} (hk:k<acV c.ce) {n:Int} (hn:(c.ce[k]!).1=n):p6 c n=acX (mL c k):=by
 have h1:=ok.len;unfold p6;have key:=dN (body:=kx) (fun i=>(n,(i:Int),c.aK,c.ce,0,c.aK,(c.ce.take i).filter (fun x=>x.1 !=n))) (acV c.ce) (fun i hi=>by
  have e1:ado ((i:Int)<((acV c.ce):Int))=adc:=aJ (by omega);have nx:(c.ce.take (i+1)).filter (fun x=>x.1 !=n)=(c.ce.take i).filter (fun x=>x.1 !=n)++(if (c.ce[i]!).1 !=n then [c.ce[i]!] else []):=by rw [fv hi,abX,List.filter_cons,List.filter_nil]
  have fl:((c.ce.take i).filter (fun x=>x.1 !=n)).length<=200:=acO (List.length_filter_le _ _) (by rw [AC];omega);unfold kx;simp only [az,e1,kw,ar c.ce i hi,aq,aY (show i<1000000000 by omega),nx]
  by_cases h:(c.ce[i]!).1=n
  · rw [bo h];simp
  rw [dL h]
  simp only [kw,if_true,cR (show ((c.ce.take i).filter (fun x=>x.1 !=n)).length+[c.ce[i]!].length<=1048576 by simp only [ac9,acl];omega),aq])
 have fin:kx (n,((acV c.ce):Int),c.aK,c.ce,0,c.aK,(c.ce.take (acV c.ce)).filter (fun x=>x.1 !=n))=acX (.done (mL c k)):=by unfold kx;have:ado (((acV c.ce):Int)<((acV c.ce):Int))=adk:=aF (by omega);simp only [az,this,lc,List.take_length];rw [BS hk ok.up hn];rfl
 refine Eq.trans ?_ (aA fin);exact key
def gU (l:List Pt) (id:Int):Prop:= ∃k,k<acV l/\(l[k]!).1=id
noncomputable def aW (l:List Pt) (id:Int):Pt:=if h:gU l id then l[h.choose]! else (-1,0,0)
theorem uA {l:List Pt} (hs:fu l) {k:Nat} (hk:k<acV l) {id:Int} (h:(l[k]!).1=id):aW l id=l[k]!:=by have hp:gU l id:=⟨k,hk,h⟩;unfold aW;rw [dif_pos hp];have:=hp.choose_spec;rw [pN hs this.1 hk (by rw [this.2,h])]
theorem eu {l:List Pt} (ok:bG l) {id:Int} (h:gU l id):ff (aW l id)/\(aW l id).1=id:=by obtain ⟨k,hk,he⟩:=h;rw [uA ok.2.2 hk he];exact ⟨ok.2.1 _ (aL hk),he⟩
theorem CZ {l:List Pt} {id:Int} (h: ¬gU l id):aW l id=(-1,0,0):=by unfold aW;rw [dif_neg h]
theorem mu {l:List Pt} (ok:bG l) (id:Int):jB ⟨l⟩ id=acX (aW l id):=by
 have h1:=ok.1;have bs:=sE l id (by omega) (fun i j=>fk ok.2.2);unfold jB;dsimp only;rw [T4]
 by_cases h:gU l id
 · obtain ⟨k,hk,he⟩:=h
   rw [bs.1 k hk he];simp only [aq,ut,lc,ar l k hk,uA ok.2.2 hk he]
 obtain ⟨m,m1,m2,m3,e⟩:=bs.2 (fun k hk he=>h ⟨k,hk,he⟩)
 rw [e,CZ h];rfl
theorem AP {l:List Pt} (ok:bG l) {id:Int} (h:gU l id): ∃k,k<acV l/\fJ ⟨l⟩ id=acX (k:Int)/\l[k]! =aW l id:=by have h1:=ok.1;obtain ⟨k,hk,he⟩:=h;exact ⟨k,hk,zx ok.2.2 (by omega) hk he,(uA ok.2.2 hk he).symm⟩
theorem AQ {l:List Pt} (ok:bG l) {id:Int} (h: ¬gU l id):fJ ⟨l⟩ id=acX (-1):=by have h1:=ok.1;exact abb (by omega) fun k hk he=>h ⟨k,hk,he⟩
def jd (l:List Pt) (x:Int×Int):Prop:=gU l x.1/\gU l x.2
noncomputable def bB (l:List Pt) (x t:Int×Int):(Int×Int)×Bool:=jU (aW l x.2) (aW l x.1) t
theorem u9 {l:List Pt} (ok:bG l) {x t:Int×Int} (hx:fN x) (ht:bA t) (h64:jW t):
 pK ⟨l⟩ x t=acX (if jd l x then ((bB l x t).1,(bB l x t).2,0) else ((0,0),adk,8)):=by
 unfold pK;rw [mu ok,mu ok];simp only [aq,DV h64];have bad: ¬ff (-1,0,0):=by unfold ff;dsimp only;omega
 by_cases h1:gU l x.1
 · by_cases h2:gU l x.2
   · obtain ⟨p1,p2⟩:=eu ok h1
     obtain ⟨q1,q2⟩:=eu ok h2;rw [lm ⟨q1,p1,ht,by rw [p2,q2];exact fun h=>hx.2.2.2.2 h.symm⟩,lm ⟨h1,h2⟩];rfl
   rw [CZ h2,ls (fun h=>bad h.1),ls (fun h=>bad h.1),ls (fun h=>h2 h.2)]
 rw [CZ h1,ls (fun h=>bad h.2.1),ls (fun h=>bad h.2.1),ls (fun h=>h1 h.1)]
theorem vd {l:List Pt} (ok:bG l) {x t:Int×Int} (h64:jW t) (hb:jd l x):pF ⟨l⟩ x t=acX (bB l x t):=by obtain ⟨h1,h2⟩:=hb;obtain ⟨j,j1,j2,j3⟩:=AP ok h1;obtain ⟨k,k1,k2,k3⟩:=AP ok h2;unfold pF;simp only [j2,k2,aq,ar l j j1,ar l k k1,j3,k3,Nq (eu ok h2).1 (eu ok h1).1 h64];rfl
theorem T5 (c:bj) {l:List Pt} (ok:bG l) (hl:(acV c.ce)<=200):uo c ⟨l⟩=acX (ado (∀i,i<acV c.ce->jd l (c.ce[i]!).2)):=by
 unfold uo;have key:=db (body:=oN) (fun i=>((i:Int),c.aK,c.ce,l)) (acV c.ce) (fun i=> ¬jd l (c.ce[i]!).2) (r:=adk) (e:=adc) (fun i hi=>by
  have e1:ado ((i:Int)<((acV c.ce):Int))=adc:=aJ (by omega);unfold oN jd;simp only [az,e1,kw,ar c.ce i hi,aq,aY (show i<1000000000 by omega)]
  by_cases h1:gU l (c.ce[i]!).2.1
  · obtain ⟨k,k1,k2,_⟩:=AP ok h1
    rw [k2];simp only [aq,aF (show¬(k:Int)<0 by omega),lc]
    by_cases h2:gU l (c.ce[i]!).2.2
    · obtain ⟨j,j1,j2,_⟩:=AP ok h2
      rw [j2];simp only [aq,aF (show¬(j:Int)<0 by omega),lc];exact ⟨fun h=>absurd ⟨h1,h2⟩ h,fun _=>trivial⟩
    rw [AQ ok h2]
    exact ⟨fun _=>rfl,fun h=>absurd (lw.1 h).2 h2⟩
  · rw [AQ ok h1]
    exact ⟨fun _=>rfl,fun h=>absurd (lw.1 h).1 h1⟩) (by
  unfold oN;have:ado (((acV c.ce):Int)<((acV c.ce):Int))=adk:=aF (by omega);simp only [az,this,lc])
 by_cases hx: ∀i,i<acV c.ce->jd l (c.ce[i]!).2
 · rw [aJ hx];exact key.2 fun i hi=>lw.2 (hx i hi)
 rw [aF hx]
 obtain ⟨i,h⟩:=ww.1 hx;obtain ⟨hi,hx⟩:=Do.1 h;exact key.1 ⟨i,hi,hx⟩
def aV (l:List Pt) (t:Int×Int) (H:List Ev):List qT->List qT->Prop
 | [],ds=>ds=[]
 |x::cs,ds=>((bB l x.2 t).2=adc-> ∃d yi,ds=d::yi/\d.1=x.1/\((bB l x.2 t).1.1,(bB l x.2 t).1.2,x.1,d.2)∈H/\aV l t H cs yi)/\((bB l x.2 t).2=adk->aV l t H cs ds)
structure aU (c:aH):Prop where
 jk:bA c.ci
 fT:jW c.ci
 iE:bG c.ii.am
 qZ:eE c.ai
 lI:eY c.aa
 C0:(acV c.aa.aj)=200
 hd:(acV c.aa.bv)=acV c.io
 known: ∀i,i<acV c.ai.ce->jd c.ii.am (c.ai.ce[i]!).2
 yP:aV c.ii.am c.ci c.aa.bv c.ai.ce c.io
structure vW (c:aH):Prop where
 fT:jW c.ci
 ag:yJ c.aa
 du:(acV c.io)<=1000000
theorem acF {a:aI} (ok:eY a) (w2:(acV a.aj)=200) (t:Int×Int) (n:Int) (h:Int×Int):
 (0<=h.1/\h.1<200/\0<=a.aj[h.1.toNat]!/\a.bv[(a.aj[h.1.toNat]!).toNat]! =(t.1,t.2,n,h))↔((t.1,t.2,n,h):Ev)∈a.bv:=by
 have wl:=ok.wl;have hu:=ok.so.ul;constructor
 · rintro ⟨h1,h2,h3,h4⟩
   cases hb:a.af.be[h.1.toNat]! with
   |false=>have:=ok.un h.1.toNat (by omega) hb;omega
   |true=>have:=ok.fwd h.1.toNat (by omega) hb;rw [<- h4];exact aL (by omega)
 intro hm
 obtain ⟨w,hw,he⟩:=aO.1 hm;obtain ⟨b1,b2,b3,b4,b5⟩:=ok.back hw;have e:Ev.ix a.bv[w]! =h.1:=by rw [he]
 have e2:Ev.n a.bv[w]! =h.1.toNat:=by rw [he]
 rw [e] at b1 b2;rw [e2] at b5;refine ⟨b1,by omega,by omega,?_⟩;rw [b5,v4,he]
theorem T6 {a:aI} (ok:eY a) {i:Nat} (hi:i<acV a.af.ay) (h:0<=a.aj[i]!):a.aj[i]!<(acV a.bv):=by
 cases hb:a.af.be[i]! with
 |false=>have:=ok.un i hi hb;omega
 |true=>exact (ok.fwd i hi hb).2.1
theorem pR {α:Type} [Inhabited α] {l:List α} {i:Nat} (h:i<acV l):l.drop i=l[i]!::l.drop (i+1):=by rw [getElem!_pos l i h];exact List.drop_eq_getElem_cons h
theorem Lu {c:aH} (jk:bA c.ci) (fT:jW c.ci) (iE:bG c.ii.am) (qZ:eE c.ai) (lI:eY c.aa) (w2:(acV c.aa.aj)=200):
 ∀(d i:Nat) (ds:List qT),acV c.ai.ce-i<=d->i<=acV c.ai.ce->acV ds<=1000000->
  aB cP (ds,c.ai.ce,((acV c.ai.ce):Int),(i:Int),c.ci.1,c.ci.2,c.ii.am,c.ai.aK,c.ai.ce,c.aa.af.ay,c.aa.af.be,c.aa.af.bi,c.aa.bv,c.aa.aj,c.io)=
   acX (.done (if (∀j,i<=j->j<acV c.ai.ce->jd c.ii.am (c.ai.ce[j]!).2)/\aV c.ii.am c.ci c.aa.bv (c.ai.ce.drop i) ds then 0 else 8)):=by
 have hl:=qZ.len;have wl:=lI.wl;have fin: ∀(ds:List qT),aB cP (ds,c.ai.ce,((acV c.ai.ce):Int),((acV c.ai.ce):Int),c.ci.1,c.ci.2,c.ii.am,c.ai.aK,c.ai.ce,c.aa.af.ay,c.aa.af.be,c.aa.af.bi,c.aa.bv,c.aa.aj,c.io)=acX (.done (if ds=[] then 0 else 8)):=by
  intro ds;refine aA ?_;unfold cP;have e1:ado (((acV c.ai.ce):Int)<((acV c.ai.ce):Int))=adk:=aF (by omega);simp only [az,e1,lc];cases ds with
  |nil=>rw [aF (by simp),lm rfl];rfl
  |cons d ds=>rw [aJ (by simp),ls (by simp)];rfl
 intro d
 induction d with
 |zero=>
  intro i ds hd hi U4;have:i=(acV c.ai.ce):=by omega
  subst this;rw [fin ds,aa4];have:((∀j,acV c.ai.ce<=j->j<acV c.ai.ce->jd c.ii.am (c.ai.ce[j]!).2)/\aV c.ii.am c.ci c.aa.bv [] ds)↔ds=[]:=⟨fun h=>h.2,fun h=>⟨fun j h1 h2=>by omega,h⟩⟩
  by_cases h:ds=[]
  · rw [lm h,lm (this.2 h)]
  rw [ls h,ls (fun k=>h (this.1 k))]
 |succ d ih=>
  intro i ds hd hi U4
  by_cases he:i=acV c.ai.ce
  · subst he
    rw [fin ds,aa4];have:((∀j,acV c.ai.ce<=j->j<acV c.ai.ce->jd c.ii.am (c.ai.ce[j]!).2)/\aV c.ii.am c.ci c.aa.bv [] ds)↔ds=[]:=⟨fun h=>h.2,fun h=>⟨fun j h1 h2=>by omega,h⟩⟩
    by_cases h:ds=[]
    · rw [lm h,lm (this.2 h)]
    rw [ls h,ls (fun k=>h (this.1 k))]
  have qY:i<(acV c.ai.ce):=by omega
  have e1:ado ((i:Int)<((acV c.ai.ce):Int))=adc:=aJ (by omega);have hw:=u9 iE (x:=(c.ai.ce[i]!).2) (t:=(c.ci.1,c.ci.2)) (qZ.cv i qY) jk fT;have dr:=pR qY;have all:(∀j,i<=j->j<acV c.ai.ce->jd c.ii.am (c.ai.ce[j]!).2)↔(jd c.ii.am (c.ai.ce[i]!).2/\ ∀j,i+1<=j->j<acV c.ai.ce->jd c.ii.am (c.ai.ce[j]!).2):=by
   constructor
   · intro h;exact ⟨h i (v6 _) qY,fun j h1 h2=>h j (by omega) h2⟩
   rintro ⟨h1,h2⟩ j h3 h4
   by_cases e:j=i
   · rw [e];exact h1
   exact h2 j (by omega) h4
  have sc:=aY (show i<1000000000 by omega)
  by_cases hb:jd c.ii.am (c.ai.ce[i]!).2
  case neg=>rw [ls (fun h=>hb (all.1 h.1).1)];refine aA ?_;unfold cP;simp only [e1,kw,ar c.ai.ce i qY,aq,hw,ls hb];rfl
  rw [lm hb] at hw
  by_cases is:(bB c.ii.am (c.ai.ce[i]!).2 c.ci).2=adc
  case neg=>
   have is':(bB c.ii.am (c.ai.ce[i]!).2 c.ci).2=adk:=by simpa using is
   rw [aM (y:=(ds,c.ai.ce,((acV c.ai.ce):Int),((i+1:Nat):Int),c.ci.1,c.ci.2,c.ii.am,c.ai.aK,c.ai.ce,c.aa.af.ay,c.aa.af.be,c.aa.af.bi,c.aa.bv,c.aa.aj,c.io)) (by unfold cP;simp only [e1,kw,ar c.ai.ce i qY,aq,hw,sc,is',show ((0:Int) !=0)=adk from rfl,lc,NE]),ih (i+1) ds (by omega) (by omega) U4];have same:((∀j,i<=j->j<acV c.ai.ce->jd c.ii.am (c.ai.ce[j]!).2)/\aV c.ii.am c.ci c.aa.bv (c.ai.ce.drop i) ds)↔((∀j,i+1<=j->j<acV c.ai.ce->jd c.ii.am (c.ai.ce[j]!).2)/\aV c.ii.am c.ci c.aa.bv (c.ai.ce.drop (i+1)) ds):=by
    rw [dr,all];constructor
    · rintro ⟨⟨_,h1⟩,h2⟩;exact ⟨h1,h2.2 is'⟩
    rintro ⟨h1,h2⟩;exact ⟨⟨hb,h1⟩,fun h=>absurd h is,fun _=>h2⟩
   simp only [same]
  have stop:(¬((∀j,i<=j->j<acV c.ai.ce->jd c.ii.am (c.ai.ce[j]!).2)/\aV c.ii.am c.ci c.aa.bv (c.ai.ce.drop i) ds))->cP (ds,c.ai.ce,((acV c.ai.ce):Int),(i:Int),c.ci.1,c.ci.2,c.ii.am,c.ai.aK,c.ai.ce,c.aa.af.ay,c.aa.af.be,c.aa.af.bi,c.aa.bv,c.aa.aj,c.io)=acX (.done (.done 8))->aB cP (ds,c.ai.ce,((acV c.ai.ce):Int),(i:Int),c.ci.1,c.ci.2,c.ii.am,c.ai.aK,c.ai.ce,c.aa.af.ay,c.aa.af.be,c.aa.af.bi,c.aa.bv,c.aa.aj,c.io)=
   acX (.done (if (∀j,i<=j->j<acV c.ai.ce->jd c.ii.am (c.ai.ce[j]!).2)/\aV c.ii.am c.ci c.aa.bv (c.ai.ce.drop i) ds then 0 else 8)):=by
   intro h1 h2;rw [ls h1];exact aA h2
  cases ds with
  |nil=>
   refine stop (fun h=>?_) ?_
   · rw [dr] at h
     obtain ⟨d,yi,h1,_⟩:=h.2.1 is;cases h1
   unfold cP
   simp only [e1,kw,ar c.ai.ce i qY,aq,hw,is,show ((0:Int) !=0)=adk from rfl,lc,ut];rfl
  |cons d0 ds=>
   have l0:((((d0::ds).length:Nat):Int)==0)=adk:=dM (by simp;omega);have g0:aE (d0::ds) 0=acX d0:=rfl;have yP: ∀P:Prop,(P↔d0.1=(c.ai.ce[i]!).1/\(((bB c.ii.am (c.ai.ce[i]!).2 c.ci).1.1,(bB c.ii.am (c.ai.ce[i]!).2 c.ci).1.2,(c.ai.ce[i]!).1,d0.2):Ev)∈c.aa.bv)-> ¬P-> ¬((∀j,i<=j->j<acV c.ai.ce->jd c.ii.am (c.ai.ce[j]!).2)/\aV c.ii.am c.ci c.aa.bv (c.ai.ce.drop i) (d0::ds)):=by intro P hP hn h;rw [dr] at h;obtain ⟨d,yi,h1,h2,h3,_⟩:=h.2.1 is;injection h1 with h1 _;subst h1;exact hn (hP.2 ⟨h2,h3⟩)
   by_cases b1:d0.1=(c.ai.ce[i]!).1
   case neg=>refine stop (yP (d0.1=(c.ai.ce[i]!).1/\_) abK (fun h=>b1 h.1)) ?_;unfold cP;simp only [az,e1,kw,ar c.ai.ce i qY,aq,hw,is,show ((0:Int) !=0)=adk from rfl,lc,ut,l0,g0,dL b1]
   have ea:=acF lI w2 (bB c.ii.am (c.ai.ce[i]!).2 c.ci).1 (c.ai.ce[i]!).1 d0.2
   by_cases b2:d0.2.1<0
   · refine stop (yP (d0.1=(c.ai.ce[i]!).1/\_) abK (fun h=>by have:=(ea.2 h.2).1;omega)) ?_
     unfold cP;simp only [az,e1,kw,ar c.ai.ce i qY,aq,hw,is,show ((0:Int) !=0)=adk from rfl,lc,ut,l0,g0,bo b1,aJ b2]
   by_cases b3:200<=d0.2.1
   · refine stop (yP (d0.1=(c.ai.ce[i]!).1/\_) abK (fun h=>by have:=(ea.2 h.2).2.1;omega)) ?_
     unfold cP;simp only [az,e1,kw,ar c.ai.ce i qY,aq,hw,is,show ((0:Int) !=0)=adk from rfl,lc,ut,l0,g0,bo b1,aF b2,aJ b3]
   have gw:=dO (l:=c.aa.aj) (i:=d0.2.1) (by omega) (by omega)
   by_cases b4:c.aa.aj[d0.2.1.toNat]!<0
   · refine stop (yP (d0.1=(c.ai.ce[i]!).1/\_) abK (fun h=>by have:=(ea.2 h.2).2.2.1;omega)) ?_
     unfold cP;simp only [az,e1,kw,ar c.ai.ce i qY,aq,hw,is,show ((0:Int) !=0)=adk from rfl,lc,ut,l0,g0,bo b1,aF b2,aF b3,gw,aJ b4]
   have gh:=dO (l:=c.aa.bv) (i:=c.aa.aj[d0.2.1.toNat]!) (by omega) (T6 lI (by omega) (by omega));have sl:hU (d0::ds) 1 ((((d0::ds).length:Nat):Int))=acX ds:=by unfold hU;rw [lm ⟨by omega,by simp;omega,by omega⟩];simp
   have evq: ∀(e:Ev) (p:Int×Int) (n:Int) (h:Int×Int),((e.1==p.1)&&((e.2.1==p.2)&&((e.2.2.1==n)&&((e.2.2.2.1==h.1)&&(e.2.2.2.2==h.2)))))=ado (e=(p.1,p.2,n,h)):=by
    intro e p n h;rw [abP,decide_eq_true_iff];simp only [ack,beq_iff_eq];constructor
    · rintro ⟨h1,h2,h3,h4,h5⟩
      exact IR h1 (IR h2 (IR h3 (IR h4 h5)))
    intro h;rw [h];exact ⟨rfl,rfl,rfl,rfl,rfl⟩
   have amR:=evq c.aa.bv[(c.aa.aj[d0.2.1.toNat]!).toNat]! (bB c.ii.am (c.ai.ce[i]!).2 c.ci).1 (c.ai.ce[i]!).1 d0.2
   by_cases b5:c.aa.bv[(c.aa.aj[d0.2.1.toNat]!).toNat]! =((bB c.ii.am (c.ai.ce[i]!).2 c.ci).1.1,(bB c.ii.am (c.ai.ce[i]!).2 c.ci).1.2,(c.ai.ce[i]!).1,d0.2)
   case neg=>refine stop (yP (d0.1=(c.ai.ce[i]!).1/\_) abK (fun h=>b5 (ea.2 h.2).2.2.2)) ?_;unfold cP;simp only [az,e1,kw,ar c.ai.ce i qY,aq,hw,is,show ((0:Int) !=0)=adk from rfl,lc,ut,l0,g0,bo b1,aF b2,aF b3,gw,aF b4,gh];rw [amR,aF b5];rfl
   have zF:=ea.1 ⟨by omega,by omega,by omega,b5⟩;rw [aM (y:=(ds,c.ai.ce,((acV c.ai.ce):Int),((i+1:Nat):Int),c.ci.1,c.ci.2,c.ii.am,c.ai.aK,c.ai.ce,c.aa.af.ay,c.aa.af.be,c.aa.af.bi,c.aa.bv,c.aa.aj,c.io)) (by unfold cP;simp only [az,e1,kw,ar c.ai.ce i qY,aq,hw,is,show ((0:Int) !=0)=adk from rfl,lc,ut,l0,g0,bo b1,aF b2,aF b3,gw,aF b4,gh,sl,sc];rw [amR,aJ b5];rfl),ih (i+1) ds (by omega) (by omega) (by simp at U4;omega)];have same:((∀j,i<=j->j<acV c.ai.ce->jd c.ii.am (c.ai.ce[j]!).2)/\aV c.ii.am c.ci c.aa.bv (c.ai.ce.drop i) (d0::ds))↔((∀j,i+1<=j->j<acV c.ai.ce->jd c.ii.am (c.ai.ce[j]!).2)/\aV c.ii.am c.ci c.aa.bv (c.ai.ce.drop (i+1)) ds):=by
    rw [dr,all];constructor
    · rintro ⟨⟨_,h1⟩,h2⟩
      obtain ⟨d,yi,k1,k2,k3,k4⟩:=h2.1 is;injection k1 with k1 k5;subst k5;exact ⟨h1,k4⟩
    rintro ⟨h1,h2⟩
    exact ⟨⟨hb,h1⟩,fun _=>⟨d0,ds,rfl,b1,zF,h2⟩,fun h=>by rw [is] at h;cases h⟩
   simp only [same]
theorem aU.iff {c:aH} (fit:vW c):aU c↔bA c.ci/\bG c.ii.am/\eE c.ai/\eY c.aa/\acV c.aa.aj=200/\acV c.aa.bv=acV c.io/\(∀i,i<acV c.ai.ce->jd c.ii.am (c.ai.ce[i]!).2)/\aV c.ii.am c.ci c.aa.bv c.ai.ce c.io:=
 ⟨fun h=>⟨h.jk,h.iE,h.qZ,h.lI,h.C0,h.hd,h.known,h.yP⟩,fun ⟨h1,h2,h3,h4,h5,h6,h7,h8⟩=>⟨h1,fit.fT,h2,h3,h4,h5,h6,h7,h8⟩⟩
theorem aU.fit {c:aH} (ok:aU c):vW c:=⟨ok.fT,ok.lI.fit,by have:=ok.hd;have:=ok.lI.bd;omega⟩
theorem Lv {c:aH} {n0 n1 n2 n3:Int}:
 aB fq (4,0,c.ci.1,c.ci.2,c.ii.am,c.ai.aK,c.ai.ce,c.aa.af.ay,c.aa.af.be,c.aa.af.bi,c.aa.bv,c.aa.aj,c.io,[n0,n1,n2,n3])=
  if n0=0/\n1=0/\n2=0/\n3=0 then aB fq (4,4,c.ci.1,c.ci.2,c.ii.am,c.ai.aK,c.ai.ce,c.aa.af.ay,c.aa.af.be,c.aa.af.bi,c.aa.bv,c.aa.aj,c.io,[n0,n1,n2,n3]) else acX 8:=by
 have st: ∀(i:Nat) (n:Int),i<4->aE [n0,n1,n2,n3] (i:Int)=acX n->aB fq (4,(i:Int),c.ci.1,c.ci.2,c.ii.am,c.ai.aK,c.ai.ce,c.aa.af.ay,c.aa.af.be,c.aa.af.bi,c.aa.bv,c.aa.aj,c.io,[n0,n1,n2,n3])=
  if n=0 then aB fq (4,((i+1:Nat):Int),c.ci.1,c.ci.2,c.ii.am,c.ai.aK,c.ai.ce,c.aa.af.ay,c.aa.af.be,c.aa.af.bi,c.aa.bv,c.aa.aj,c.io,[n0,n1,n2,n3]) else acX 8:=by
  intro i n hi hg;have e1:ado ((i:Int)<4)=adc:=aJ (by omega)
  by_cases h:n=0
  · rw [lm h]
    refine aM ?_;unfold fq;simp only [e1,kw,hg,aq,bo h,lc,aY (show i<1000000000 by omega)]
  rw [ls h]
  refine aA ?_;unfold fq;simp only [e1,kw,hg,aq,dL h]
 have s0:=st 0 n0 (by omega) rfl;have s1:=st 1 n1 (by omega) rfl;have s2:=st 2 n2 (by omega) rfl;have s3:=st 3 n3 (by omega) rfl;have c0:((0:Nat):Int)=0:=rfl;have c4:((3+1:Nat):Int)=4:=rfl;rw [c0] at s0;rw [c4] at s3;rw [s0]
 by_cases h0:n0=0
 · rw [lm h0,show ((0+1:Nat):Int)=((1:Nat):Int) from rfl,s1]
   by_cases h1:n1=0
   · rw [lm h1,show ((1+1:Nat):Int)=((2:Nat):Int) from rfl,s2]
     by_cases h2:n2=0
     · rw [lm h2,show ((2+1:Nat):Int)=((3:Nat):Int) from rfl,s3]
       by_cases h3:n3=0
       · rw [lm h3,lm ⟨h0,h1,h2,h3⟩]
       rw [ls h3,ls (fun h=>h3 h.2.2.2)]
     rw [ls h2,ls (fun h=>h2 h.2.2.1)]
   rw [ls h1,ls (fun h=>h1 h.2.1)]
 rw [ls h0,ls (fun h=>h0 h.1)]
theorem kI {c:aH} (fit:vW c):gm c=acX (if aU c then 0 else 8):=by
 unfold gm;rw [dD fit.fT,eN,u7,jr _ fit.ag];simp only [aq];have h4:Int.ofNat [if bA c.ci then (0:Int) else 8,ly c.ii.am,if eE c.ai then (0:Int) else 8,if eY c.aa then (0:Int) else 8].length=4:=rfl;rw [h4,Lv];have z: ∀(p:Prop) [Decidable p],(if p then (0:Int) else 8)=0↔p:=fun p _=>by by_cases h:p<;>simp [h]
 simp only [z,dj];have f1:=aU.iff fit
 by_cases ok:bA c.ci/\bG c.ii.am/\eE c.ai/\eY c.aa
 case neg=>rw [ls ok,ls (c:=aU c) (fun h=>ok ⟨h.jk,h.iE,h.qZ,h.lI⟩)]
 obtain ⟨jk,iE,qZ,lI⟩:=ok;rw [lm ⟨jk,iE,qZ,lI⟩]
 by_cases w2:(acV c.aa.aj)=200
 case neg=>rw [ls (c:=aU c) (fun h=>w2 h.C0)];refine aA ?_;unfold fq;simp only [az,aF (show¬(4:Int)<4 by omega),lc,dL (show¬((acV c.aa.aj):Int)=200 by omega),kw]
 by_cases hd:(acV c.aa.bv)=acV c.io
 case neg=>rw [ls (c:=aU c) (fun h=>hd h.hd)];refine aA ?_;unfold fq;simp only [az,aF (show¬(4:Int)<4 by omega),lc,bo (show ((acV c.aa.aj):Int)=200 by omega),dL (show¬((acV c.aa.bv):Int)=((acV c.io):Int) by omega),kw]
 have run:=Lu jk fit.fT iE qZ lI w2 (acV c.ai.ce) 0 c.io (by omega) (by omega) fit.du;rw [abR] at run;have same:((∀j,0<=j->j<acV c.ai.ce->jd c.ii.am (c.ai.ce[j]!).2)/\aV c.ii.am c.ci c.aa.bv c.ai.ce c.io)↔aU c:=by
  rw [f1];constructor
  · rintro ⟨h1,h2⟩;exact ⟨jk,iE,qZ,lI,w2,hd,fun i hi=>h1 i (by omega) hi,h2⟩
  rintro ⟨_,_,_,_,_,_,h1,h2⟩;exact ⟨fun j _ hj=>h1 j hj,h2⟩
 simp only [same] at run;refine aA ?_;unfold fq;simp only [az,aF (show¬(4:Int)<4 by omega),lc,bo (show ((acV c.aa.aj):Int)=200 by omega),bo (show ((acV c.aa.bv):Int)=((acV c.io):Int) by omega)];exact run
theorem abd {a:aI} (ok:eY a) (h:Int×Int):te a h=acX (if uw a.af h then (a.bv[(a.aj[h.1.toNat]!).toNat]!,0) else ((0,0,0,0,0),6)):=by
 unfold te;rw [yK a ok.fit,lm ok,O9 ok.so];simp only [aq,show ((0:Int) !=0)=adk from rfl,lc]
 by_cases lv:uw a.af h
 · obtain ⟨i,hi,hw,hh⟩:=ok.live lv
   have:=lv.1;have:=lv.2.1;have:=ok.wl;rw [aJ lv,lm lv,dO (l:=a.aj) lv.1 (by omega),hw];simp only [ut,lc,aq,ar a.bv i hi,v4]
 rw [aF lv,ls lv];rfl
theorem Lw {c:aH} (fT:jW c.ci) (iE:bG c.ii.am) (qZ:eE c.ai) (lI:eY c.aa) (w2:(acV c.aa.aj)=200) (hdu:(acV c.io)<=1000000)
 (kn: ∀i,i<acV c.ai.ce->jd c.ii.am (c.ai.ce[i]!).2):
 ∀(d i k:Nat),acV c.ai.ce-i<=d->i<=acV c.ai.ce->k<=acV c.io->
  aB dC ((k:Int),(i:Int),c.ci.1,c.ci.2,c.ii.am,c.ai.aK,c.ai.ce,c.aa.af.ay,c.aa.af.be,c.aa.af.bi,c.aa.bv,c.aa.aj,c.io)=
   acX (if aV c.ii.am c.ci c.aa.bv (c.ai.ce.drop i) (c.io.drop k) then 0 else 8):=by
 have hl:=qZ.len;have wl:=lI.wl;have fin: ∀k:Nat,k<=acV c.io->aB dC ((k:Int),((acV c.ai.ce):Int),c.ci.1,c.ci.2,c.ii.am,c.ai.aK,c.ai.ce,c.aa.af.ay,c.aa.af.be,c.aa.af.bi,c.aa.bv,c.aa.aj,c.io)=acX (if aV c.ii.am c.ci c.aa.bv (c.ai.ce.drop (acV c.ai.ce)) (c.io.drop k) then 0 else 8):=by
  intro k hk;rw [aa4];refine aA ?_;unfold dC;have e1:ado (((acV c.ai.ce):Int)<((acV c.ai.ce):Int))=adk:=aF (by omega);simp only [az,e1,lc];have:aV c.ii.am c.ci c.aa.bv [] (c.io.drop k)↔k=(acV c.io):=by show c.io.drop k=[]↔_;rw [ab0];omega
  by_cases h:k=acV c.io
  · rw [lm (this.2 h),bo (by omega)];rfl
  rw [ls (fun x=>h (this.1 x)),dL (by omega)];rfl
 intro d
 induction d with
 |zero=>
  intro i k hd hi hk;have:i=(acV c.ai.ce):=by omega
  subst this;exact fin k hk
 |succ d ih=>
  intro i k hd hi hk
  by_cases he:i=acV c.ai.ce
  · subst he;exact fin k hk
  have qY:i<(acV c.ai.ce):=by omega
  have e1:ado ((i:Int)<((acV c.ai.ce):Int))=adc:=aJ (by omega);have hw:=vd iE (x:=(c.ai.ce[i]!).2) (t:=(c.ci.1,c.ci.2)) fT (kn i qY);have dr:=pR qY;have sc:=aY (show i<1000000000 by omega);have sk:=aY (show k<1000000000 by omega)
  by_cases is:(bB c.ii.am (c.ai.ce[i]!).2 c.ci).2=adc
  case neg=>
   have is':(bB c.ii.am (c.ai.ce[i]!).2 c.ci).2=adk:=by simpa using is
   rw [aM (y:=((k:Int),((i+1:Nat):Int),c.ci.1,c.ci.2,c.ii.am,c.ai.aK,c.ai.ce,c.aa.af.ay,c.aa.af.be,c.aa.af.bi,c.aa.bv,c.aa.aj,c.io)) (by unfold dC;simp only [az,e1,kw,ar c.ai.ce i qY,aq,hw,sc,is',NE]),ih (i+1) k (by omega) (by omega) hk];have same:aV c.ii.am c.ci c.aa.bv (c.ai.ce.drop i) (c.io.drop k)↔aV c.ii.am c.ci c.aa.bv (c.ai.ce.drop (i+1)) (c.io.drop k):=by rw [dr];exact ⟨fun h=>h.2 is',fun h=>⟨fun h'=>absurd h' is,fun _=>h⟩⟩
   simp only [same]
  have stop:(¬aV c.ii.am c.ci c.aa.bv (c.ai.ce.drop i) (c.io.drop k))->dC ((k:Int),(i:Int),c.ci.1,c.ci.2,c.ii.am,c.ai.aK,c.ai.ce,c.aa.af.ay,c.aa.af.be,c.aa.af.bi,c.aa.bv,c.aa.aj,c.io)=acX (.done 8)->
   aB dC ((k:Int),(i:Int),c.ci.1,c.ci.2,c.ii.am,c.ai.aK,c.ai.ce,c.aa.af.ay,c.aa.af.be,c.aa.af.bi,c.aa.bv,c.aa.aj,c.io)=acX (if aV c.ii.am c.ci c.aa.bv (c.ai.ce.drop i) (c.io.drop k) then 0 else 8):=by
   intro h1 h2;rw [ls h1];exact aA h2
  by_cases Q7:k=acV c.io
  · refine stop (fun h=>?_) ?_
    · rw [dr] at h
      obtain ⟨d,yi,h1,_⟩:=h.1 is;rw [Q7,aa4] at h1;cases h1
    unfold dC
    simp only [az,e1,kw,ar c.ai.ce i qY,aq,hw,is,ut,lc,aJ (show ((acV c.io):Int)<=(k:Int) by omega)]
  have Mt:k<(acV c.io):=by omega
  have dk:=pR Mt;have e2:ado (((acV c.io):Int)<=(k:Int))=adk:=aF (by omega);have yP: ¬((c.io[k]!).1=(c.ai.ce[i]!).1/\(((bB c.ii.am (c.ai.ce[i]!).2 c.ci).1.1,(bB c.ii.am (c.ai.ce[i]!).2 c.ci).1.2,(c.ai.ce[i]!).1,(c.io[k]!).2):Ev)∈c.aa.bv)-> ¬aV c.ii.am c.ci c.aa.bv (c.ai.ce.drop i) (c.io.drop k):=by intro hn h;rw [dr,dk] at h;obtain ⟨d,yi,h1,h2,h3,_⟩:=h.1 is;injection h1 with h1 _;subst h1;exact hn ⟨h2,h3⟩
  by_cases b1:(c.io[k]!).1=(c.ai.ce[i]!).1
  case neg=>refine stop (yP (fun h=>b1 h.1)) ?_;unfold dC;simp only [az,e1,kw,ar c.ai.ce i qY,aq,hw,is,ut,lc,e2,ar c.io k Mt,dL b1]
  have fi:=abd lI (c.io[k]!).2;have ea:=acF lI w2 (bB c.ii.am (c.ai.ce[i]!).2 c.ci).1 (c.ai.ce[i]!).1 (c.io[k]!).2;have fi':te (aI.mk (aQ.mk c.aa.af.ay c.aa.af.be c.aa.af.bi) c.aa.bv c.aa.aj) (c.io[k]!).2=_:=fi
  by_cases lv:uw c.aa.af (c.io[k]!).2
  case neg=>
   rw [ls lv] at fi';refine stop (yP (fun h=>lv ?_)) ?_
   · obtain ⟨w,hw',gW⟩:=aO.1 h.2
     have:=(lI.handle hw').1
     rwa [gW] at this
   unfold dC
   simp only [az,e1,kw,ar c.ai.ce i qY,aq,hw,is,ut,lc,e2,ar c.io k Mt,bo b1,fi',show ((6:Int) !=0)=adc from rfl]
  rw [lm lv] at fi';obtain ⟨w,hw1,U5,hw3⟩:=lI.live lv;rw [U5,v4] at fi';have q1:(0<=(c.io[k]!).2.1/\(c.io[k]!).2.1<200/\0<=c.aa.aj[(c.io[k]!).2.1.toNat]!):=⟨lv.1,by have:=lv.2.1;omega,by rw [U5];omega⟩
  by_cases b2:(c.aa.bv[w]!).2.2.1=(c.ai.ce[i]!).1
  case neg=>
   refine stop (yP (fun h=>b2 ?_)) ?_
   · have:=(ea.2 h.2).2.2.2
     rw [U5,v4] at this;rw [this]
   unfold dC
   simp only [az,e1,kw,ar c.ai.ce i qY,aq,hw,is,ut,lc,e2,ar c.io k Mt,bo b1,fi',show ((0:Int) !=0)=adk from rfl,dL b2]
  have teq:((c.aa.bv[w]!).1==(bB c.ii.am (c.ai.ce[i]!).2 c.ci).1.1&&(c.aa.bv[w]!).2.1==(bB c.ii.am (c.ai.ce[i]!).2 c.ci).1.2)=ado (((c.aa.bv[w]!).1,(c.aa.bv[w]!).2.1)=(bB c.ii.am (c.ai.ce[i]!).2 c.ci).1):=by
   rw [abP,decide_eq_true_iff];simp only [ack,beq_iff_eq];constructor
   · rintro ⟨h1,h2⟩;exact IR h1 h2
   intro h;rw [<- h];exact ⟨rfl,rfl⟩
  by_cases b3:((c.aa.bv[w]!).1,(c.aa.bv[w]!).2.1)=(bB c.ii.am (c.ai.ce[i]!).2 c.ci).1
  case neg=>
   refine stop (yP (fun h=>b3 ?_)) ?_
   · have:=(ea.2 h.2).2.2.2
     rw [U5,v4] at this;rw [this]
   unfold dC
   simp only [az,e1,kw,ar c.ai.ce i qY,aq,hw,is,ut,lc,e2,ar c.io k Mt,bo b1,fi',show ((0:Int) !=0)=adk from rfl,bo b2];rw [teq,aF b3];rfl
  have zF:=ea.1 ⟨q1.1,q1.2.1,q1.2.2,by rw [U5,v4];have t1:=congrArg acD b3;have t2:=congrArg acH b3;exact IR t1 (IR t2 (IR b2 hw3))⟩;rw [aM (y:=(((k+1:Nat):Int),((i+1:Nat):Int),c.ci.1,c.ci.2,c.ii.am,c.ai.aK,c.ai.ce,c.aa.af.ay,c.aa.af.be,c.aa.af.bi,c.aa.bv,c.aa.aj,c.io)) (by unfold dC;simp only [az,e1,kw,ar c.ai.ce i qY,aq,hw,is,ut,lc,e2,ar c.io k Mt,bo b1,fi',show ((0:Int) !=0)=adk from rfl,bo b2,sc,sk];rw [teq,aJ b3];rfl),ih (i+1) (k+1) (by omega) (by omega) (by omega)];have same:aV c.ii.am c.ci c.aa.bv (c.ai.ce.drop i) (c.io.drop k)↔aV c.ii.am c.ci c.aa.bv (c.ai.ce.drop (i+1)) (c.io.drop (k+1)):=by
   rw [dr,dk];constructor
   · intro h2
     obtain ⟨d,yi,k1,k2,k3,k4⟩:=h2.1 is;injection k1 with k1 k5;subst k5;exact k4
   intro h2
   exact ⟨fun _=>⟨_,_,rfl,b1,zF,h2⟩,fun h=>by rw [is] at h;cases h⟩
  simp only [same]
theorem Gm {c:aH} (fit:vW c):ur c=acX (if aU c then 0 else 8):=by
 unfold ur;rw [tg fit.fT,mq,yN,yK _ fit.ag];simp only [aq]
 by_cases jk:bA c.ci
 case neg=>rw [ls jk,ls (c:=aU c) (fun h=>jk h.jk)];rfl
 rw [lm jk]
 by_cases iE:bG c.ii.am
 case neg=>rw [dL (fun h=>iE (dj.1 h)),ls (c:=aU c) (fun h=>iE h.iE)];rfl
 rw [bo (dj.2 iE)]
 by_cases qZ:eE c.ai
 case neg=>rw [ls qZ,ls (c:=aU c) (fun h=>qZ h.qZ)];rfl
 rw [lm qZ];have kn:=T5 c.ai iE qZ.len;simp only [show ((0:Int) !=0)=adk from rfl,lc,kn,aq]
 by_cases known: ∀i,i<acV c.ai.ce->jd c.ii.am (c.ai.ce[i]!).2
 case neg=>rw [aF known,ls (c:=aU c) (fun h=>known h.known)];rfl
 rw [aJ known]
 by_cases lI:eY c.aa
 case neg=>rw [ls lI,ls (c:=aU c) (fun h=>lI h.lI)];rfl
 rw [lm lI];simp only [az,show ((0:Int) !=0)=adk from rfl,lc,ut]
 by_cases w2:(acV c.aa.aj)=200
 case neg=>rw [dL (by omega),ls (c:=aU c) (fun h=>w2 h.C0)];rfl
 rw [bo (by omega)]
 by_cases hd:(acV c.aa.bv)=acV c.io
 case neg=>rw [dL (by omega),ls (c:=aU c) (fun h=>hd h.hd)];rfl
 rw [bo (by omega)];have run:=Lw fit.fT iE qZ lI w2 fit.du known (acV c.ai.ce) 0 0 (by omega) (by omega) (by omega);rw [abR,abR] at run;have same:aV c.ii.am c.ci c.aa.bv c.ai.ce c.io↔aU c:=by rw [aU.iff fit];exact ⟨fun h=>⟨jk,iE,qZ,lI,w2,hd,known,h⟩,fun h=>h.2.2.2.2.2.2.2⟩
 simp only [same] at run;simp only [lc];exact run
section
variable {l : List Pt} {t : Int × Int}
theorem aV.iP {H:List Ev} {x:qT} {cs ds:List qT} (h:(bB l x.2 t).2=adc):aV l t H (x::cs) ds↔ ∃d yi,ds=d::yi/\d.1=x.1/\(((bB l x.2 t).1.1,(bB l x.2 t).1.2,x.1,d.2):Ev)∈H/\aV l t H cs yi:=
 ⟨fun k=>k.1 h,fun k=>⟨fun _=>k,fun k'=>(by rw [h] at k';cases k')⟩⟩
theorem aV.gE {H:List Ev} {x:qT} {cs ds:List qT} (h:(bB l x.2 t).2=adk):aV l t H (x::cs) ds↔aV l t H cs ds:=
 ⟨fun k=>k.2 h,fun k=>⟨fun k'=>(by rw [h] at k';cases k'),fun _=>k⟩⟩
theorem aV.mono {H H':List Ev}: ∀{cs ds:List qT},(∀x∈cs,∀e:Ev,e.num=x.1->e∈H->e∈H')->aV l t H cs ds->aV l t H' cs ds
 | [],_,_,h=>h
 |x::cs,ds,hm,h=>by
  have Cr: ∀y∈cs,∀e:Ev,e.num=y.1->e∈H->e∈H':=fun y hy=>hm y (by simp [hy])
  cases hx:(bB l x.2 t).2 with
  |true=>rw [aV.iP hx] at h ⊢;obtain ⟨d,yi,h1,h2,h3,h4⟩:=h;exact ⟨d,yi,h1,h2,hm x (by simp) _ rfl h3,aV.mono Cr h4⟩
  |false=>rw [aV.gE hx] at h ⊢;exact aV.mono Cr h
theorem aV.io {H:List Ev}: ∀{cs ds:List qT},aV l t H cs ds-> ∀d∈ds,∃x∈cs,d.1=x.1/\(bB l x.2 t).2=adc/\(((bB l x.2 t).1.1,(bB l x.2 t).1.2,x.1,d.2):Ev)∈H
 | [],ds,h,d,hd=>by have:ds=[]:=h;subst this;cases hd
 |x::cs,ds,h,d,hd=>by
  cases hx:(bB l x.2 t).2 with
  |true=>
   rw [aV.iP hx] at h;obtain ⟨e,yi,h1,h2,h3,h4⟩:=h;subst h1;rcases abU.1 hd with rfl|hd
   · exact ⟨x,by simp,h2,hx,h3⟩
   obtain ⟨y,hy,k⟩:=aV.io h4 d hd
   exact ⟨y,by simp [hy],k⟩
  |false=>rw [aV.gE hx] at h;obtain ⟨y,hy,k⟩:=aV.io h d hd;exact ⟨y,by simp [hy],k⟩
theorem aV.has {H:List Ev}: ∀{cs ds:List qT},aV l t H cs ds-> ∀x∈cs,(bB l x.2 t).2=adc-> ∃d∈ds,d.1=x.1/\(((bB l x.2 t).1.1,(bB l x.2 t).1.2,x.1,d.2):Ev)∈H
 | [],_,_,x,hx,_=>by cases hx
 |y::cs,ds,h,x,hx,hf=>by
  cases hy:(bB l y.2 t).2 with
  |true=>
   rw [aV.iP hy] at h;obtain ⟨e,yi,h1,h2,h3,h4⟩:=h;subst h1;rcases abU.1 hx with rfl|hx
   · exact ⟨e,by simp,h2,h3⟩
   obtain ⟨d,hd,k⟩:=aV.has h4 x hx hf
   exact ⟨d,by simp [hd],k⟩
  |false=>
   rw [aV.gE hy] at h;rcases abU.1 hx with rfl|hx
   · rw [hf] at hy;cases hy
   exact aV.has h x hx hf
def Up (cs:List qT):Prop:=cs.Pairwise fun x y=>x.1<y.1
theorem qp {cs:List qT}:Up cs↔ ∀i j,i<j->j<acV cs->(cs[i]!).1<(cs[j]!).1:=by
 unfold Up;rw [List.pairwise_iff_getElem];constructor
 · intro h i j nJ hj
   rw [getElem!_pos cs i (by omega),getElem!_pos cs j hj];exact h i j (by omega) hj nJ
 intro h i j hi hj nJ
 have:=h i j nJ hj
 rwa [getElem!_pos cs i hi,getElem!_pos cs j hj] at this
theorem aV.up {H:List Ev}: ∀{cs ds:List qT},aV l t H cs ds->Up cs->Up ds
 | [],ds,h,_=>by have:ds=[]:=h;subst this;exact List.Pairwise.nil
 |x::cs,ds,h,hu=>by
  have B3:=abZ.1 hu;cases hx:(bB l x.2 t).2 with
  |true=>rw [aV.iP hx] at h;obtain ⟨e,yi,h1,h2,h3,h4⟩:=h;subst h1;refine abZ.2 ⟨fun d hd=>?_,aV.up h4 B3.2⟩;obtain ⟨y,hy,k,_⟩:=aV.io h4 d hd;have:=B3.1 y hy;omega
  |false=>rw [aV.gE hx] at h;exact aV.up h B3.2
theorem aV.snoc {H:List Ev}: ∀{cs ds:List qT} {x:qT},aV l t H cs ds->((bB l x.2 t).2=adk->aV l t H (cs++[x]) ds)/\
 (∀d:qT,(bB l x.2 t).2=adc->d.1=x.1->(((bB l x.2 t).1.1,(bB l x.2 t).1.2,x.1,d.2):Ev)∈H->aV l t H (cs++[x]) (ds++[d]))
 | [],ds,x,h=>by have:ds=[]:=h;subst this;refine ⟨fun hx=>(aV.gE hx).2 rfl,fun d hx h1 h2=>(aV.iP hx).2 ⟨d,[],rfl,h1,h2,rfl⟩⟩
 |y::cs,ds,x,h=>by
  cases hy:(bB l y.2 t).2 with
  |true=>rw [aV.iP hy] at h;obtain ⟨e,yi,h1,h2,h3,h4⟩:=h;subst h1;have ih:=aV.snoc (x:=x) h4;refine ⟨fun hx=>(aV.iP hy).2 ⟨e,yi,rfl,h2,h3,ih.1 hx⟩,fun d hx k1 k2=>(aV.iP hy).2 ⟨e,yi++[d],rfl,h2,h3,ih.2 d hx k1 k2⟩⟩
  |false=>rw [aV.gE hy] at h;have ih:=aV.snoc (x:=x) h;exact ⟨fun hx=>(aV.gE hy).2 (ih.1 hx),fun d hx k1 k2=>(aV.gE hy).2 (ih.2 d hx k1 k2)⟩
theorem aV.erase {H:List Ev}: ∀{cs ds:List qT} {i:Nat},aV l t H cs ds->i<acV cs->((bB l (cs[i]!).2 t).2=adk->aV l t H (cs.eraseIdx i) ds)/\
 ((bB l (cs[i]!).2 t).2=adc-> ∃k,k<acV ds/\(ds[k]!).1=(cs[i]!).1/\(((bB l (cs[i]!).2 t).1.1,(bB l (cs[i]!).2 t).1.2,(cs[i]!).1,(ds[k]!).2):Ev)∈H/\aV l t H (cs.eraseIdx i) (ds.eraseIdx k))
 | [],_,i,_,hi=>by cases hi
 |y::cs,ds,0,h,_=>by show ((bB l y.2 t).2=adk->aV l t H cs ds)/\((bB l y.2 t).2=adc-> ∃k,k<acV ds/\(ds[k]!).1=y.1/\(((bB l y.2 t).1.1,(bB l y.2 t).1.2,y.1,(ds[k]!).2):Ev)∈H/\aV l t H cs (ds.eraseIdx k));refine ⟨fun hy=>(aV.gE hy).1 h,fun hy=>?_⟩;obtain ⟨e,yi,h1,h2,h3,h4⟩:=(aV.iP hy).1 h;subst h1;exact ⟨0,by simp,h2,h3,h4⟩
 |y::cs,ds,i+1,h,hi=>by
  have qY:i<(acV cs):=by simpa using hi
  show ((bB l (cs[i]!).2 t).2=adk->aV l t H (y::cs.eraseIdx i) ds)/\((bB l (cs[i]!).2 t).2=adc-> ∃k,k<acV ds/\(ds[k]!).1=(cs[i]!).1/\(((bB l (cs[i]!).2 t).1.1,(bB l (cs[i]!).2 t).1.2,(cs[i]!).1,(ds[k]!).2):Ev)∈H/\aV l t H (y::cs.eraseIdx i) (ds.eraseIdx k));cases hy:(bB l y.2 t).2 with
  |true=>obtain ⟨e,yi,h1,h2,h3,h4⟩:=(aV.iP hy).1 h;subst h1;have ih:=aV.erase (i:=i) h4 qY;refine ⟨fun hx=>(aV.iP hy).2 ⟨e,yi,rfl,h2,h3,ih.1 hx⟩,fun hx=>?_⟩;obtain ⟨k,k1,k2,k3,k4⟩:=ih.2 hx;exact ⟨k+1,by simp;omega,k2,k3,(aV.iP hy).2 ⟨e,yi.eraseIdx k,rfl,h2,h3,k4⟩⟩
  |false=>have h:=(aV.gE hy).1 h;have ih:=aV.erase (i:=i) h qY;refine ⟨fun hx=>(aV.gE hy).2 (ih.1 hx),fun hx=>?_⟩;obtain ⟨k,k1,k2,k3,k4⟩:=ih.2 hx;exact ⟨k,k1,k2,k3,(aV.gE hy).2 k4⟩
end
theorem DD {H:List Ev} {ns:List Int} (hd:ns.Nodup) (hl:(acV H)<=acV ns) (he: ∀n∈ns,∃e∈H,Ev.num e=n): ∀e∈H,Ev.num e∈ns:=by
 have pos: ∀n,n∈ns-> ∃w,w<acV H/\Ev.num H[w]! =n:=fun n hn=>by obtain ⟨e,he,h2⟩:=he n hn;obtain ⟨w,hw,rfl⟩:=aO.1 he;exact ⟨w,hw,h2⟩
 let f:Int->Nat:=fun n=>if h: ∃w,w<acV H/\Ev.num H[w]! =n then h.choose else 0
 have hf: ∀n∈ns,f n<acV H/\Ev.num H[f n]! =n:=fun n hn=>by have h:=pos n hn;show (if h: ∃w,w<acV H/\Ev.num H[w]! =n then h.choose else 0)<_/\Ev.num H[(if h: ∃w,w<acV H/\Ev.num H[w]! =n then h.choose else 0)]! =n;rw [dif_pos h];exact h.choose_spec
 have full:=Dz (n:=acV H) (l:=ns.map f) (zA hd fun x hx y hy h=>by
  have h1:=(hf x hx).2;have h2:=(hf y hy).2;rw [h] at h1;omega) (fun x hx=>by
  obtain ⟨n,hn,rfl⟩:=M2.1 hx;exact (hf n hn).1) (by rw [acx];exact hl)
 intro e hm;obtain ⟨w,hw,rfl⟩:=aO.1 hm;obtain ⟨n,hn,h⟩:=M2.1 (full w hw);rw [<- h,(hf n hn).2];exact hn
theorem Lx {cs:List qT} (h:Up cs):(cs.map fun x=>x.1).Nodup:=by
 refine zA ?_ ?_
 · unfold Up at h
   exact h.imp fun Mg he=>by rw [he] at Mg;omega
 intro x hx y hy he
 obtain ⟨i,hi,rfl⟩:=aO.1 hx;obtain ⟨j,hj,rfl⟩:=aO.1 hy;rcases abH i j with h1|h1|h1
 · have:=qp.1 h i j h1 hj;omega
 · rw [h1]
 have:=qp.1 h j i h1 hi;omega
theorem aU.pS {c:aH} (ok:aU c):Up c.ai.ce:=qp.2 ok.qZ.up
theorem aU.C1 {c:aH} (ok:aU c):Up c.io:=ok.yP.up ok.pS
theorem aU.zH {c:aH} (ok:aU c): ∀e∈c.aa.bv,∃d∈c.io,d.1=Ev.num e:=by have:=DD (H:=c.aa.bv) (Lx ok.C1) (by rw [acx,ok.hd];exact v6 _) (fun n hn=>by obtain ⟨d,hd,rfl⟩:=M2.1 hn;obtain ⟨x,hx,h1,h2,h3⟩:=ok.yP.io d hd;exact ⟨_,h3,h1.symm⟩);intro e he;obtain ⟨d,hd,h⟩:=M2.1 (this e he);exact ⟨d,hd,h⟩
end Go.Proofs.YtfejhjllooomlaaGreat
