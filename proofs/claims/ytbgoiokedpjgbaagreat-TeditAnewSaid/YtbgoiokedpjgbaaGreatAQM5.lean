/- Plain laws (5). -/
import Derived.Test.YtbgoiokedpjgbaaGreatAQM4
import Derived.Test.YtbgoiokedpjgbaaGreatAQS2
import Derived.Test.YtbgoiokedpjgbaaGreatAVm4
import Derived.Test.YtbgoiokedpjgbaaGreatAVm3
open List renaming replicate->pp,length_append->rc,length_set->ut,length_singleton->v6,length_replicate->ww,length_take->EQ,append_nil->If,length_map->IR,take_length->M2,take_append_of_le_length->NE,mem_replicate->UV,length_eq_zero_iff->ad5,length_filter_le->adc,filter_append->adz,perm_ext_iff_of_nodup->adA,pairwise_iff_getElem->adB,filter_cons_of_pos->adH,filter_cons_of_neg->adI,take_of_length_le->adK,mem_append->adL,append_assoc->ae8,length_drop->aeh,getElem_map->aei,filter_nil->aej,mem_map->aez,length->aeD
open Bool renaming not_true->AC,not_false->ad6,and_self->adG,true->aeF,false->aeK
open Nat renaming le_refl->Do,div_div_eq_div_mul->ad9,zero_le->adC,lt_trichotomy->adF,pow_succ->adJ,pow_le_pow_right->adN,not_lt_zero->ael,mul_comm->aet,pow_zero->aev,sub_self->aex,lt_or_ge->aey
open Classical renaming byContradiction->PP,not_imp->adQ,not_not->ae7
open Int renaming ofNat->acl,mul_right_comm->ady,toNat_natCast->aeb,not_lt->aem
open List.Perm renaming refl->adP
open Option renaming some->aeE
open Decidable renaming decide->aeS
namespace Go.Proofs.YtbgoiokedpjgbaaGreat
open Go.Vm Classical
structure HI (p w:List Int):Prop where
 one:1<=aeD p
 fa:(aeD p)<=64
 len:(aeD w)+1=aeD p
 once:zS p
 Qg: ∀x∈p,-1<=x/\x<=65535
 cho:vA p w
 none_: ∀i,i<aeD w->w[i]!<0->aX p w (2*i+1)<0/\aX p w (2*i+2)<0
def Kr (p w:List Int) (i:Nat):Prop:=(w[i]! =aX p w (2*i+1)\/w[i]! =aX p w (2*i+2))/\ ¬(w[i]!<0/\(0<=aX p w (2*i+1)\/0<=aX p w (2*i+2)))
def R7 (p w:List Int) (i:Nat):Prop:=(w[i]! =aX p w (2*i+1)\/w[i]! =aX p w (2*i+2))/\ ¬(w[i]! = -1/\(aX p w (2*i+1)≠ -1\/aX p w (2*i+2)≠ -1))
def HJ (p:List Int) (i:Nat):Prop:= -1<=p[i]!/\p[i]!<=65535
def G5 (p:List Int) (i:Nat):Prop:= ∀j,j<i->p[j]! =p[i]!->p[i]!<0
theorem Ct {p:List Int}:(∀i,i<aeD p->G5 p i)↔zS p:=
 ⟨fun h i j lL hj e=>by rw [e];exact h j hj i lL e,fun h i hi j hj e=>by have:=h j i hj hi e;rw [e] at this;exact this⟩
theorem Kt {p:List Int}:(∀i,i<aeD p->HJ p i)↔ ∀x∈p,-1<=x/\x<=65535:=(y4 (P:=fun x=> -1<=x/\x<=65535)).symm
theorem VI {p w:List Int} (h1:1<=aeD p) (h64:(aeD p)<=64) (hl:(aeD w)+1=aeD p):
 HI p w↔(∀i,i<aeD p->G5 p i)/\(∀i,i<aeD p->HJ p i)/\ ∀i,i<aeD w->Kr p w i:=by
 rw [Ct,Kt];constructor
 · intro h
   refine ⟨h.once,h.Qg,fun i hi=>⟨h.cho i hi,fun ⟨a,b⟩=>?_⟩⟩;have:=h.none_ i hi a;omega
 rintro ⟨a,b,c⟩
 exact ⟨h1,h64,hl,a,b,fun i hi=>(c i hi).1,fun i hi h0=>by have:=(c i hi).2;omega⟩
theorem MM {p w:List Int} (hl:(aeD w)+1=aeD p) (hr: ∀x∈p,-1<=x/\x<=65535):(∀i,i<aeD w->Kr p w i)↔ ∀i,i<aeD w->R7 p w i:=by
 constructor<;>intro h i hi
 · have hc:vA p w:=fun i hi=>(h i hi).1
   have a1:=hr _ (gK hl hc (i:=2*i+1) (by omega));have a2:=hr _ (gK hl hc (i:=2*i+2) (by omega));obtain ⟨b1,b2⟩:=h i hi;exact ⟨b1,by omega⟩
 have hc:vA p w:=fun i hi=>(h i hi).1
 have a1:=hr _ (gK hl hc (i:=2*i+1) (by omega));have a2:=hr _ (gK hl hc (i:=2*i+2) (by omega));obtain ⟨b1,b2⟩:=h i hi;exact ⟨b1,by omega⟩
theorem alb {p q:Prop} [Decidable p] [Decidable q] [Decidable (p/\q)] {a b:Int}:(if p then (if q then a else b) else b)=if p/\q then a else b:=by
 by_cases hp:p
 · rw [ls hp];exact Cq ⟨fun h=>⟨hp,h⟩,fun h=>h.2⟩
 rw [lw hp,lw (fun h=>hp h.1)]
theorem wz (p w:List Int) (hl:(aeD p)<=1000) (wl:(aeD w)<=1000):jz ⟨p,w⟩=aeE (if HI p w then 0 else 8):=by
 unfold jz;simp only [aA]
 by_cases h1:((aeD p):Int)<1
 · rw [aE h1,lc,lw (fun h=>by have:=h.one;omega)]
 rw [aC h1,lm]
 by_cases h2:(64:Int)<((aeD p):Int)
 · rw [aE h2,lc,lw (fun h=>by have:=h.fa;omega)]
 rw [aC h2,lm,nq (by omega) (by omega)]
 by_cases h3:(aeD w)+1=aeD p
 case neg=>rw [cS (by omega),lc,lw (fun h=>h3 h.len)]
 rw [bB (by omega),lm];have l1:=nK (body:=iG) (fun i=>(w,((aeD w):Int),(i:Int),p,w)) (aeD w) (Kr p w) (r:= .done (.done 8)) (e:= .done (.done 0)) (fun i hi=>by
  unfold iG Kr;have k1:=nL (i:=i) (by omega) 1 (by omega);have k2:=nL (i:=i) (by omega) 2 (by omega);simp only [aE (show (i:Int)<((aeD w):Int) by omega),lc,ax w i hi,aj,show aa .i64 (aa .i64 (2*(i:Int))+1)=((2*i+1:Nat):Int) from k1,show aa .i64 (aa .i64 (2*(i:Int))+2)=((2*i+2:Nat):Int) from k2,
   k9 (p:=p) (w:=w) (i:=2*i+1) (by omega) (by omega),k9 (p:=p) (w:=w) (i:=2*i+2) (by omega) (by omega),aV (show i<1000000000 by omega)]
  generalize aX p w (2*i+1)=x;generalize aX p w (2*i+2)=y;generalize w[i]! =v
  by_cases a1:v=x
  · rw [bB a1,lm]
    by_cases a3:v<0
    · rw [aE a3,lc]
      by_cases a4:0<=(if y>x then y else x)
      · rw [aE a4,lc]
        exact ⟨fun _=>rfl,fun h=>by split at a4<;>omega⟩
      rw [aC a4,lm]
      exact ⟨fun h=>by split at a4<;>omega,fun _=>rfl⟩
    rw [aC a3,lm]
    exact ⟨fun h=>by omega,fun _=>rfl⟩
  · rw [cS a1,lc]
    by_cases a2:v=y
    · rw [bB a2,lm]
      by_cases a3:v<0
      · rw [aE a3,lc]
        by_cases a4:0<=(if y>x then y else x)
        · rw [aE a4,lc]
          exact ⟨fun _=>rfl,fun h=>by split at a4<;>omega⟩
        rw [aC a4,lm]
        exact ⟨fun h=>by split at a4<;>omega,fun _=>rfl⟩
      rw [aC a3,lm]
      exact ⟨fun h=>by omega,fun _=>rfl⟩
    rw [cS a2,lc]
    exact ⟨fun _=>rfl,fun h=>by omega⟩) (by
  unfold iG;simp only [aC (show¬((aeD w):Int)<((aeD w):Int) by omega),lm])
 have l1':ay iG (w,((aeD w):Int),0,p,w)=aeE (.done (.done (if∀i,i<aeD w->Kr p w i then 0 else 8))):=by
  refine (show _=_ from l1).trans ?_
  by_cases h: ∀i,i<aeD w->Kr p w i
  · rw [ls h,ls h]
  rw [lw h,lw h]
 have l2: ∀m,ay iH (p,((aeD p):Int),0,p,w,m)=aeE (.done (if (∀i,i<aeD p->HJ p i)/\ ∀i,i<aeD w->Kr p w i then 0 else 8)):=fun m=>by
  have l2:=nK (body:=iH) (fun i=>(p,((aeD p):Int),(i:Int),p,w,m)) (aeD p) (HJ p) (r:= .done 8) (e:= .done (if∀i,i<aeD w->Kr p w i then 0 else 8)) (fun i hi=>by
   unfold iH rA HJ;simp only [aE (show (i:Int)<((aeD p):Int) by omega),lc,ax p i hi,aj,aV (show i<1000000000 by omega)];generalize p[i]! =v
   by_cases a1: -1<=v
   · rw [aE a1,lc,aj]
     by_cases a2:v<=65535
     · rw [aE a2];exact ⟨fun h=>absurd ⟨a1,a2⟩ h,fun _=>rfl⟩
     rw [aC a2]
     refine ⟨fun _=>?_,fun h=>absurd h.2 a2⟩;rw [aE (show (0:Int)<=(i:Int) by omega)];rfl
   · rw [aC a1,lm,aj]
     refine ⟨fun _=>?_,fun h=>absurd h.1 a1⟩;rw [aE (show (0:Int)<=(i:Int) by omega)];rfl) (by
   unfold iH;simp only [aC (show¬((aeD p):Int)<((aeD p):Int) by omega),lm,aA,l1'])
  refine (show _=_ from l2).trans ?_
  by_cases h: ∀i,i<aeD p->HJ p i
  · rw [ls h];congr 2;exact Cq ⟨fun k=>⟨h,k⟩,fun k=>k.2⟩
  rw [lw h,lw (fun k=>h k.1)]
 have l3:=nK (body:=mF) (fun i=>(p,((aeD p):Int),(i:Int),p,w,G3 p i)) (aeD p) (G5 p) (r:=8) (e:=if (∀i,i<aeD p->HJ p i)/\ ∀i,i<aeD w->Kr p w i then 0 else 8) (fun i hi=>by
  unfold mF;simp only [aE (show (i:Int)<((aeD p):Int) by omega),lc,ax p i hi,aj,G4,aV (show i<1000000000 by omega)]
  by_cases a:G5 p i
  · rw [aC (show¬(0<=p[i]!/\ ∃j,j<i/\p[j]! =p[i]!) from fun ⟨h0,j,hj,e⟩=>by have:=a j hj e;omega)]
    exact ⟨fun h=>absurd a h,fun _=>rfl⟩
  · rw [aE (show 0<=p[i]!/\ ∃j,j<i/\p[j]! =p[i]! from by
     unfold G5 at a;obtain ⟨j,hj⟩:=Classical.not_forall.1 a;obtain ⟨hj,h⟩:=adQ.1 hj;obtain ⟨h,h0⟩:=adQ.1 h;exact ⟨by omega,j,hj,h⟩)]
    refine ⟨fun _=>?_,fun h=>absurd h a⟩;rw [aE (show (0:Int)<=(i:Int) by omega)];rfl) (by
  unfold mF;simp only [aC (show¬((aeD p):Int)<((aeD p):Int) by omega),lm,aA,l2])
 refine (show _=_ from l3).trans ?_;rw [Cq (VI (by omega) (by omega) h3)]
 congr 1
 exact alb
theorem G6 (p:List Int) (hl:(aeD p)<=1000):yO p=aeE (!aeS (zS p)):=by
 have l2:=nK (body:=oX) (fun i=>(p,(i:Int))) (aeD p) (G5 p) (r:=aeF) (e:=aeK) (fun i hi=>by
  have l1:=nK (body:=oW) (fun j=>(p,(i:Int),(j:Int))) i (fun j=>p[j]! =p[i]!->p[i]!<0) (r:= .done aeF) (e:= .next (p,((i+1:Nat):Int))) (fun j hj=>by
   unfold oW;simp only [aE (show (j:Int)<(i:Int) by omega),lc,ax p i hi,ax p j (by omega),aj,aV (show j<1000000000 by omega)]
   by_cases a:0<=p[i]!
   · rw [aE a,lc]
     by_cases b:p[j]! =p[i]!
     · rw [dp b];exact ⟨fun _=>rfl,fun h=>by have:=h b;omega⟩
     rw [dR b];exact ⟨fun h=>absurd (fun k=>absurd k b) h,fun _=>rfl⟩
   · rw [aC a,lm]
     exact ⟨fun h=>absurd (fun _=>by omega) h,fun _=>rfl⟩) (by
   unfold oW;simp only [aC (show¬(i:Int)<(i:Int) by omega),lm,aV (show i<1000000000 by omega)])
  have l1:=(show _=_ from l1);unfold oX;simp only [aA,aE (show (i:Int)<((aeD p):Int) by omega),lc]
  by_cases a:G5 p i
  · rw [ls (show∀j,j<i->p[j]! =p[i]!->p[i]!<0 from a)] at l1
    exact ⟨fun h=>absurd a h,fun _=>l1⟩
  · rw [lw (show¬ ∀j,j<i->p[j]! =p[i]!->p[i]!<0 from a)] at l1
    exact ⟨fun _=>l1,fun h=>absurd h a⟩) (by
  unfold oX;simp only [aA,aC (show¬((aeD p):Int)<((aeD p):Int) by omega),lm])
 refine (show _=_ from l2).trans ?_
 by_cases h:zS p
 · rw [ls (Ct.2 h),aE h];rfl
 rw [lw (fun k=>h (Ct.1 k)),aC h];rfl
theorem G7 (p w:List Int) (hl:(aeD p)<=1000) (wl:(aeD w)<=1000):qU ⟨p,w⟩=aeE (if HI p w then 0 else 8):=by
 unfold qU;simp only [aA]
 by_cases h1:((aeD p):Int)<1
 · rw [aE h1,lc,lw (fun h=>by have:=h.one;omega)]
 rw [aC h1,lm]
 by_cases h2:(64:Int)<((aeD p):Int)
 · rw [aE h2,lc,lw (fun h=>by have:=h.fa;omega)]
 rw [aC h2,lm,nq (by omega) (by omega)]
 by_cases h3:(aeD w)+1=aeD p
 case neg=>rw [cS (by omega),lc,lw (fun h=>h3 h.len)]
 rw [bB (by omega),lm,G6 p hl,aj]
 by_cases ho:zS p
 case neg=>rw [aC ho,lw (fun h=>ho h.once)];rfl
 rw [aE ho,AC,lm];have l1:=nK (body:=mj) (fun i=>((i:Int),p,w)) (aeD w) (R7 p w) (r:= .done 8) (e:= .done 0) (fun i hi=>by
  unfold mj R7;have k1:=nL (i:=i) (by omega) 1 (by omega);have k2:=nL (i:=i) (by omega) 2 (by omega);simp only [aA,aE (show (i:Int)<((aeD w):Int) by omega),lc,ax w i hi,aj,show aa .i64 (aa .i64 (2*(i:Int))+1)=((2*i+1:Nat):Int) from k1,show aa .i64 (aa .i64 (2*(i:Int))+2)=((2*i+2:Nat):Int) from k2,
   om (p:=p) (w:=w) (i:=2*i+1) (by omega) (by omega),om (p:=p) (w:=w) (i:=2*i+2) (by omega) (by omega),aV (show i<1000000000 by omega)]
  generalize aX p w (2*i+1)=x;generalize aX p w (2*i+2)=y;generalize w[i]! =v
  by_cases a1:v=x
  · rw [bB a1,lm]
    by_cases a3:v= -1
    · rw [dp a3,lc]
      by_cases a4:x= -1
      · rw [bB a4,lm]
        by_cases a5:y= -1
        · rw [bB a5,lm];exact ⟨fun h=>by omega,fun _=>rfl⟩
        rw [cS a5,lc];exact ⟨fun _=>rfl,fun h=>by omega⟩
      rw [cS a4,lc];exact ⟨fun _=>rfl,fun h=>by omega⟩
    rw [dR a3,lm];exact ⟨fun h=>by omega,fun _=>rfl⟩
  · rw [cS a1,lc]
    by_cases a2:v=y
    · rw [bB a2,lm]
      by_cases a3:v= -1
      · rw [dp a3,lc]
        by_cases a4:x= -1
        · rw [bB a4,lm]
          by_cases a5:y= -1
          · rw [bB a5,lm];exact ⟨fun h=>by omega,fun _=>rfl⟩
          rw [cS a5,lc];exact ⟨fun _=>rfl,fun h=>by omega⟩
        rw [cS a4,lc];exact ⟨fun _=>rfl,fun h=>by omega⟩
      rw [dR a3,lm];exact ⟨fun h=>by omega,fun _=>rfl⟩
    rw [cS a2,lc]
    exact ⟨fun _=>rfl,fun h=>by omega⟩) (by
  unfold mj;simp only [aA,aC (show¬((aeD w):Int)<((aeD w):Int) by omega),lm])
 have l1':ay mj (0,p,w)=aeE (.done (if∀i,i<aeD w->R7 p w i then 0 else 8)):=by
  refine (show _=_ from l1).trans ?_
  by_cases h: ∀i,i<aeD w->R7 p w i
  · rw [ls h,ls h]
  rw [lw h,lw h]
 have l2:=nK (body:=oY) (fun i=>(((aeD p):Int),(i:Int),p,w)) (aeD p) (HJ p) (r:=8) (e:=if∀i,i<aeD w->R7 p w i then 0 else 8) (fun i hi=>by
  unfold oY HJ;simp only [aE (show (i:Int)<((aeD p):Int) by omega),lc,ax p i hi,aj,aV (show i<1000000000 by omega)];generalize p[i]! =v
  by_cases a1:v< -1
  · rw [aE a1];exact ⟨fun _=>rfl,fun h=>by omega⟩
  · rw [aC a1,lm]
    by_cases a2:65535<v
    · rw [aE a2];exact ⟨fun _=>rfl,fun h=>by omega⟩
    rw [aC a2];exact ⟨fun h=>by omega,fun _=>rfl⟩) (by
  unfold oY;simp only [aC (show¬((aeD p):Int)<((aeD p):Int) by omega),lm,l1'])
 refine (show _=_ from l2).trans ?_;rw [Cq (VI (by omega) (by omega) h3)]
 congr 1
 by_cases hr: ∀i,i<aeD p->HJ p i
 · rw [ls hr]
   exact Cq ⟨fun h=>⟨Ct.2 ho,hr,(MM h3 (Kt.1 hr)).2 h⟩,fun h=>(MM h3 (Kt.1 hr)).1 h.2.2⟩
 rw [lw hr,lw (fun h=>hr h.2.1)]
def R8 (c:aK) (to:Int×Int):Prop:=0<aeD c.ae.bv/\kO (Ev.at c.ae.bv[0]!) to<=0
theorem G8 {c:aK} (ok:aY c) {to:Int×Int} (rt:bK to) (kS:lM to) (le: ¬kO to c.ci<0):qV c to=aeE (aeS (R8 c to),0):=by
 unfold qV;rw [kv ok.fit,ls ok,aj,dZ kS,ls rt,aj,bB (by decide),lm,Gg kS ok.fM,ls ⟨rt,ok.lK⟩,aj,aC le,lm];unfold A7;rw [jf _ ok.fit.ag,ls ok.lD,aj,bB rfl,lm]
 by_cases h:0<aeD c.ae.bv
 · have ev:=ok.lD.ev 0 h
   have g:=ax c.ae.bv 0 h;rw [show ((0:Nat):Int)=0 from rfl] at g;rw [dR (by rw [aA];omega),lm,g,aj,aj,bB rfl,lm,Gg ev.2.1 kS,ls ⟨ev.1,rt⟩,aj]
   congr 2
   by_cases h2:kO (Ev.at c.ae.bv[0]!) to<=0
   · rw [aE (show R8 c to from ⟨h,h2⟩),aE h2]
   rw [aC (fun k:R8 c to=>h2 k.2),aC h2]
 rw [dp (by rw [aA];omega),lc,aj,aC (fun k:R8 c to=>h k.1)]
 rfl
theorem MN {c:bF} (ok:eW c) {i:Nat} (hi:i<aeD c.ce):L' c (c.ce[i]!).1=aeE (i:Int):=by
 have hl:=ok.len;have k:=iD (body:=uI) (fun j=>((c.ce[i]!).1,(j:Int),c.aN,c.ce)) (aeD c.ce) (fun j=>(c.ce[j]!).1=(c.ce[i]!).1) (fun j=>(j:Int)) (e:= -1) (fun j hj=>by
  unfold uI;simp only [aA,aE (show (j:Int)<((aeD c.ce):Int) by omega),lc,ax c.ce j hj,aj,aV (show j<1000000000 by omega)];refine ⟨fun h=>?_,fun h=>?_⟩
  · rw [dp h];rfl
  · rw [dR h];rfl) (by
  unfold uI;simp only [aA,aC (show¬((aeD c.ce):Int)<((aeD c.ce):Int) by omega),lm])
 exact k.1 i hi rfl fun j hj e=>by have:=ok.up j i hj hi;omega
abbrev atT (c:aK) (t:Int×Int):aK:=⟨t,c.ii,c.ai,c.ae,c.io⟩
theorem VJ {c:aK} (ok:aY c) {to:Int×Int} (rt:bK to) (kS:lM to) (le: ¬kO to c.ci<0) (io:R8 c to):
 ∃(x:Int×Int) (c1:aK),pO c to=aeE (c1,c.ae.bv[0]!,x,0)/\B' c=aeE (c1,c.ae.bv[0]!,x)/\aY c1/\c1.ii=c.ii/\iX c.ii.am x/\mP c1=mP c+1/\c1.ci=Ev.at c.ae.bv[0]!:=by
 obtain ⟨i,c',hi,num,r1,r2,Ba,hf,hc,_⟩:=OR ok io.1;have g:=ax c.ae.bv 0 io.1;rw [show ((0:Nat):Int)=0 from rfl] at g;have zV:(aeD c'.ai.ce)=aeD c.ai.ce-1:=by rw [hc];exact List.length_eraseIdx_of_lt hi
 have hcn:c'.ai.aN=c.ai.aN:=by rw [hc];rfl
 refine ⟨(c.ai.ce[i]!).2,atT c' (Ev.at c.ae.bv[0]!),?_,?_,Ba,hf,ok.known i hi,?_,rfl⟩
 · unfold pO
   rw [G8 ok rt kS le,aj,dp rfl,lc,aE io,AC,lm,bB rfl,lm,g,aj,r1,aj,bB rfl,lm]
 · unfold B'
   rw [g,aj,show (c.ae.bv[0]!).2.2.1=(c.ai.ce[i]!).1 from num.symm,MN ok.sM hi,aj,ax c.ai.ce i hi,aj,num,r2,aj]
 unfold mP
 show c'.ai.aN- ((aeD c'.ai.ce):Int)=_;rw [zV,hcn];omega
theorem VK {c:aK} (ok:aY c) {to:Int×Int} (rt:bK to) (kS:lM to) (le: ¬kO to c.ci<0) (io: ¬R8 c to):pO c to=aeE (eA,(0,0,0,0,0),(0,0),6):=by unfold pO;rw [G8 ok rt kS le,aj,dp rfl,lc,aC io];rfl
theorem adf {c:aK} (ok:aY c) {to:Int×Int} (rt:bK to) (kS:lM to) (le: ¬kO to c.ci<0) (io: ¬R8 c to):xm c to=aeE (atT c to,0):=by unfold xm;rw [G8 ok rt kS le,aj,dp rfl,lc,aC io,lm,bB rfl,lm,jF ok,aj]
theorem Ku {c:aK} (ok:aY c): -200<=mP c/\mP c<=1000000:=by have h1:=ok.sM.len;have h2:=ok.sM.n0;have h3:=ok.sM.n1;unfold mP;omega
theorem adg {h l:Pt} {t t':Int×Int} (hh:eY h) (hl:eY l) (r:bK t) (r':bK t') (le:t.1*t'.2<=t'.1*t.2) (nf:(k8 h l t).2=aeF->t'.1*(k8 h l t).1.2<(k8 h l t).1.1*t'.2): ¬leads l h t':=by
 unfold k8 at nf
 by_cases h1:leads l h t
 · rw [ls h1] at nf
   have:=nf rfl;dsimp only at this;omega
 rw [lw h1] at nf
 by_cases h2:h.2.2<l.2.2
 · rw [ls h2] at nf
   obtain ⟨_,m1,m2,m3⟩:=Dm hh hl (show h.2.2≠l.2.2 by omega);have up:=nf rfl;dsimp only at up;intro h3;have g:0<=Gi l h t':=by rcases h3 with k|k<;>omega
   rw [Cp] at g;generalize met h l=m at*;have d:=m1.1;have hB:0<l.2.2-h.2.2:=by omega
   generalize l.2.2-h.2.2=B at*;generalize hA:h.2.1-l.2.1=A at*;have g2:A*t'.2<=B*t'.1:=by
    have:(l.2.1-h.2.1)*t'.2= -(A*t'.2):=by rw [<- Int.neg_mul];congr 1;omega
    omega
   have g3:m.1*t'.2*B<=t'.1*m.2*B:=by
    have e1:m.1*t'.2*B=A*t'.2*m.2:=by rw [ady,m3,ady]
    have e2:t'.1*m.2*B=B*t'.1*m.2:=by rw [ady,Int.mul_comm t'.1 B]
    rw [e1,e2];exact Int.mul_le_mul_of_nonneg_right g2 (by omega)
   have g4:m.1*t'.2<=t'.1*m.2:=Int.le_of_mul_le_mul_right g3 hB;omega
 exact D' r.1 r'.1 le h2 h1
def hP (c:aK) (r:Int) (N:List Nd) (to:Int×Int) (out:List (Int×Int)):=
 (c.ci.1,c.ci.2,c.ii.am,c.ai.aN,c.ai.ce,c.ae.af.aB,c.ae.af.be,c.ae.af.bi,c.ae.bv,c.ae.ar,c.io,r,N,to.1,to.2,(0:Int),(0:Int),(0:Int),(0:Int),out)
noncomputable def mT (p w:List Int) (k:Nat):List (Int×Int):=(List.range k).filterMap (rL p w)
theorem uN (p w:List Int) (k:Nat):mT p w (k+1)=mT p w k++(match rL p w k with|some e=>[e]|none=>[]):=by unfold mT;rw [List.range_succ,List.filterMap_append];cases h:rL p w k<;>simp [h]
theorem Bg (p w:List Int) (k:Nat):(mT p w k).length<=k:=by
 have:=List.length_filterMap_le (rL p w) (List.range k)
 rwa [List.length_range] at this
theorem OV (p w:List Int):mT p w (aeD w)=fw p w:=rfl
section
variable {p w : List Int} (hl : (aeD w) + 1 = (aeD p)) (h64 : (aeD p) <= 64) (hc : vA p w)
include hl h64
theorem y7:v7 ⟨p,w⟩=aeE (fw p w):=by
 have st:=eJ (body:=uy) (fun i=>((i:Int),p,w,mT p w i)) (aeD w) (fun i hi=>by
  have k1:=nL (i:=i) (by omega) 1 (by omega);have k2:=nL (i:=i) (by omega) 2 (by omega);have el:=Bg p w i;rw [uN];unfold uy;simp only [aA,aE (show (i:Int)<((aeD w):Int) by omega),lc,show aa .i64 (aa .i64 (2*(i:Int))+1)=((2*i+1:Nat):Int) from k1,show aa .i64 (aa .i64 (2*(i:Int))+2)=((2*i+2:Nat):Int) from k2,
   om (p:=p) (w:=w) (i:=2*i+1) (by omega) (by omega),om (p:=p) (w:=w) (i:=2*i+2) (by omega) (by omega),aj,ax w i hi,aV (show i<1000000000 by omega)]
  unfold rL;generalize aX p w (2*i+1)=x;generalize aX p w (2*i+2)=y;generalize w[i]! =v
  by_cases a1:x<0
  · rw [aE a1,lc,ls (.inl a1)];simp
  rw [aC a1,lm]
  by_cases a2:y<0
  · rw [aE a2,lc,ls (.inr a2)];simp
  rw [aC a2,lm,lw (by omega)]
  by_cases a3:v=x
  · rw [dp a3,lc,ls a3,dJ (by rw [v6];omega),aj]
  rw [dR a3,lm,lw a3,dJ (by rw [v6];omega),aj])
 unfold v7;refine (show _=_ from st).trans (aI ?_);unfold uy;simp only [aA,aC (show¬((aeD w):Int)<((aeD w):Int) by omega),lm];rfl
include hc
theorem MO (hr: ∀x∈p,-1<=x/\x<=65535):ay mg (w,((aeD w):Int),0,p,w,[])=aeE (⟨p,w⟩,fw p w):=by
 have st:=eJ (body:=mg) (fun i=>(w,((aeD w):Int),(i:Int),p,w,mT p w i)) (aeD w) (fun i hi=>by
  have k1:=nL (i:=i) (by omega) 1 (by omega);have k2:=nL (i:=i) (by omega) 2 (by omega);have el:=Bg p w i;have m1:=hr _ (gK hl hc (i:=2*i+1) (by omega));have m2:=hr _ (gK hl hc (i:=2*i+2) (by omega));have cv:=hc i hi;have fin: ∀(x y v:Int),(-1<=x/\x<=65535)->(-1<=y/\y<=65535)->(v=x\/v=y)->
   (bif aeS (0<=x) then
    bif aeS (0<=y) then (bJ (mT p w i) [(aa .i64 (aa .i64 (x+y) -v),v)]).bind fun l3=>aeE (Step.next (ρ:=bo×List (Int×Int)) (w,((aeD w):Int),aa .i64 ((i:Int)+1),p,w,l3))
    else aeE (Step.next (w,((aeD w):Int),aa .i64 ((i:Int)+1),p,w,mT p w i))
   else aeE (Step.next (w,((aeD w):Int),aa .i64 ((i:Int)+1),p,w,mT p w i)))=
   aeE (Step.next (w,((aeD w):Int),((i+1:Nat):Int),p,w,mT p w i++(match (if x<0\/y<0 then none else if v=x then aeE (y,x) else aeE (x,y)) with|some e=>[e]|none=>[]))):=by
   intro x y v hx hy hv;rw [aV (show i<1000000000 by omega)]
   by_cases a1:x<0
   · rw [aC (by omega),lm,ls (.inl a1)];simp
   rw [aE (by omega),lc]
   by_cases a2:y<0
   · rw [aC (by omega),lm,ls (.inr a2)];simp
   rw [aE (by omega),lc,lw (by omega),dJ (by rw [v6];omega),aj,jI (n:=x+y) ⟨by omega,by omega⟩,jI ⟨by omega,by omega⟩]
   by_cases a3:v=x
   · rw [ls a3,a3,show x+y-x=y by omega]
   rw [lw a3,show x+y-v=x by omega,show v=y by omega]
  rw [uN];unfold mg;have e1:aX p w (2*i+1)=if 2*i+1<(aeD w) then w[2*i+1]! else p[2*i+1-(aeD w)]!:=rfl
  have e2:aX p w (2*i+2)=if 2*i+2<(aeD w) then w[2*i+2]! else p[2*i+2-(aeD w)]!:=rfl
  have f1:=fin _ _ _ m1 m2 cv;simp only [aA,aE (show (i:Int)<((aeD w):Int) by omega),lc,show aa .i64 (aa .i64 (2*(i:Int))+1)=((2*i+1:Nat):Int) from k1,show aa .i64 (aa .i64 (2*(i:Int))+2)=((2*i+2:Nat):Int) from k2,ax w i hi,aj,beq_self_eq_true]
  by_cases b1:2*i+1<aeD w
  · rw [ls b1] at e1
    rw [aE (show ((2*i+1:Nat):Int)<((aeD w):Int) by omega),lc,ax w _ b1,aj,<- e1]
    by_cases b2:2*i+2<aeD w
    · rw [ls b2] at e2
      rw [aE (show ((2*i+2:Nat):Int)<((aeD w):Int) by omega),lc,ax w _ b2,aj,<- e2];exact f1
    rw [lw b2] at e2
    rw [aC (show¬((2*i+2:Nat):Int)<((aeD w):Int) by omega),lm,jI ⟨by omega,by omega⟩,show ((2*i+2:Nat):Int) - ((aeD w):Int)=((2*i+2-(aeD w):Nat):Int) by omega,ax p _ (by omega),aj,<- e2];exact f1
  rw [lw b1] at e1
  rw [lw (show¬2*i+2<(aeD w) by omega)] at e2;rw [aC (show¬((2*i+1:Nat):Int)<((aeD w):Int) by omega),lm,jI (n:=((2*i+1:Nat):Int) - ((aeD w):Int)) ⟨by omega,by omega⟩,show ((2*i+1:Nat):Int) - ((aeD w):Int)=((2*i+1-(aeD w):Nat):Int) by omega,ax p _ (by omega),aj,<- e1,
   aC (show¬((2*i+2:Nat):Int)<((aeD w):Int) by omega),lm,jI (n:=((2*i+2:Nat):Int) - ((aeD w):Int)) ⟨by omega,by omega⟩,show ((2*i+2:Nat):Int) - ((aeD w):Int)=((2*i+2-(aeD w):Nat):Int) by omega,ax p _ (by omega),aj,<- e2]
  exact f1)
 refine (show _=_ from st).trans (aI ?_);unfold mg;simp only [aC (show¬((aeD w):Int)<((aeD w):Int) by omega),lm];rfl
end
structure na (f:List Pt) (p:List Int):Prop where
 one:1<=aeD p
 fa:(aeD p)<=64
 once:zS p
 ids: ∀x∈p,Dx f x
theorem na.Qg {f:List Pt} (cL:bC f) {p:List Int} (h:na f p): ∀x∈p,-1<=x/\x<=65535:=fun x hx=>by
 rcases h.ids x hx with e|⟨e,hp⟩
 · omega
 have:=(di cL hp).1
 have e2:=(di cL hp).2;unfold eY at this;omega
section
variable {f : List Pt} (cL : bC f) {t : Int × Int} (r : bK t) (kS : lM t) {p : List Int} (pl : na f p)
include cL kS pl
theorem As:xe ⟨f⟩ t p=aeE ⟨p,bD f t p⟩:=by unfold xe;rw [G2 cL kS pl.one pl.fa pl.ids];rfl
theorem mv:Co f (fw p (bD f t p))/\(fw p (bD f t p)).Nodup/\(fw p (bD f t p)).length<=63:=by have _:=kS;have R:=cZ (f:=f) (t:=t) pl.one;have m:=pl.fa;have:=R.1;have el:=GY p (bD f t p);exact ⟨R5 cL R.1 pl.fa R.mS pl.once fun x hx h0=>(pl.ids x hx).has h0,Kp R.1 R.mS pl.once,by omega⟩
include r
theorem tK:kE ⟨f⟩ t p=aeE (⟨p,bD f t p⟩,fw p (bD f t p)):=by have R:=cZ (f:=f) (t:=t) pl.one;unfold kE;rw [wq cL r kS pl.one pl.fa pl.ids pl.once,aj];exact MO R.1 pl.fa R.mS (pl.Qg cL)
end
def qt:bk:=⟨eA,⟨[],[]⟩⟩
structure R9 (c:aK) (f:List Pt) (p:List Int) (k:bk):Prop where
 uO:MC c f (fw p (bD f c.ci p)) k.jp
 aL:k.kw=⟨p,bD f c.ci p⟩
theorem Cu {c:aK} (ok:aY c) {f:List Pt} (cL:bC f) {p:List Int} (pl:na f p):
 ∃R:aK×Int,mh c ⟨f⟩ (fw p (bD f c.ci p))=aeE R/\lh c ⟨f⟩ (fw p (bD f c.ci p))=aeE R/\(R.2=0/\MC c f (fw p (bD f c.ci p)) R.1\/R=(eA,18)):=by
 obtain ⟨Kl,nd,el⟩:=mv cL ok.fM (t:=c.ci) pl;obtain ⟨R,r1,r2,r3⟩:=ac6 ok cL Kl;have ee:mM f (fw p (bD f c.ci p))=0:=by unfold mM;rw [lw (ae7.2 Kl.cv),lw (ae7.2 nd),lw (fun h=>h Kl.kn)]
 have rn:=GS ok cL (es:=fw p (bD f c.ci p)) (by omega) (fun _=>r1);rw [ls ee] at rn;exact ⟨R,rn,r2,r3⟩
theorem Bh {c:aK} (ok:aY c) {f:List Pt} (cL:bC f) {p:List Int} (pl:na f p):
 ∃R:bk×Int,kg c ⟨f⟩ p=aeE R/\iB c ⟨f⟩ p=aeE R/\(R.2=0/\R9 c f p R.1\/R=(qt,18)):=by
 have h1:=tK cL ok.lK ok.fM pl;have g1:=As cL (t:=c.ci) ok.fM pl;have B:=cZ (f:=f) (t:=c.ci) pl.one;have eo:=y7 B.1 pl.fa;obtain ⟨R,r1,r2,r3⟩:=Cu ok cL pl;rcases r3 with ⟨q0,qq⟩|he
 · refine ⟨(⟨R.1,⟨p,bD f c.ci p⟩⟩,0),?_,?_,.inl ⟨rfl,qq,rfl⟩⟩
   · unfold kg
     simp only [h1,aj,r1,q0,show ((0:Int) !=0)=aeK from rfl,lm]
   unfold iB
   simp only [g1,aj,eo,r2,q0,show ((0:Int) !=0)=aeK from rfl,lm]
 refine ⟨(qt,18),?_,?_,.inr rfl⟩
 · unfold kg
   simp only [h1,aj,r1,he,show ((18:Int) !=0)=aeF from rfl,lc];rfl
 unfold iB
 simp only [g1,aj,eo,r2,he,show ((18:Int) !=0)=aeF from rfl,lc];rfl
def adh (x y v:Int):List (Int×Int):=(if 0<=x/\x≠v then [(x,v)] else [])++(if 0<=y/\y≠v then [(y,v)] else [])
theorem MP {v:Int} {w N:List Int} {L i:Int} {k c:Nat} {E:List (Int×Int)} (hk:k+2<=aeD N) (he:(aeD E)+2<=1000000):
 ay iV (v,w,L,i,0+k,2,c,2,0,N,E)=aeE (.next (w,L,aa .i64 (i+1),N,E++adh N[k]! N[k+1]! v)):=by
 have hd:((N.drop (0+k)).take 2).length=2:=by rw [EQ,aeh];omega
 have g0:aH ((N.drop (0+k)).take 2) 0=aeE N[k]!:=by have:=ax ((N.drop (0+k)).take 2) 0 (by omega);rw [je (by omega),mJ] at this;simpa using this
 have g1:aH ((N.drop (0+k)).take 2) 1=aeE N[k+1]!:=by have:=ax ((N.drop (0+k)).take 2) 1 (by omega);rw [je (by omega),mJ] at this;simpa using this
 have s0:iV (v,w,L,i,0+k,2,c,2,0,N,E)=aeE (.next (v,w,L,i,0+k,2,c,2,1,N,E++(if 0<=N[k]!/\N[k]!≠v then [(N[k]!,v)] else []))):=by
  unfold iV;simp only [aE (show (0:Int)<2 by decide),lc,g0,aj,show aa .i64 ((0:Int)+1)=1 from by decide]
  by_cases a:0<=N[k]!
  · rw [aE a,lc]
    by_cases b:N[k]! =v
    · rw [bB b,lm,lw (fun h=>h.2 b),If]
    rw [cS b,lc,ls ⟨a,b⟩,dJ (by rw [v6];omega),aj]
  rw [aC a,lm,lw (fun h=>a h.1),If]
 obtain ⟨E1,hE⟩: ∃E1,E1=E++(if 0<=N[k]!/\N[k]!≠v then [(N[k]!,v)] else []):=⟨_,rfl⟩;have l1:(aeD E1)<=aeD E+1:=by rw [hE,rc];split<;>simp
 rw [<- hE] at s0;have s1:iV (v,w,L,i,0+k,2,c,2,1,N,E1)=aeE (.next (v,w,L,i,0+k,2,c,2,2,N,E1++(if 0<=N[k+1]!/\N[k+1]!≠v then [(N[k+1]!,v)] else []))):=by
  unfold iV;simp only [aE (show (1:Int)<2 by decide),lc,g1,aj,show aa .i64 ((1:Int)+1)=2 from by decide]
  by_cases a:0<=N[k+1]!
  · rw [aE a,lc]
    by_cases b:N[k+1]! =v
    · rw [bB b,lm,lw (fun h=>h.2 b),If]
    rw [cS b,lc,ls ⟨a,b⟩,dJ (by rw [v6];omega),aj]
  rw [aC a,lm,lw (fun h=>a h.1),If]
 rw [aT s0,aT s1];refine aI ?_;unfold iV;simp only [aC (show¬(2:Int)<2 by decide),lm];unfold adh;rw [hE,ae8]
section
variable {f : List Pt} {t : Int × Int} {p w : List Int} (hr : Cr f t p w) (h64 : (aeD p) <= 64) (ho : zS p)
include hr ho
theorem adi {i:Nat} (hi:i<aeD w):adh (aX p w (2*i+1)) (aX p w (2*i+2)) w[i]! =(match rL p w i with|some e=>[e]|none=>[]):=by
 have hw:=hr.2 i hi;have ne:0<=aX p w (2*i+1)->aX p w (2*i+1)≠aX p w (2*i+2):=fun h=>zN hr.1 hr.mS ho hi h
 have Wn:=Qp f t (aX p w (2*i+1)) (aX p w (2*i+2));unfold rL;rw [hw];generalize hx:aX p w (2*i+1)=x at ne Wn ⊢;generalize hy:aX p w (2*i+2)=y at ne Wn ⊢;unfold adh
 by_cases a1:x<0
 · have:tI f t x y=y:=by unfold tI;rw [ls a1]
   rw [this,lw (by omega),lw (by omega),ls (.inl a1)];rfl
 by_cases a2:y<0
 · have:tI f t x y=x:=by unfold tI;rw [lw a1,ls a2]
   rw [this,lw (by omega),lw (by omega),ls (.inr a2)];rfl
 have ne:=ne (by omega);rw [lw (show¬(x<0\/y<0) by omega)];rcases Wn with h|h
 · rw [h,lw (by omega),ls ⟨by omega,fun e=>ne e.symm⟩,ls rfl];rfl
 rw [h,ls ⟨by omega,ne⟩,lw (by omega),lw (fun e=>ne e.symm)];rfl
include h64
theorem G9:uB ⟨p,w⟩=aeE (fw p w):=by
 have hl:=hr.1;have hN:(w++p).length=aeD w+(aeD p):=rc;have nd: ∀j,j<aeD w+aeD p->(w++p)[j]! =aX p w j:=fun j hj=>by
  unfold aX;split
  · rw [dv (by omega)]
  rw [eK (by omega)]
 have st:=eJ (body:=oR) (fun i=>(w,((aeD w):Int),(i:Int),w++p,mT p w i)) (aeD w) (fun i hi=>by
  have k1:=nL (i:=i) (by omega) 1 (by omega);have k3:aa .i64 ((aa .i64 (2*(i:Int)))+3)=((2*i+3:Nat):Int):=by rw [jI (n:=2*(i:Int)) ⟨by omega,by omega⟩,jI ⟨by omega,by omega⟩];omega
  have el:=Bg p w i;unfold oR;simp only [aA,aE (show (i:Int)<((aeD w):Int) by omega),lc,ax w i hi,aj,show aa .i64 (aa .i64 (2*(i:Int))+1)=((2*i+1:Nat):Int) from k1,k3,hN,
   aE (show (0:Int)<=((2*i+1:Nat):Int) by omega),aE (show ((2*i+1:Nat):Int)<=((2*i+3:Nat):Int) by omega),aE (show ((2*i+3:Nat):Int)<=((aeD w+(aeD p):Nat):Int) by omega),adG,lc,aeb,
   show 2*i+3- (2*i+1)=2 by omega]
  rw [show ((2:Nat):Int)=2 from rfl,MP (by omega) (by omega),nd _ (by omega),nd _ (by omega),show 2*i+1+1=2*i+2 from rfl,adi hr ho hi,aV (show i<1000000000 by omega),uN]
  all_goals rfl)
 unfold uB;rw [show Q8 w p=aeE (w++p) from by unfold Q8;rw [ls ⟨by omega,by omega⟩]];simp only [aj,aA];refine (show _=_ from st).trans (aI ?_);unfold oR;simp only [aA,aC (show¬((aeD w):Int)<((aeD w):Int) by omega),lm];rfl
end
theorem Bi {c:aK} (ok:aY c) {f:List Pt} (cL:bC f) {p:List Int} (pl:na f p):
 ∃R:bk×Int,cO c ⟨f⟩ p=aeE R/\iB c ⟨f⟩ p=aeE R/\(R.2=0/\R9 c f p R.1\/R=(qt,18)):=by
 have h1:=wq cL ok.lK ok.fM pl.one pl.fa pl.ids pl.once;have g1:=As cL (t:=c.ci) ok.fM pl;have B:=cZ (f:=f) (t:=c.ci) pl.one;have e1:=G9 B pl.fa pl.once;have eo:=y7 B.1 pl.fa;obtain ⟨R,r1,r2,r3⟩:=Cu ok cL pl;rcases r3 with ⟨q0,qq⟩|he
 · refine ⟨(⟨R.1,⟨p,bD f c.ci p⟩⟩,0),?_,?_,.inl ⟨rfl,qq,rfl⟩⟩
   · unfold cO
     simp only [h1,aj,e1,r1,q0,show ((0:Int) !=0)=aeK from rfl,lm]
   unfold iB
   simp only [g1,aj,eo,r2,q0,show ((0:Int) !=0)=aeK from rfl,lm]
 refine ⟨(qt,18),?_,?_,.inr rfl⟩
 · unfold cO
   simp only [h1,aj,e1,r1,he,show ((18:Int) !=0)=aeF from rfl,lc];rfl
 unfold iB
 simp only [g1,aj,eo,r2,he,show ((18:Int) !=0)=aeF from rfl,lc];rfl
def cT (p:List Int):List Int:=p.filter fun x=>decide (0<=x)
theorem ly {p:List Int} {j:Nat} (hj:j<aeD p):cT (p.take (j+1))=cT (p.take j)++if 0<=p[j]! then [p[j]!] else []:=by
 unfold cT;rw [gI hj,adz]
 by_cases h:0<=p[j]!
 · rw [ls h,adH (by simpa using h),aej]
 rw [lw h,adI (by simpa using h),aej]
theorem VL (p:List Int) (j:Nat):(cT (p.take j)).length<=j:=by have:=adc (fun x:Int=>decide (0<=x)) (p.take j);rw [EQ] at this;unfold cT;omega
theorem Cv (p:List Int) (hl:(aeD p)<=1000):zD p=aeE (cT p):=by
 have st:=eJ (body:=sy) (fun i=>(p,(i:Int),cT (p.take i))) (aeD p) (fun i hi=>by
  have el:=VL p i;rw [ly hi];unfold sy;simp only [aA,aE (show (i:Int)<((aeD p):Int) by omega),lc,ax p i hi,aj,aV (show i<1000000000 by omega)]
  by_cases h:0<=p[i]!
  · rw [aE h,lc,ls h,dJ (by rw [v6];omega),aj]
  rw [aC h,lm,lw h,If])
 unfold zD;refine (show _=_ from st).trans (aI ?_);unfold sy;simp only [aA,aC (show¬((aeD p):Int)<((aeD p):Int) by omega),lm,M2]
structure I0 (p:List Int) (i j:Nat) (L:List Int):Prop where
 len:(aeD L)=aeD p
 le:i<=j
 lt:j<=aeD p
 got:L.take i=cT (p.take j)
 rest: ∀k,j<=k->k<aeD p->L[k]! =p[k]!
theorem I0.cnt {p:List Int} {i j:Nat} {L:List Int} (h:I0 p i j L):i=(cT (p.take j)).length:=by have:=congrArg List.length h.got;rw [EQ,h.len] at this;have:=h.le;have:=h.lt;omega
theorem adj {p:List Int} {i:Nat} {L:List Int} (h:I0 p i (aeD p) L): ∃M:List Int,bq p ((i:Int),((aeD p):Int),L)=aeE (.done (.done (i,aeD p,M)))/\aeD M=aeD p/\M.take i=cT p:=by
 have hl:=h.len;have hi:=h.le;have got:=h.got;rw [M2] at got;unfold bq;simp only [aA,hl,aC (show¬((aeD p):Int)<((aeD p):Int) by omega),lm,aE (show (0:Int)<=(i:Int) by omega),aE (show (i:Int)<=((aeD p):Int) by omega),aE (show ((aeD p):Int)<=((aeD p):Int) by omega),adG,lc,aeb,Nat.zero_add,ad6,Bool.and_true]
 by_cases h0:(aeD p)-i=0
 · have n1:Nat.beq (aeD p-i) 0=aeF:=by rw [h0];rfl
   rw [n1,lc,kr L i (by omega),aj,beq_self_eq_true,lc];exact ⟨L,rfl,hl,got⟩
 have n1:Nat.beq (aeD p-i) 0=aeK:=by
  cases hb:Nat.beq (aeD p-i) 0 with
  |false=>rfl
  |true=>have:=Nat.eq_of_beq_eq_true hb;omega
 have n2:Nat.ble (i+(aeD p-i)) (aeD p)=aeF:=Nat.ble_eq_true_of_le (by omega);have ll:(fA L i (pp (aeD p-i) (0:Int))).length=(aeD p):=by unfold fA;simp;omega
 rw [n1,lm,n2,lc,kr _ i (by rw [ll];omega),aj,ll,beq_self_eq_true,lc];refine ⟨_,rfl,ll,?_⟩;rw [<- got];unfold fA;rw [ae8,NE (by rw [EQ];omega),List.take_take,Nat.min_self]
theorem alc {p:List Int} (hp:(aeD p)<=1000): ∀(d i j:Nat) (L:List Int),aeD p-j<=d->I0 p i j L->
 ∃(n:Nat) (M:List Int),ay (bq p) ((i:Int),(j:Int),L)=aeE (.done (n,aeD p,M))/\n=(cT p).length/\aeD M=aeD p/\M.take n=cT p:=by
 have fin: ∀(i j:Nat) (L:List Int),aeD p<=j->I0 p i j L-> ∃(n:Nat) (M:List Int),ay (bq p) ((i:Int),(j:Int),L)=aeE (.done (n,aeD p,M))/\n=(cT p).length/\aeD M=aeD p/\M.take n=cT p:=by
  intro i j L hj h;obtain rfl:j=(aeD p):=by have:=h.lt;omega
  obtain ⟨M,m1,m2,m3⟩:=adj h;exact ⟨i,M,aI m1,by rw [h.cnt,M2],m2,m3⟩
 intro d
 induction d with
 |zero=>exact fun i j L hd h=>fin i j L (by omega) h
 |succ d ih=>
  intro i j L hd h
  by_cases hj:(aeD p)<=j
  · exact fin i j L hj h
  have hl:=h.len;have lP:=h.le;have e:L[j]! =p[j]!:=h.rest j (Do _) (by omega);have st:bq p ((i:Int),(j:Int),L)=aeE (.next (((if 0<=p[j]! then i+1 else i:Nat):Int),((j+1:Nat):Int),if 0<=p[j]! then L.set i p[j]! else L)):=by
   unfold bq jZ;simp only [aA,hl,aE (show (j:Int)<((aeD p):Int) by omega),lc,ax L j (by omega),aj,e,aV (show i<1000000000 by omega),aV (show j<1000000000 by omega)]
   by_cases h0:0<=p[j]!
   · rw [aC (by omega),ad6,lc,ax L i (by omega),aj,ls h0,ls h0];rfl
   rw [aE (by omega),AC,lm,lw h0,lw h0]
  rw [aT st];refine ih _ _ _ (by omega) ?_
  by_cases h0:0<=p[j]!
  · rw [ls h0,ls h0]
    refine ⟨by rw [ut];exact hl,by omega,by omega,?_,fun k hk CA=>?_⟩
    · rw [ly (by omega),ls h0,<- h.got,gI (by rw [ut];omega),aU,ls ⟨rfl,by omega⟩,List.take_set_of_le (Do i)]
    rw [aU,lw (by omega)];exact h.rest k (by omega) CA
  rw [lw h0,lw h0]
  refine ⟨hl,by omega,by omega,?_,fun k hk CA=>h.rest k (by omega) CA⟩;rw [ly (by omega),lw h0,If];exact h.got
theorem G': ∀{l:List Int},(∀x∈l,0<=x)->cT l=l:=fun {l} h=>List.filter_eq_self.2 fun x hx=>by simpa using h x hx
theorem Au (p:List Int) (hp:(aeD p)<=1000): ∃(n:Nat) (M:List Int),bT p=aeE (n,aeD p,M)/\n=(cT p).length/\aeD M=aeD p/\M.take n=cT p:=by
 have key: ∀(d m:Nat),aeD p-m<=d->m<=aeD p->(∀k,k<m->0<=p[k]!)-> ∃(n:Nat) (M:List Int),ay (bu p) (((aeD p):Int),(m:Int),p)=aeE (n,aeD p,M)/\n=(cT p).length/\aeD M=aeD p/\M.take n=cT p:=by
  intro d;have fin: ∀m,m=aeD p->(∀k,k<m->0<=p[k]!)-> ∃(n:Nat) (M:List Int),ay (bu p) (((aeD p):Int),(m:Int),p)=aeE (n,aeD p,M)/\n=(cT p).length/\aeD M=aeD p/\M.take n=cT p:=by
   intro m hm h;subst hm;have e:cT p=p:=G' fun x hx=>by obtain ⟨i,hi,rfl⟩:=aO.1 hx;exact h i hi
   refine ⟨aeD p,p,aI ?_,by rw [e],rfl,by rw [M2,e]⟩;unfold bu;simp only [aC (show¬((aeD p):Int)<((aeD p):Int) by omega),lm,beq_self_eq_true,lc]
  induction d with
  |zero=>exact fun m h1 h2 h=>fin m (by omega) h
  |succ d ih=>
   intro m h1 h2 h
   by_cases hm:m=aeD p
   · exact fin m hm h
   by_cases h0:0<=p[m]!
   · have st:bu p (((aeD p):Int),(m:Int),p)=aeE (.next (((aeD p):Int),((m+1:Nat):Int),p)):=by
      unfold bu jZ;simp only [aE (show (m:Int)<((aeD p):Int) by omega),lc,ax p m (by omega),aj,aC (show¬p[m]!<0 by omega),lm,aV (show m<1000000000 by omega)]
     rw [aT st];refine ih (m+1) (by omega) (by omega) fun k hk=>?_
     by_cases e:k=m
     · rw [e];exact h0
     exact h k (by omega)
   have hd:I0 p m (m+1) p:=⟨rfl,by omega,by omega,by
    rw [ly (by omega),lw h0,If,G' fun x hx=>?_];obtain ⟨i,hi,_,rfl⟩:=cw.1 hx;exact h i hi,fun k _ _=>rfl⟩
   obtain ⟨n,M,m1,m2,m3,m4⟩:=alc hp (aeD p) m (m+1) p (by omega) hd;refine ⟨n,M,aI ?_,m2,m3,m4⟩;unfold bu jZ;simp only [aE (show (m:Int)<((aeD p):Int) by omega),lc,ax p m (by omega),aj,aE (show p[m]!<0 by omega),beq_self_eq_true,dR (show (m:Int)≠ -1 by omega),lm,aV (show m<1000000000 by omega),m1]
 unfold bT;exact key (aeD p) 0 (by omega) (adC _) (fun k hk=>absurd hk (ael k))
def Cw (n:Nat):Prop:= ∃i,i<7/\n=2^i
theorem MQ {n:Nat} (h1:1<=n) (h2:n<=64):AN .i64 (n:Int) ((n-1:Nat):Int)=0↔Cw n:=by
 have key: ∀k:Fin 65,1<=k.val->((AN .i64 (k.val:Int) ((k.val-1:Nat):Int)=0)↔ ∃i,i<7/\k.val=2^i):=by decide+kernel
 exact key ⟨n,by omega⟩ h1
theorem dbl {q:Nat} (h:q<=64):aa .i64 ((q:Int)*2)=((2*q:Nat):Int):=by rw [jI ⟨by omega,by omega⟩];omega
theorem Kv (i:Nat):2^(i+1)=2*2^i:=by rw [adJ];omega
theorem Ha {n:Nat}:uG (n:Int)=aeE (aeS (Cw n)):=by
 have st:=nK (body:=oZ) (fun i=>((n:Int),((2^i:Nat):Int))) 7 (fun i=>n≠2^i) (r:=aeF) (e:=aeK) (fun i hi=>by
  have b1:2^i<=64:=Nat.le_trans (adN (by omega) (show i<=6 by omega)) (by decide);unfold oZ;simp only [aE (show ((2^i:Nat):Int)<=64 by omega),lc]
  by_cases h:n=2^i
  · rw [dp (by omega)];exact ⟨fun _=>rfl,fun k=>absurd h k⟩
  · rw [dR (by omega),lm,dbl b1,Kv]
    exact ⟨fun k=>absurd h k,fun _=>rfl⟩) (by
  unfold oZ;rfl)
 unfold uG;refine (show _=_ from st).trans ?_
 by_cases h:Cw n
 · obtain ⟨i,hi,e⟩:=h
   rw [lw (fun k=>k i hi e),aE ⟨i,hi,e⟩]
 rw [ls (fun i hi e=>h ⟨i,hi,e⟩),aC h]
theorem lz (f:List Pt):(iY f).length=(aeD f):=IR ..
theorem xD {f:List Pt} {i:Nat} (h:i<aeD f):(iY f)[i]! =(f[i]!).1:=by unfold iY;rw [getElem!_pos _ i (by rw [IR];exact h),getElem!_pos f i h,aei]
section
variable {f : List Pt} (h64 : (aeD f) <= 64)
include h64
end
theorem OW:yJ=yP:=rfl
structure mw (k:bk):Prop where
 DA:aY k.jp
 br:HI k.kw.aL k.kw.gE
 pow:Cw (aeD k.kw.aL)
 perm:(iY k.jp.ii.am).Perm (cT k.kw.aL)
 right:k.kw.gE=bD k.jp.ii.am k.jp.ci k.kw.aL
 cert:(k.jp.ai.ce.map fun x=>x.2).Perm (fw k.kw.aL k.kw.gE)
theorem iK {p:List Int} {x:Int}:x∈cT p↔x∈p/\0<=x:=by unfold cT;rw [List.mem_filter];simp
theorem pU {f:List Pt} {p w:List Int} (br:HI p w) (pm:(iY f).Perm (cT p)):na f p:=by
 refine ⟨br.one,br.fa,br.once,fun x hx=>?_⟩;have:=br.Qg x hx
 by_cases h:0<=x
 · exact .inr ⟨h,sE.1 (pm.mem_iff.2 (iK.2 ⟨hx,h⟩))⟩
 exact .inl (by omega)
theorem Bj {p:List Int} (h:zS p):(cT p).Nodup:=by
 have go: ∀(j:Nat),j<=aeD p->(cT (p.take j)).Nodup:=by
  intro j
  induction j with
  |zero=>intro _;simp [cT]
  |succ j ih=>
   intro hj;rw [ly (by omega)]
   by_cases h0:0<=p[j]!
   · rw [ls h0]
     refine List.nodup_append.2 ⟨ih (by omega),by simp,fun a ha b hb e=>?_⟩;obtain rfl:b=p[j]!:=by simpa using hb
     subst e;have hm:=(iK.1 ha).1;obtain ⟨i,hi,_,e⟩:=cw.1 hm;have:=h i j hi (by omega) e;omega
   rw [lw h0,If];exact ih (by omega)
 have:=go (aeD p) (Do _)
 rwa [M2] at this
theorem OX {f:List Pt} (h:gi f):(iY f).Pairwise (· <= ·):=by
 refine adB.2 fun i j hi hj lL=>?_
 rw [lz] at hi hj;have:=eV h lL hj;rw [<- getElem!_pos (iY f) i (by rw [lz];exact hi),<- getElem!_pos (iY f) j (by rw [lz];exact hj),xD hi,xD hj];omega
theorem MR {f:List Pt} (h:gi f) (l:List Int):lS l=iY f↔(iY f).Perm l:=by
 constructor
 · intro e;rw [<- e];exact sY l
 intro pm
 exact List.Perm.eq_of_pairwise (le:=(· <= ·)) (fun a b _ _ h1 h2=>Int.le_antisymm h1 h2) (xb l) (OX h) ((sY l).trans pm.symm)
theorem HK (l:List Int) (f:List Pt) (hl:(aeD l)<=1000):cI l f ()=aeE (aeS (l=iY f)):=by
 unfold cI;simp only [aA]
 by_cases h:(aeD l)=aeD f
 case neg=>rw [cS (by omega),lc,aC (fun e=>h (by rw [e,lz]))]
 rw [bB (by omega),lm];have key:=nK (body:=cz) (fun i=>(f,l,((aeD l):Int),(i:Int))) (aeD l) (fun i=>l[i]! =(f[i]!).1) (r:=aeK) (e:=aeF) (fun i hi=>by
  unfold cz s8;simp only [aE (show (i:Int)<((aeD l):Int) by omega),lc,ax l i hi,ax f i (by omega),aj,aV (show i<1000000000 by omega)]
  by_cases q:l[i]! =(f[i]!).1
  · rw [dp q];exact ⟨fun w=>absurd q w,fun _=>rfl⟩
  · rw [dR q];exact ⟨fun _=>rfl,fun w=>absurd w q⟩) (by
  unfold cz;simp only [aC (show¬((aeD l):Int)<((aeD l):Int) by omega),lm])
 refine (show _=_ from key).trans ?_
 by_cases q:l=iY f
 · rw [ls (fun i hi=>by rw [q,xD (by omega)]),aE q]
 rw [lw (fun w=>q (qW (by rw [lz];exact h) fun i hi=>by rw [w i hi,xD (by omega)])),aC q]
theorem Kw (a b:List Int) (ha:(aeD a)<=1000):mI a b=aeE (aeS (a=b)):=by
 unfold mI;simp only [aA]
 by_cases h:(aeD a)=aeD b
 case neg=>rw [cS (by omega),lc,aC (fun e=>h (by rw [e]))]
 rw [bB (by omega),lm];have key:=nK (body:=jN) (fun i=>(a,b,((aeD a):Int),(i:Int))) (aeD a) (fun i=>a[i]! =b[i]!) (r:=aeK) (e:=aeF) (fun i hi=>by
  unfold jN;simp only [aE (show (i:Int)<((aeD a):Int) by omega),lc,ax a i hi,ax b i (by omega),aj,aV (show i<1000000000 by omega)]
  by_cases q:a[i]! =b[i]!
  · rw [bB q];exact ⟨fun w=>absurd q w,fun _=>rfl⟩
  · rw [cS q];exact ⟨fun _=>rfl,fun w=>absurd w q⟩) (by
  unfold jN;simp only [aC (show¬((aeD a):Int)<((aeD a):Int) by omega),lm])
 refine (show _=_ from key).trans ?_
 by_cases q:a=b
 · rw [ls (fun i _=>by rw [q]),aE q]
 rw [lw (fun w=>q (qW h w)),aC q]
theorem MS {n:Nat} {M:List Int} (hn:n<=aeD M) (hm:(aeD M)<=1000):zo JB n M=aeE (lS (M.take n)++M.drop n):=by unfold zo DP JB;rw [ls hn,ls (by rw [EQ];omega)];simp only [sH,if_true,Option.map_some]
theorem I1 {c:aK} (ok:aY c) {es:List (Int×Int)} (_nd:es.Nodup):(aeD es=aeD c.ai.ce/\ ∀i,i<aeD c.ai.ce->(c.ai.ce[i]!).2∈es)↔(c.ai.ce.map fun x=>x.2).Perm es:=by
 have cl:(c.ai.ce.map fun x=>x.2).length=(aeD c.ai.ce):=IR ..;constructor
 · rintro ⟨h1,h2⟩
   exact tF (y5 ok.sM) (fun x hx=>by obtain ⟨i,hi,rfl⟩:=tG.2 hx;exact h2 i hi) (by omega)
 intro h
 exact ⟨by rw [<- h.length_eq,cl],fun i hi=>h.mem_iff.1 (tG.1 ⟨i,hi,rfl⟩)⟩
theorem xU {k:bk} (fit:tD k.jp) (hl:(aeD k.kw.aL)<=1000) (wl:(aeD k.kw.gE)<=1000):fC k=aeE (if mw k then 0 else 8):=by
 unfold fC;rw [kv fit,aj]
 by_cases ok:aY k.jp
 case neg=>rw [lw ok,lw (fun h=>ok h.DA)];rfl
 rw [ls ok,bB rfl,lm,show jz k.kw=_ from wz k.kw.aL k.kw.gE hl wl,aj]
 by_cases br:HI k.kw.aL k.kw.gE
 case neg=>rw [lw br,lw (fun h=>br h.br)];rfl
 have b1:=br.one;have b2:=br.fa;rw [ls br,bB rfl,lm,aA,nq (by omega) b1]
 by_cases pw:Cw (aeD k.kw.aL)
 case neg=>rw [cS (fun h=>pw ((MQ b1 b2).1 h)),lc,lw (fun h=>pw h.pow)]
 rw [bB ((MQ b1 b2).2 pw),lm,bm (by omega),aj];obtain ⟨n,M,e1,e2,e3,e4⟩:=Au k.kw.aL hl;have nl:n<=(aeD M):=by have:=adc (fun x:Int=>decide (0<=x)) k.kw.aL;rw [e2,e3];exact this
 have tk:(lS (M.take n)++M.drop n).take n=lS (cT k.kw.aL):=by rw [NE (by rw [sH,EQ];omega),adK (by rw [sH,EQ];omega),e4]
 have ll:(lS (M.take n)++M.drop n).length=(aeD M):=by rw [rc,sH,EQ,aeh];omega
 have fe:k.jp.ii=⟨k.jp.ii.am⟩:=rfl;rw [e1,aj];dsimp only;rw [MS nl (by omega),aj,ll,beq_self_eq_true,lc,tk,HK _ _ (by rw [sH];omega),aj]
 by_cases pm:(iY k.jp.ii.am).Perm (cT k.kw.aL)
 case neg=>rw [aC (fun h=>pm ((MR ok.ju.2.2 _).1 h)),lw (fun h=>pm h.perm)];rfl
 have pl:=pU br pm;rw [aE ((MR ok.ju.2.2 _).2 pm),AC,lm,fe,tK ok.ju ok.lK ok.fM pl,aj];dsimp only;obtain ⟨_,nd,el⟩:=mv ok.ju ok.fM (t:=k.jp.ci) pl;have R:=cZ (f:=k.jp.ii.am) (t:=k.jp.ci) pl.one;rw [Kw _ _ (by have:=R.1;omega),aj]
 by_cases hw:bD k.jp.ii.am k.jp.ci k.kw.aL=k.kw.gE
 case neg=>rw [aC hw,lw (fun h=>hw h.right.symm)];rfl
 rw [aE hw,AC,lm,OW,adb _ _ (by omega) (by have:=ok.bd;omega),aj]
 by_cases hc:(k.jp.ai.ce.map fun x=>x.2).Perm (fw k.kw.aL (bD k.jp.ii.am k.jp.ci k.kw.aL))
 · rw [aE ((I1 ok nd).2 hc),ls ⟨ok,br,pw,pm,hw.symm,by rw [<- hw];exact hc⟩];rfl
 rw [aC (fun h=>hc ((I1 ok nd).1 h)),lw (fun h=>hc (by rw [hw];exact h.cert))];rfl
theorem Hb {f:List Pt} (cL:bC f) (p:List Int) (hp:(aeD p)<=1000):uH ⟨f⟩ p=aeE (aeS (∀i,i<aeD p->p[i]! = -1\/gx f p[i]!)):=by
 have st:=nK (body:=o3) (fun i=>(p,(i:Int),f)) (aeD p) (fun i=>p[i]! = -1\/gx f p[i]!) (r:=aeK) (e:=aeF) (fun i hi=>by
  unfold o3;simp only [aA,aE (show (i:Int)<((aeD p):Int) by omega),lc,ax p i hi,aj,aV (show i<1000000000 by omega)]
  by_cases h:p[i]! = -1
  · rw [bB h];exact ⟨fun k=>absurd (.inl h) k,fun _=>rfl⟩
  · rw [cS h,lc]
    by_cases h2:gx f p[i]!
    · obtain ⟨m,_,e,_⟩:=xA cL h2
      rw [e,aj,aC (by omega)];exact ⟨fun k=>absurd (.inr h2) k,fun _=>rfl⟩
    rw [OQ cL h2,aj]
    exact ⟨fun _=>rfl,fun k=>by rcases k with k|k;exact absurd k h;exact absurd k h2⟩) (by
  unfold o3;simp only [aA,aC (show¬((aeD p):Int)<((aeD p):Int) by omega),lm])
 unfold uH;refine (show _=_ from st).trans ?_
 by_cases h: ∀i,i<aeD p->p[i]! = -1\/gx f p[i]!
 · rw [ls h,aE h]
 rw [lw h,aC h]
theorem HL {f:List Pt} (cL:bC f) {t:Int×Int} (kS:lM t) {p w:List Int} (br:HI p w) (pl:na f p):ti ⟨p,w⟩ ⟨f⟩ t=aeE (aeS (w=bD f t p)):=by
 have b2:=br.fa;have b3:=br.len;have st:=nK (body:=qi) (fun i=>((i:Int),p,w,f,t)) (aeD w) (fun i=>w[i]! =tI f t (aX p w (2*i+1)) (aX p w (2*i+2))) (r:=aeK) (e:=aeF) (fun i hi=>by
  have k1:=nL (i:=i) (by omega) 1 (by omega);have k2:=nL (i:=i) (by omega) 2 (by omega);unfold qi;simp only [aA,aE (show (i:Int)<((aeD w):Int) by omega),lc,show aa .i64 (aa .i64 (2*(i:Int))+1)=((2*i+1:Nat):Int) from k1,show aa .i64 (aa .i64 (2*(i:Int))+2)=((2*i+2:Nat):Int) from k2,
   om (p:=p) (w:=w) (i:=2*i+1) (by omega) (by omega),om (p:=p) (w:=w) (i:=2*i+2) (by omega) (by omega),aj,ax w i hi,aV (show i<1000000000 by omega),
   Cs cL kS (pl.ids _ (gK b3 br.cho (i:=2*i+1) (by omega))) (pl.ids _ (gK b3 br.cho (i:=2*i+2) (by omega)))]
  by_cases h:w[i]! =tI f t (aX p w (2*i+1)) (aX p w (2*i+2))
  · rw [bB h];exact ⟨fun k=>absurd h k,fun _=>rfl⟩
  · rw [cS h];exact ⟨fun _=>rfl,fun k=>absurd k h⟩) (by
  unfold qi;simp only [aA,aC (show¬((aeD w):Int)<((aeD w):Int) by omega),lm])
 unfold ti;refine (show _=_ from st).trans ?_;have R:=cZ (f:=f) (t:=t) pl.one
 by_cases h:w=bD f t p
 · rw [ls (by rw [h];exact R.2),aE h]
 rw [lw (fun k=>h (IY ⟨b3,k⟩ R)),aC h]
theorem MT {f:List Pt} (cL:bC f) {t:Int×Int} {p:List Int} (pl:na f p) {e:Int×Int} (he:e∈fw p (bD f t p)):leads (gl f e.2) (gl f e.1) t:=by
 have R:=cZ (f:=f) (t:=t) pl.one;have R1:=R.1;obtain ⟨i,hi,h⟩:=Bf.1 he;obtain ⟨a1,a2,a3⟩:=tJ h;have ne:=zN R.1 R.mS pl.once hi a1;have hx:=(pl.ids _ (gK R.1 R.mS (i:=2*i+1) (by omega))).has a1;have hy:=(pl.ids _ (gK R.1 R.mS (i:=2*i+2) (by omega))).has a2;have wv:=R.2 i hi;unfold tI at wv;rw [lw (by omega),lw (by omega)] at wv
 by_cases ld:leads (gl f (aX p (bD f t p) (2*i+1))) (gl f (aX p (bD f t p) (2*i+2))) t
 · rw [ls ld] at wv
   rcases a3 with ⟨rfl,_⟩|⟨_,h⟩
   · exact ld
   exact absurd wv h
 rw [lw ld] at wv
 rcases a3 with ⟨_,h⟩|⟨rfl,_⟩
 · rw [wv] at h;exact absurd h.symm ne
 exact qZ t (by rw [(di cL hx).2,(di cL hy).2];exact ne) ld
theorem y8 {k:bk} (fit:tD k.jp) (hl:(aeD k.kw.aL)<=1000) (wl:(aeD k.kw.gE)<=1000):mn k=aeE (if mw k then 0 else 8):=by
 unfold mn;rw [GM fit,aj]
 by_cases ok:aY k.jp
 case neg=>rw [lw ok,lw (fun h=>ok h.DA)];rfl
 rw [ls ok,bB rfl,lm,show qU k.kw=_ from G7 k.kw.aL k.kw.gE hl wl,aj]
 by_cases br:HI k.kw.aL k.kw.gE
 case neg=>rw [lw br,lw (fun h=>br h.br)];rfl
 have b1:=br.one;have b2:=br.fa;rw [ls br,bB rfl,lm,aA,Ha,aj]
 by_cases pw:Cw (aeD k.kw.aL)
 case neg=>rw [aC pw,lw (fun h=>pw h.pow)];rfl
 have fe:k.jp.ii=⟨k.jp.ii.am⟩:=rfl;rw [aE pw,AC,lm,fe,Hb ok.ju _ hl,aj]
 by_cases pm:(iY k.jp.ii.am).Perm (cT k.kw.aL)
 case neg=>
  by_cases kn: ∀i,i<aeD k.kw.aL->k.kw.aL[i]! = -1\/gx k.jp.ii.am k.kw.aL[i]!
  case neg=>rw [aC kn,lw (fun h=>pm h.perm)];rfl
  rw [aE kn,AC,lm,Cv _ hl,aj,aA,aA,lw (fun h=>pm h.perm)];rw [cS (fun h=>pm ?_)]
  · rfl
  have h:((cT k.kw.aL).length:Int)=((aeD k.jp.ii.am):Int):=h;refine (tF (Bj br.once) (fun x hx=>?_) (by rw [lz];omega)).symm;obtain ⟨h1,h2⟩:=iK.1 hx;obtain ⟨i,hi,rfl⟩:=aO.1 h1;rcases kn i hi with e|e
  · omega
  exact sE.2 e
 have pl:=pU br pm;have kn: ∀i,i<aeD k.kw.aL->k.kw.aL[i]! = -1\/gx k.jp.ii.am k.kw.aL[i]!:=fun i hi=>by
  rcases pl.ids _ (bn hi) with e|e
  · exact .inl e
  exact .inr e.2
 rw [aE kn,AC,lm,Cv _ hl,aj,aA,aA,bB (by rw [<- pm.length_eq,lz]),lm,show ti k.kw ⟨k.jp.ii.am⟩ k.jp.ci=_ from HL ok.ju ok.fM br pl,aj]
 by_cases hw:k.kw.gE=bD k.jp.ii.am k.jp.ci k.kw.aL
 case neg=>rw [aC hw,lw (fun h=>hw h.right)];rfl
 obtain ⟨Kl,nd,el⟩:=mv ok.ju ok.fM (t:=k.jp.ci) pl;rw [aE hw,AC,lm,show v7 k.kw=_ from y7 br.len b2,aj];rw [hw];rw [ac8 ok _ Kl.kn,aj]
 by_cases hc:(k.jp.ai.ce.map fun x=>x.2).Perm (fw k.kw.aL (bD k.jp.ii.am k.jp.ci k.kw.aL))
 · rw [aE (show _/\_ from ⟨by rw [<- hc.length_eq,IR],fun i hi=>⟨tG.2 (hc.mem_iff.2 (bn hi)),MT ok.ju pl (bn hi)⟩⟩),ls ⟨ok,br,pw,pm,hw,by rw [hw];exact hc⟩];rfl
 rw [aC (fun h=>hc ?_),lw (fun h=>hc (by have:=h.cert;rw [hw] at this;exact this))]
 · rfl
 have cl:(k.jp.ai.ce.map fun x=>x.2).length=(aeD k.jp.ai.ce):=IR ..;refine (tF nd (fun x hx=>?_) (by omega)).symm;obtain ⟨i,hi,rfl⟩:=aO.1 hx;exact tG.1 (h.2 i hi).1
theorem OY (j:Nat):ig 0 j:=by
 have key: ∀(n m:Nat),m<=n->1<=m-> ∃d,m / 2^d=1:=by
  intro n
  induction n with
  |zero=>intro m h1 h2;omega
  |succ n ih=>
   intro m h1 h2
   by_cases h:m=1
   · exact ⟨0,by rw [h]⟩
   obtain ⟨d,hd⟩:=ih (m / 2) (by omega) (by omega);refine ⟨d+1,?_⟩;rw [adJ,aet,<- ad9];exact hd
 obtain ⟨d,hd⟩:=key (j+1) (j+1) (Do _) (by omega);exact ⟨d,by omega⟩
theorem MU {i j:Nat} (h:ig i j) (dW:j≠i):ig (2*i+1) j\/ig (2*i+2) j:=by
 obtain ⟨d,hd⟩:=h;cases d with
 |zero=>rw [aev,Nat.div_one] at hd;omega
 |succ d=>
  rw [adJ,<- ad9] at hd
  by_cases e:(j+1) / 2^d=2*(i+1)
  · exact .inl ⟨d,by omega⟩
  exact .inr ⟨d,by omega⟩
theorem VM {i j:Nat} (h:ig i j) (dW:j≠i):2*i+1<=j:=by
 obtain ⟨d,hd⟩:=h;cases d with
 |zero=>rw [aev,Nat.div_one] at hd;omega
 |succ d=>rw [adJ,aet,<- ad9] at hd;have:=Nat.div_le_self ((j+1) / 2) (2^d);omega
section
variable {f : List Pt} (cL : bC f) {t : Int × Int} {p w : List Int} (pl : na f p) (R : Cr f t p w)
include cL pl R
theorem Hc {i:Nat} (hi:i<aeD w+aeD p):Dx f (aX p w i):=by have _:=cL;exact pl.ids _ (gK R.1 R.mS hi)
theorem VN: ∀(d i:Nat),aeD w+aeD p-i<=d->i<aeD w+aeD p-> ∀j,aeD w<=j->j<aeD w+aeD p->ig i j->0<=p[j-(aeD w)]!->
 0<=aX p w i/\(aX p w i=p[j-(aeD w)]!\/leads (gl f (aX p w i)) (gl f p[j-(aeD w)]!) t):=by
 have hl:=R.1;intro d
 induction d with
 |zero=>intro i h1 h2;omega
 |succ d ih=>
  intro i h1 h2 j j1 j2 hu h0
  by_cases hi:i<aeD w
  · have dW:j≠i:=by omega
    have wv:aX p w i=tI f t (aX p w (2*i+1)) (aX p w (2*i+2)):=by rw [<- R.2 i hi];unfold aX;rw [ls hi]
    have ix:=Hc cL pl R (i:=2*i+1) (by omega);have iy:=Hc cL pl R (i:=2*i+2) (by omega);have kn:=zN hl R.mS pl.once hi;rw [wv];unfold tI;rcases MU hu dW with hu|hu
    · obtain ⟨a,b⟩:=ih (2*i+1) (by omega) (by omega) j j1 j2 hu h0
      rw [lw (by omega)]
      by_cases y0:aX p w (2*i+2)<0
      · rw [ls y0];exact ⟨a,b⟩
      rw [lw y0]
      by_cases ld:leads (gl f (aX p w (2*i+1))) (gl f (aX p w (2*i+2))) t
      · rw [ls ld];exact ⟨a,b⟩
      rw [lw ld]
      have l2:=qZ t (by rw [(di cL (ix.has a)).2,(di cL (iy.has (by omega))).2];exact kn a) ld;refine ⟨by omega,.inr ?_⟩;rcases b with b|b
      · rw [<- b];exact l2
      exact qY l2 b
    obtain ⟨a,b⟩:=ih (2*i+2) (by omega) (by omega) j j1 j2 hu h0
    by_cases x0:aX p w (2*i+1)<0
    · rw [ls x0];exact ⟨a,b⟩
    rw [lw x0,lw (by omega)]
    by_cases ld:leads (gl f (aX p w (2*i+1))) (gl f (aX p w (2*i+2))) t
    · rw [ls ld]
      refine ⟨by omega,.inr ?_⟩;rcases b with b|b
      · rw [<- b];exact ld
      exact qY ld b
    rw [lw ld];exact ⟨a,b⟩
  have e:j=i:=PP fun h=>by have:=VM hu h;omega
  subst e;have:aX p w j=p[j-(aeD w)]!:=by unfold aX;rw [lw hi]
  rw [this];exact ⟨h0,.inl rfl⟩
theorem MV (pm:(iY f).Perm (cT p)) (hf:0<aeD f): ∃i,GU (ahP f t) 0 (aeD f) i/\(f[i]!).1=aX p w 0/\0<=aX p w 0:=by
 have hl:=R.1;have h1:=pl.one;have all: ∀k,k<aeD f->0<=aX p w 0/\(aX p w 0=(f[k]!).1\/leads (gl f (aX p w 0)) f[k]! t):=fun k hk=>by have m:(f[k]!).1∈cT p:=pm.mem_iff.1 (sE.2 ⟨k,hk,rfl⟩);obtain ⟨m1,m2⟩:=iK.1 m;obtain ⟨j,hj,e⟩:=aO.1 m1;have:=VN cL pl R _ 0 (Do _) (by omega) (aeD w+j) (by omega) (by omega) (OY _) (by rw [show (aeD w)+j-(aeD w)=j by omega,e];exact m2);rw [show (aeD w)+j-(aeD w)=j by omega,e,xz cL.2.2 hk rfl] at this;exact this
 have r0:=(all 0 hf).1;obtain ⟨i,hi,e⟩:=(Hc cL pl R (i:=0) (by omega)).has r0;refine ⟨i,⟨adC _,hi,fun k _ hk dW=>?_⟩,e,r0⟩;rcases (all k hk).2 with h|h
 · exact absurd (xp cL.2.2 hi hk (by rw [e,h])) (fun h=>dW h.symm)
 rw [<- e,xz cL.2.2 hi rfl] at h;exact h
end
theorem OZ: ∀e,e<=6->bW [-1] ((2^e:Nat):Int)=aeE (pp (2^e) (-1)):=by
 have go: ∀(n:Nat) (m:Nat),n<1000->aa .u64 (n:Int)=(n:Int)->(2^m=n)->fB (aa .u64 (acl ([-1]:List Int).length)) (aa .u64 (n:Int))=aeE (0,(n:Int)):=fun n m hn h _=>by
  rw [show aa .u64 (acl ([-1]:List Int).length)=1 from by kernel_rfl,h,yQ ⟨by decide,by decide⟩ ⟨by omega,by omega⟩];have e1:(1*(n:Int)) / 18446744073709551616=0:=by omega
  have e2:(1*(n:Int))%18446744073709551616=(n:Int):=by omega
  rw [e1,e2]
 intro e he;have he:e=0\/e=1\/e=2\/e=3\/e=4\/e=5\/e=6:=by omega
 rcases he with rfl|rfl|rfl|rfl|rfl|rfl|rfl
 · unfold bW fT;rw [go 1 0 (by omega) (by kernel_rfl) rfl];exact (by kernel_rfl:_=ay aG (1,-1::pp 0 0)).trans (bg.2 ⟨20,by kernel_rfl⟩)
 · unfold bW fT;rw [go 2 1 (by omega) (by kernel_rfl) rfl];exact (by kernel_rfl:_=ay aG (1,-1::pp 1 0)).trans (bg.2 ⟨20,by kernel_rfl⟩)
 · unfold bW fT;rw [go 4 2 (by omega) (by kernel_rfl) rfl];exact (by kernel_rfl:_=ay aG (1,-1::pp 3 0)).trans (bg.2 ⟨20,by kernel_rfl⟩)
 · unfold bW fT;rw [go 8 3 (by omega) (by kernel_rfl) rfl];exact (by kernel_rfl:_=ay aG (1,-1::pp 7 0)).trans (bg.2 ⟨20,by kernel_rfl⟩)
 · unfold bW fT;rw [go 16 4 (by omega) (by kernel_rfl) rfl];exact (by kernel_rfl:_=ay aG (1,-1::pp 15 0)).trans (bg.2 ⟨20,by kernel_rfl⟩)
 · unfold bW fT;rw [go 32 5 (by omega) (by kernel_rfl) rfl];exact (by kernel_rfl:_=ay aG (1,-1::pp 31 0)).trans (bg.2 ⟨20,by kernel_rfl⟩)
 unfold bW fT;rw [go 64 6 (by omega) (by kernel_rfl) rfl];exact (by kernel_rfl:_=ay aG (1,-1::pp 63 0)).trans (bg.2 ⟨20,by kernel_rfl⟩)
structure nM (k:bk):Prop where
 c:Qm k.jp
 p:(aeD k.kw.aL)<=1000
 w:(aeD k.kw.gE)<=1000
theorem HM:nM qt:=⟨HH,adC _,adC _⟩
theorem MW (k:bk):qS k=aeE aeF\/(qS k=aeE aeK/\nM k):=by
 unfold qS yN
 rcases MH k.jp with e|⟨e,sh⟩
 · rw [e];exact .inl rfl
 rw [e,aj,lm];simp only [aA]
 by_cases h:70<aeD k.kw.aL
 · rw [aE (by omega)];exact .inl rfl
 rw [aC (by omega),lm,aj]
 by_cases h2:70<aeD k.kw.gE
 · rw [aE (by omega)];exact .inl rfl
 rw [aC (by omega)];exact .inr ⟨rfl,sh,by omega,by omega⟩
theorem R9.short {c:aK} {f:List Pt} {p:List Int} {k:bk} (pl:na f p) (h:R9 c f p k):nM k:=by have R:=cZ (f:=f) (t:=c.ci) pl.one;have b2:=pl.fa;have b3:=R.1;refine ⟨h.uO.ok.short,by rw [h.aL];show (aeD p)<=1000;omega,by rw [h.aL];show (bD f c.ci p).length<=1000;omega⟩
theorem mw.fit (k:bk) (n:MF k.jp) (sh:nM k):tD k.jp:=⟨n.ci,⟨sh.c.s3,sh.c.h,sh.c.w,n.OK⟩,sh.c.d⟩
theorem Sa {c:aK} (ok:aY c) {to:Int×Int} (rt:bK to) (io: ¬R8 c to) {y:qX} (hy:y∈c.ai.ce) (is:(bE c.ii.am y.2 c.ci).2=aeF):
 to.1*(bE c.ii.am y.2 c.ci).1.2<(bE c.ii.am y.2 c.ci).1.1*to.2:=by
 obtain ⟨d,hd,_,ev⟩:=ok.Bd.has _ hy is;obtain ⟨v,hv,he⟩:=aO.1 ev;have tl:=Dw ok.lD v hv;have h0:0<(aeD c.ae.bv):=by omega
 have e0:=(ok.lD.ev 0 h0).1.1;have ev':=(ok.lD.ev v hv).1.1;rw [he] at tl ev';have n1: ¬kO (bE c.ii.am y.2 c.ci).1 (Ev.at c.ae.bv[0]!)<0:=fun q=>tl (.inl q)
 rw [sB] at n1;have n2: ¬kO (Ev.at c.ae.bv[0]!) to<=0:=fun q=>io ⟨h0,q⟩
 have n3:to.1*(Ev.at c.ae.bv[0]!).2<(Ev.at c.ae.bv[0]!).1*to.2:=by unfold kO at n2;rcases ef ((Ev.at c.ae.bv[0]!).1*to.2) (to.1*(Ev.at c.ae.bv[0]!).2) with ⟨a,b⟩|⟨a,b⟩|⟨a,b⟩<;>omega
 exact vp rt.1 e0 ev' n3 (aem.1 n1)
theorem VO {c:aK} (ok:aY c) {to:Int×Int} (rt:bK to) (kS:lM to) (le: ¬kO to c.ci<0) (io: ¬R8 c to):aY (atT c to):=by
 have pt:=fun (x:Int×Int) (hb:iX c.ii.am x)=>And.intro (di ok.ju hb.2).1 (di ok.ju hb.1).1
 refine ⟨rt,kS,ok.ju,ok.sM,ok.lD,ok.GL,ok.hd,ok.known,?_⟩;refine aR.time (t:=c.ci) (fun y hy=>?_) ok.Bd;obtain ⟨j,hj,rfl⟩:=aO.1 hy;have hb:=ok.known j hj;refine GQ (pt _ hb).1 (pt _ hb).2 ok.lK rt (by rw [sB] at le;exact aem.1 le) (fun is=>?_);exact Int.le_of_lt (Sa ok rt io hy is)
theorem Hd {c:aK} (ok:aY c) {lo hi:Int} (hb:iX c.ii.am (lo,hi)) (h:rG c.ai.ce (lo,hi)) {to:Int×Int} (rt:bK to) (le: ¬kO to c.ci<0) (io: ¬R8 c to):
 ¬leads (gl c.ii.am lo) (gl c.ii.am hi) to:=by
 obtain ⟨w,w1,w2⟩:=h;have Jx:=(di ok.ju hb.2).1;have hj':=(di ok.ju hb.1).1;have wn:bE c.ii.am (c.ai.ce[w]!).2 c.ci=k8 (gl c.ii.am hi) (gl c.ii.am lo) c.ci:=by unfold bE;rw [w2]
 refine adg Jx hj' ok.lK rt (by rw [sB] at le;omega) fun is=>?_
 rw [<- wn] at is;obtain ⟨d,hd,_,ev⟩:=ok.Bd.has _ (bn w1) is;obtain ⟨v,hv,he⟩:=aO.1 ev;have tl:=Dw ok.lD v hv;have h0:0<(aeD c.ae.bv):=by omega
 have e0:=(ok.lD.ev 0 h0).1.1;have ev':=(ok.lD.ev v hv).1.1;rw [he] at tl ev';rw [<- wn];have n1: ¬kO (bE c.ii.am (c.ai.ce[w]!).2 c.ci).1 (Ev.at c.ae.bv[0]!)<0:=fun q=>tl (.inl q)
 rw [sB] at n1;have n2: ¬kO (Ev.at c.ae.bv[0]!) to<=0:=fun q=>io ⟨h0,q⟩
 have n3:to.1*(Ev.at c.ae.bv[0]!).2<(Ev.at c.ae.bv[0]!).1*to.2:=by unfold kO at n2;rcases ef ((Ev.at c.ae.bv[0]!).1*to.2) (to.1*(Ev.at c.ae.bv[0]!).2) with ⟨a,b⟩|⟨a,b⟩|⟨a,b⟩<;>omega
 exact vp rt.1 e0 ev' n3 (aem.1 n1)
theorem vB {c:aK} (ok:aY c) {p:List Int} (pl:na c.ii.am p) (ct: ∀e∈fw p (bD c.ii.am c.ci p),rG c.ai.ce e) {to:Int×Int} (rt:bK to) (le: ¬kO to c.ci<0) (io: ¬R8 c to):
 bD c.ii.am to p=bD c.ii.am c.ci p:=by
 have R:=cZ (f:=c.ii.am) (t:=c.ci) pl.one;have R1:=R.1;refine IY (cZ pl.one) ⟨R.1,fun i hi=>?_⟩;have wv:=R.2 i hi;have ne:=zN R.1 R.mS pl.once hi;have ix:=pl.ids _ (gK R.1 R.mS (i:=2*i+1) (by omega));have iy:=pl.ids _ (gK R.1 R.mS (i:=2*i+2) (by omega));have mem: ∀e,rL p (bD c.ii.am c.ci p) i=aeE e->rG c.ai.ce e:=fun e h=>ct e (Bf.2 ⟨i,hi,h⟩)
 unfold rL at mem;rw [wv];rw [wv] at mem;generalize aX p (bD c.ii.am c.ci p) (2*i+1)=x at*;generalize aX p (bD c.ii.am c.ci p) (2*i+2)=y at*;unfold tI at*
 by_cases x0:x<0
 · rw [ls x0,ls x0]
 rw [lw x0,lw x0]
 by_cases y0:y<0
 · rw [ls y0,ls y0]
 rw [lw y0,lw y0];rw [lw x0,lw y0,lw (show¬(x<0\/y<0) by omega)] at mem;have hx:=ix.has (by omega);have hy:=iy.has (by omega);have nxy:=ne (by omega)
 by_cases ld:leads (gl c.ii.am x) (gl c.ii.am y) c.ci
 · rw [ls ld]
   rw [ls ld,ls rfl] at mem;have st:=Hd ok (lo:=y) (hi:=x) ⟨hy,hx⟩ (mem _ rfl) rt le io;rw [ls (qZ to (by rw [(di ok.ju hx).2,(di ok.ju hy).2];exact fun h=>nxy h.symm) st)]
 rw [lw ld]
 rw [lw ld,lw (fun h=>nxy h.symm)] at mem;have st:=Hd ok (lo:=x) (hi:=y) ⟨hx,hy⟩ (mem _ rfl) rt le io;rw [lw st]
def tP (c:aK) (p w:List Int) (to:Int×Int) (out:List (Int×Int)):=
 (c.ci.1,c.ci.2,c.ii.am,c.ai.aN,c.ai.ce,c.ae.af.aB,c.ae.af.be,c.ae.af.bi,c.ae.bv,c.ae.ar,c.io,p,w,to.1,to.2,(0:Int),(0:Int),(0:Int),out)
structure Kx (r:bk×List (Int×Int)×Int):Prop where
 h:nM r.1
 l:(aeD r.2.1)<=1048576
structure ald (f:List Pt) (p:List Int) (to:Int×Int) (k:bk):Prop where
 DA:aY k.jp
 ju:k.jp.ii.am=f
 ci:k.jp.ci=to
 br:k.kw=⟨p,bD f to p⟩
 cert:(k.jp.ai.ce.map fun x=>x.2).Perm (fw p (bD f to p))
 io: ¬R8 k.jp to
def adk (f:List Pt) (p:List Int) (to:Int×Int) (r:bk×List (Int×Int)×Int):Prop:=r.2.2=18\/(r.2.2=0/\ald f p to r.1)
inductive Eb (l:List Int) (x:Int):List Int->Prop
 |at_ (k:Nat) (hk:k<aeD l) (e:l[k]! = -1) (h: ∀j,j<k->l[j]!≠ -1) (hi:fK l (-1)=aeE (k:Int)):Eb l x (l.set k x)
 |end_ (h: ∀j,j<aeD l->l[j]!≠ -1) (hi:fK l (-1)=aeE (-1)):Eb l x (l++[x]++pp (aeD l-1) (-1))
theorem adl {f:List Pt} {m:Nat} {p:Pt} {x:Int} (h:gx f x):gx (tH f m p) x:=by obtain ⟨i,hi,rfl⟩:=h;obtain ⟨j,hj,e⟩:=aO.1 (Ko (m:=m) (p:=p).2 (.inr (bn hi)));exact ⟨j,hj,by rw [e]⟩
theorem Qq (f:List Pt) (m:Nat) (p:Pt):gx (tH f m p) p.1:=by obtain ⟨j,hj,e⟩:=aO.1 (Ko (f:=f) (m:=m) (p:=p).2 (.inl rfl));exact ⟨j,hj,by rw [e]⟩
theorem Dx.ins {f:List Pt} {m:Nat} {p:Pt} {x:Int} (h:Dx f x):Dx (tH f m p) x:=h.imp id fun h=>⟨h.1,adl h.2⟩
theorem O0 {f:List Pt} {l:List Int} (pl:na f l) {p:Pt} (p0:0<=p.1) (nh: ¬gx f p.1) {m:Nat} (h32:(∀j,j<aeD l->l[j]!≠ -1)->aeD l<=32) {q:List Int} (h:Eb l p.1 q):na (tH f m p) q:=by
 have one:=pl.one;have fa:=pl.fa;have ne: ∀j,j<aeD l->l[j]!≠p.1:=fun j hj e=>by
  rcases pl.ids _ (bn hj) with h|h
  · omega
  exact nh (e▸h.2)
 cases h with
 |at_ k hk e h hi=>
  refine ⟨by rw [ut];exact one,by rw [ut];exact fa,fun i j lL hj he=>?_,fun x hx=>?_⟩
  · rw [ut] at hj
    rw [aU,aU] at he;rw [aU]
    by_cases a:i=k
    · rw [ls ⟨a,by omega⟩,lw (by omega)] at he
      exact absurd he.symm (ne j hj)
    rw [lw (fun h=>a h.1)] at he ⊢
    by_cases b:j=k
    · rw [ls ⟨b,by omega⟩] at he
      exact absurd he (ne i (by omega))
    rw [lw (fun h=>b h.1)] at he
    exact pl.once i j lL hj he
  rcases List.mem_or_eq_of_mem_set hx with h|h
  · exact (pl.ids x h).ins
  subst h;exact .inr ⟨p0,Qq f m p⟩
 |end_ h hi=>
  have h32:=h32 h;have ll:(l++[p.1]++pp (aeD l-1) (-1:Int)).length=2*(aeD l):=by rw [rc,rc,v6,ww];omega
  have g1: ∀i,i<aeD l->(l++[p.1]++pp (aeD l-1) (-1:Int))[i]! =l[i]!:=fun i hi=>by rw [dv (by rw [rc];omega),dv hi]
  have g2:(l++[p.1]++pp (aeD l-1) (-1:Int))[aeD l]! =p.1:=by rw [dv (by rw [rc,v6];omega),eK (Do _),aex];rfl
  have g3: ∀i,aeD l<i->i<2*aeD l->(l++[p.1]++pp (aeD l-1) (-1:Int))[i]! = -1:=fun i h1 h2=>by rw [eK (by rw [rc,v6];omega)];rw [rc,v6];have:=bn (l:=pp (aeD l-1) (-1:Int)) (i:=i- (aeD l+1)) (by rw [ww];omega);exact (UV.1 this).2
  refine ⟨by rw [ll];omega,by rw [ll];omega,fun i j lL hj he=>?_,fun x hx=>?_⟩
  · rw [ll] at hj
    rcases adF i (aeD l) with a|a|a
    · rw [g1 i a] at he ⊢
      rcases adF j (aeD l) with b|b|b
      · rw [g1 j b] at he;exact pl.once i j lL b he
      · rw [b,g2] at he;exact absurd he (ne i a)
      rw [g3 j b hj] at he;omega
    · rw [a,g2,g3 j (by omega) hj] at he;omega
    rw [g3 i a (by omega)];omega
  rcases adL.1 hx with hx|hx
  · rcases adL.1 hx with hx|hx
    · exact (pl.ids x hx).ins
    obtain rfl:=List.mem_singleton.1 hx
    exact .inr ⟨p0,Qq f m p⟩
  exact .inl (UV.1 hx).2
theorem mw.aL {k:bk} (ok:mw k):na k.jp.ii.am k.kw.aL:=pU ok.br ok.perm
theorem adm {k:bk} (ok:mw k) (dV:(aeD k.jp.ii.am)<64) (h: ∀j,j<aeD k.kw.aL->k.kw.aL[j]!≠ -1):(aeD k.kw.aL)<=32:=by
 have all:cT k.kw.aL=k.kw.aL:=G' fun x hx=>by
  obtain ⟨j,hj,rfl⟩:=aO.1 hx;have:=h j hj;rcases ok.aL.ids _ (bn hj) with e|e
  · exact absurd e this
  exact e.1
 have e:=ok.perm.length_eq;rw [all,lz] at e;obtain ⟨i,hi,hp⟩:=ok.pow;have:i<=5:=by
  rcases aey i 6 with h|h
  · omega
  obtain rfl:i=6:=by omega
  omega
 have:=adN (show 0<2 by omega) this;omega
section
variable {k : bk} (n : MF k.jp) (sh : nM k)
include n sh
end
def xV (l:List Int) (k:Nat):List Int:=
 if 1<aeD l/\4*(cT (l.set k (-1))).length<=(aeD l) then cT (l.set k (-1))++pp ((aeD l) / 2- (cT (l.set k (-1))).length) (-1) else l.set k (-1)
theorem Sb: ∀m:Nat,1<=m->m<=32->bW [-1] (m:Int)=aeE (pp m (-1)):=by
 intro m h1 h2;have go:aa .u64 (m:Int)=(m:Int)->fB (aa .u64 (acl ([-1]:List Int).length)) (aa .u64 (m:Int))=aeE (0,(m:Int)):=fun h=>by
  rw [show aa .u64 (acl ([-1]:List Int).length)=1 from by kernel_rfl,h,yQ ⟨by decide,by decide⟩ ⟨by omega,by omega⟩];have e1:(1*(m:Int)) / 18446744073709551616=0:=by omega
  have e2:(1*(m:Int))%18446744073709551616=(m:Int):=by omega
  rw [e1,e2]
 have cs: ∀j,j<32->m=j+1->bW [-1] (m:Int)=aeE (pp m (-1)):=by
  intro j hj e;subst e;have:j=0\/j=1\/j=2\/j=3\/j=4\/j=5\/j=6\/j=7\/j=8\/j=9\/j=10\/j=11\/j=12\/j=13\/j=14\/j=15\/j=16\/j=17\/j=18\/j=19\/j=20\/j=21\/j=22\/j=23\/j=24\/j=25\/j=26\/j=27\/j=28\/j=29\/j=30\/j=31:=by omega
  rcases this with rfl|rfl|rfl|rfl|rfl|rfl|rfl|rfl|rfl|rfl|rfl|rfl|rfl|rfl|rfl|rfl|rfl|rfl|rfl|rfl|rfl|rfl|rfl|rfl|rfl|rfl|rfl|rfl|rfl|rfl|rfl|rfl
  all_goals (unfold bW fT;rw [go (by kernel_rfl)])
  · exact (by kernel_rfl:_=ay aG (1,-1::pp 0 0)).trans (bg.2 ⟨20,by kernel_rfl⟩)
  · exact (by kernel_rfl:_=ay aG (1,-1::pp 1 0)).trans (bg.2 ⟨20,by kernel_rfl⟩)
  · exact (by kernel_rfl:_=ay aG (1,-1::pp 2 0)).trans (bg.2 ⟨20,by kernel_rfl⟩)
  · exact (by kernel_rfl:_=ay aG (1,-1::pp 3 0)).trans (bg.2 ⟨20,by kernel_rfl⟩)
  · exact (by kernel_rfl:_=ay aG (1,-1::pp 4 0)).trans (bg.2 ⟨20,by kernel_rfl⟩)
  · exact (by kernel_rfl:_=ay aG (1,-1::pp 5 0)).trans (bg.2 ⟨20,by kernel_rfl⟩)
  · exact (by kernel_rfl:_=ay aG (1,-1::pp 6 0)).trans (bg.2 ⟨20,by kernel_rfl⟩)
  · exact (by kernel_rfl:_=ay aG (1,-1::pp 7 0)).trans (bg.2 ⟨20,by kernel_rfl⟩)
  · exact (by kernel_rfl:_=ay aG (1,-1::pp 8 0)).trans (bg.2 ⟨20,by kernel_rfl⟩)
  · exact (by kernel_rfl:_=ay aG (1,-1::pp 9 0)).trans (bg.2 ⟨20,by kernel_rfl⟩)
  · exact (by kernel_rfl:_=ay aG (1,-1::pp 10 0)).trans (bg.2 ⟨20,by kernel_rfl⟩)
  · exact (by kernel_rfl:_=ay aG (1,-1::pp 11 0)).trans (bg.2 ⟨20,by kernel_rfl⟩)
  · exact (by kernel_rfl:_=ay aG (1,-1::pp 12 0)).trans (bg.2 ⟨20,by kernel_rfl⟩)
  · exact (by kernel_rfl:_=ay aG (1,-1::pp 13 0)).trans (bg.2 ⟨20,by kernel_rfl⟩)
  · exact (by kernel_rfl:_=ay aG (1,-1::pp 14 0)).trans (bg.2 ⟨20,by kernel_rfl⟩)
  · exact (by kernel_rfl:_=ay aG (1,-1::pp 15 0)).trans (bg.2 ⟨20,by kernel_rfl⟩)
  · exact (by kernel_rfl:_=ay aG (1,-1::pp 16 0)).trans (bg.2 ⟨20,by kernel_rfl⟩)
  · exact (by kernel_rfl:_=ay aG (1,-1::pp 17 0)).trans (bg.2 ⟨20,by kernel_rfl⟩)
  · exact (by kernel_rfl:_=ay aG (1,-1::pp 18 0)).trans (bg.2 ⟨20,by kernel_rfl⟩)
  · exact (by kernel_rfl:_=ay aG (1,-1::pp 19 0)).trans (bg.2 ⟨20,by kernel_rfl⟩)
  · exact (by kernel_rfl:_=ay aG (1,-1::pp 20 0)).trans (bg.2 ⟨20,by kernel_rfl⟩)
  · exact (by kernel_rfl:_=ay aG (1,-1::pp 21 0)).trans (bg.2 ⟨20,by kernel_rfl⟩)
  · exact (by kernel_rfl:_=ay aG (1,-1::pp 22 0)).trans (bg.2 ⟨20,by kernel_rfl⟩)
  · exact (by kernel_rfl:_=ay aG (1,-1::pp 23 0)).trans (bg.2 ⟨20,by kernel_rfl⟩)
  · exact (by kernel_rfl:_=ay aG (1,-1::pp 24 0)).trans (bg.2 ⟨20,by kernel_rfl⟩)
  · exact (by kernel_rfl:_=ay aG (1,-1::pp 25 0)).trans (bg.2 ⟨20,by kernel_rfl⟩)
  · exact (by kernel_rfl:_=ay aG (1,-1::pp 26 0)).trans (bg.2 ⟨20,by kernel_rfl⟩)
  · exact (by kernel_rfl:_=ay aG (1,-1::pp 27 0)).trans (bg.2 ⟨20,by kernel_rfl⟩)
  · exact (by kernel_rfl:_=ay aG (1,-1::pp 28 0)).trans (bg.2 ⟨20,by kernel_rfl⟩)
  · exact (by kernel_rfl:_=ay aG (1,-1::pp 29 0)).trans (bg.2 ⟨20,by kernel_rfl⟩)
  · exact (by kernel_rfl:_=ay aG (1,-1::pp 30 0)).trans (bg.2 ⟨20,by kernel_rfl⟩)
  exact (by kernel_rfl:_=ay aG (1,-1::pp 31 0)).trans (bg.2 ⟨20,by kernel_rfl⟩)
 exact cs (m-1) (by omega) (by omega)
theorem Sc {l:List Int} {k:Nat} (hk:k<aeD l) (h0:0<=l[k]!):(cT (l.set k (-1))).length+1=(cT l).length:=by
 have e1:l=l.take k++l[k]!::l.drop (k+1):=by
  conv=>lhs;rw [<- List.take_append_drop k l,List.drop_eq_getElem_cons hk]
  rw [getElem!_pos l k hk]
 have e2:l.set k (-1)=l.take k++(-1)::l.drop (k+1):=by rw [List.set_eq_take_append_cons_drop,ls hk]
 have f1:(cT l).length=((l.take k).filter fun x=>decide (0<=x)).length+(((l.drop (k+1)).filter fun x=>decide (0<=x)).length+1):=by
  unfold cT
  conv=>lhs;rw [e1]
  rw [adz,rc,adH (by simpa using h0),List.length_cons]
 have f2:(cT (l.set k (-1))).length=((l.take k).filter fun x=>decide (0<=x)).length+((l.drop (k+1)).filter fun x=>decide (0<=x)).length:=by unfold cT;rw [e2,adz,rc,adI (by decide)]
 omega
theorem Sd {f:List Pt} (hs:gi f) {q:Nat} (hq:q<aeD f) {x:Int} (h:gx f x) (dW:x≠(f[q]!).1):gx (f.eraseIdx q) x:=by obtain ⟨i,hi,rfl⟩:=h;obtain ⟨j,hj,e⟩:=aO.1 ((IU hs hq).2 ⟨bn hi,dW⟩);exact ⟨j,hj,by rw [e]⟩
theorem O1 {f f':List Pt} {l:List Int} (pl:na f l) {k:Nat} (hk:k<aeD l) (h0:0<=l[k]!) (has: ∀x,gx f x->x≠l[k]!->gx f' x):na f' (l.set k (-1)):=by
 refine ⟨by rw [ut];exact pl.one,by rw [ut];exact pl.fa,fun i j lL hj he=>?_,fun x hx=>?_⟩
 · rw [ut] at hj
   rw [aU,aU] at he;rw [aU]
   by_cases a:i=k
   · rw [ls ⟨a,by omega⟩];omega
   rw [lw (fun h=>a h.1)] at he ⊢
   by_cases b:j=k
   · rw [ls ⟨b,by omega⟩] at he;omega
   rw [lw (fun h=>b h.1)] at he;exact pl.once i j lL hj he
 obtain ⟨i,hi,rfl⟩:=aO.1 hx
 rw [ut] at hi;rw [aU]
 by_cases a:i=k
 · rw [ls ⟨a,by omega⟩];exact .inl rfl
 rw [lw (fun h=>a h.1)]
 refine (pl.ids _ (bn hi)).imp id fun h=>⟨h.1,has _ h.2 fun e=>a (pl.once.inj hi hk e h.1)⟩
theorem MX {f f':List Pt} {l:List Int} (pl:na f l) {k:Nat} (hk:k<aeD l) (h0:0<=l[k]!) (has: ∀x,gx f x->x≠l[k]!->gx f' x):na f' (xV l k):=by
 have sp:=O1 pl hk h0 has;unfold xV;split
 · rename_i h
   have nd:=Bj sp.once;have fa:=pl.fa;obtain ⟨A,hA⟩: ∃A,A=cT (l.set k (-1)):=⟨_,rfl⟩;rw [<- hA] at h nd ⊢;have An: ∀x∈A,0<=x:=fun x hx=>(iK.1 (hA▸hx)).2
   have ll:(A++pp ((aeD l) / 2-(aeD A)) (-1:Int)).length=(aeD l) / 2:=by rw [rc,ww];omega
   have g3: ∀i,aeD A<=i->i<(aeD l) / 2->(A++pp ((aeD l) / 2-(aeD A)) (-1:Int))[i]! = -1:=fun i h1 h2=>by rw [eK h1];have:=bn (l:=pp ((aeD l) / 2-(aeD A)) (-1:Int)) (i:=i-(aeD A)) (by rw [ww];omega);exact (UV.1 this).2
   refine ⟨by rw [ll];omega,by rw [ll];omega,fun i j lL hj he=>?_,fun x hx=>?_⟩
   · rw [ll] at hj
     by_cases a:i<aeD A
     · rw [dv a] at he ⊢
       by_cases b:j<aeD A
       · rw [dv b] at he
         have:=(adB.1 nd) i j a b lL;rw [getElem!_pos A i a,getElem!_pos A j b] at he;exact absurd he this
       rw [g3 j (by omega) hj] at he
       have:=An _ (bn a);omega
     rw [g3 i (by omega) (by omega)];omega
   rcases adL.1 hx with hx|hx
   · exact sp.ids x (iK.1 (hA▸hx)).1
   exact .inl (UV.1 hx).2
 exact sp
theorem MY:dY=bT:=rfl
section
variable {k : bk} (n : MF k.jp) (sh : nM k)
include n sh
end
structure SOA {α:Type} (P:α->α->Prop) (S:α->Prop):Prop where
 irr: ∀a,S a-> ¬P a a
 tr: ∀a b c,S a->S b->S c->P a b->P b c->P a c
 ntr: ∀a b c,S a->S b->S c-> ¬P a b-> ¬P b c-> ¬P a c
theorem SOA.asym {α:Type} {P:α->α->Prop} {S:α->Prop} (o:SOA P S) {a b:α} (ha:S a) (hb:S b) (h:P a b): ¬P b a:=fun k=>o.irr a ha (o.tr a b a ha hb ha h k)
section
variable {α : Type} [Inhabited α] {P : α -> α -> Prop} {S : α -> Prop}
def Cx (l:List α) (i j:Nat):List α:=(l.set i l[j]!).set j l[i]!
theorem DB (l:List α) (i j:Nat):(Cx l i j).length=(aeD l):=by unfold Cx;rw [ut,ut]
theorem xE (l:List α) {i j:Nat} (hi:i<aeD l) (hj:j<aeD l) (k:Nat):(Cx l i j)[k]! =if k=j then l[i]! else if k=i then l[j]! else l[k]!:=by
 unfold Cx;rw [aU,ut,aU]
 by_cases c:k=j
 · rw [ls ⟨c,hj⟩,ls c]
 rw [lw (fun h=>c h.1),lw c]
 by_cases d:k=i
 · rw [ls ⟨d,hi⟩,ls d]
 rw [lw (fun h=>d h.1),lw d]
theorem Bk {l:List α} {i j:Nat} (hi:i<aeD l) (hj:j<aeD l):(Cx l i j).Perm l:=by unfold Cx;rw [getElem!_pos l j hj,getElem!_pos l i hi];exact List.set_set_perm hi hj
noncomputable def HN (P:α->α->Prop):Nat->List α->List α
 |0,l=>l
 |j+1,l=>if P l[j+1]! l[j]! then HN P j (Cx l (j+1) j) else l
theorem I2 (P:α->α->Prop): ∀(j:Nat) (l:List α),j<aeD l->(HN P j l).Perm l
 |0,l,_=>adP _
 |j+1,l,h=>by
  unfold HN;split
  · exact (I2 P j _ (by rw [DB];omega)).trans (Bk h (by omega))
  exact adP _
def O2 (P:α->α->Prop) (l:List α) (n:Nat):Prop:= ∀a b,a<b->b<n-> ¬P l[b]! l[a]!
structure ale (P:α->α->Prop) (l:List α) (i j:Nat):Prop where
 lt:j<=i
 le:i<aeD l
 el: ∀a b,a<b->b<=i->a≠j->b≠j-> ¬P l[b]! l[a]!
 up: ∀b,j<b->b<=i-> ¬P l[b]! l[j]!
theorem VP (o:SOA P S): ∀(j i:Nat) (l:List α),(∀x∈l,S x)->ale P l i j->O2 P (HN P j l) (i+1):=by
 intro j
 induction j with
 |zero=>
  intro i l _ v a b h1 h2
  by_cases c:a=0
  · subst c;exact v.up b h1 (by omega)
  exact v.el a b h1 (by omega) c (by omega)
 |succ j ih=>
  intro i l hS v;have hi:=v.le;have hj:=v.lt;have sm: ∀k,k<aeD l->S l[k]!:=fun k hk=>hS _ (bn hk)
  have h1:j+1<(aeD l):=by omega
  have h0:j<(aeD l):=by omega
  unfold HN;split
  · rename_i hc
    refine ih i _ (fun x hx=>hS x ((Bk h1 h0).mem_iff.1 hx)) ⟨by omega,by rw [DB];exact hi,fun a b a1 a2 a3 a4=>?_,fun b b1 b2=>?_⟩
    · rw [xE l h1 h0,xE l h1 h0,lw a3,lw a4]
      by_cases c:a=j+1
      · subst c
        rw [ls rfl,lw (by omega)];exact v.el j b (by omega) a2 (by omega) (by omega)
      rw [lw c]
      by_cases d:b=j+1
      · subst d
        rw [ls rfl];exact v.el a j (by omega) (by omega) (by omega) (by omega)
      rw [lw d]
      exact v.el a b a1 a2 c d
    rw [xE l h1 h0,xE l h1 h0,ls rfl,lw (by omega)]
    by_cases c:b=j+1
    · subst c
      rw [ls rfl];exact o.asym (sm _ h1) (sm _ h0) hc
    rw [lw c]
    exact v.up b (by omega) b2
  rename_i hc
  intro a b a1 a2
  by_cases c:a=j+1
  · subst c;exact v.up b a1 (by omega)
  by_cases d:b=j+1
  · subst d
    by_cases e:a=j
    · subst e;exact hc
    exact o.ntr _ _ _ (sm _ h1) (sm _ h0) (sm _ (by omega)) hc (v.el a j (by omega) (by omega) c (by omega))
  exact v.el a b a1 (by omega) c d
noncomputable def y9 (P:α->α->Prop) (l:List α):Nat->List α
 |0=>l
 |i+1=>HN P i (y9 P l i)
theorem tL (P:α->α->Prop) (l:List α): ∀i,i<=aeD l->(y9 P l i).Perm l
 |0,_=>adP _
 |i+1,h=>by have p:=tL P l i (by omega);exact (I2 P i _ (by rw [p.length_eq];omega)).trans p
theorem He (o:SOA P S) {l:List α} (hS: ∀x∈l,S x): ∀i,i<=aeD l->O2 P (y9 P l i) i
 |0,_=>fun a b _ h=>by omega
 |i+1,h=>by have p:=tL P l i (by omega);have s:=He o hS i (by omega);refine VP o i i _ (fun x hx=>hS x (p.mem_iff.1 hx)) ⟨Do _,by rw [p.length_eq];omega,fun a b a1 a2 a3 a4=>s a b a1 (by omega),fun b b1 b2=>by omega⟩
end
section
variable {f : List Pt} {t : Int × Int}
abbrev rM (t:Int×Int) (p q:Pt):Prop:=leads p q t
theorem VQ {f:List Pt} (hs:gi f) (t:Int×Int):SOA (rM t) (fun p=>p∈f) where
 irr:=fun a _ h=>y6 h h
 tr:=fun _ _ _ _ _ _ h k=>qY h k
 ntr:=fun a b c ha hb hc h1 h2 h=>by
  by_cases e:b.1=c.1
  · have:b=c:=by rw [<- MK hs hb,<- MK hs hc,e]
    exact h1 (this▸h)
  rcases Classical.em (leads b c t) with k|k
  · exact h2 k
  exact h1 (qY h (qZ t e k))
theorem VS (hs:gi f) {l:List Pt} (p:l.Perm f) {i j:Nat} (hi:i<aeD l) (hj:j<aeD l) (dW:i≠j):(l[i]!).1≠(l[j]!).1:=by
 have nd:(iY l).Nodup:=(p.map fun x:Pt=>x.1).nodup_iff.2 (IS hs);intro e;have b: ∀k,k<aeD l->(iY l)[k]! =(l[k]!).1:=fun k hk=>by unfold iY;rw [getElem!_pos _ k (by rw [IR];exact hk),aei,getElem!_pos l k hk]
 have ll:(iY l).length=(aeD l):=IR ..;rcases adF i j with c|c|c
 · exact hM.1 nd i j c (by omega) (by rw [b i hi,b j hj];exact e)
 · exact dW c
 exact hM.1 nd j i c (by omega) (by rw [b i hi,b j hj];exact e.symm)
def i1S (n i j:Nat) (l:List Pt) (t:Int×Int):=((0:Int),(n:Int),(i:Int),(j:Int),l,t.1,t.2)
def i2S (n i:Nat) (l:List Pt) (t:Int×Int):=((0:Int),(n:Int),(i:Int),l,t.1,t.2)
theorem VT (cL:bC f) (r:bK t) (kS:lM t) {n:Nat} (hn:n<=64): ∀(j i:Nat) (l:List Pt),l.Perm f->aeD l=n->j<=i->i<n->
 ay aZ (i1S n i j l t)=aeE (.next (i2S n (i+1) (HN (rM t) j l) t)):=by
 intro j
 induction j with
 |zero=>intro i l p hl hj hi;refine aI ?_;unfold aZ i1S i2S;simp only [aC (show¬(0:Int)<((0:Nat):Int) by omega),lm,aV (show i<1000000000 by omega),HN]
 |succ j ih=>
  intro i l p hl hj hi;have h1:j+1<(aeD l):=by omega
  have h0:j<(aeD l):=by omega
  have m1:=p.mem_iff.1 (bn h1);have m0:=p.mem_iff.1 (bn h0);have ne:=VS cL.2.2 p h1 h0 (by omega);have ah:kK l[j+1]! l[j]! (t.1,t.2)=aeE (aeS (leads l[j+1]! l[j]! t),0):=by
   rcases xS (cL.2.1 _ m1) (cL.2.1 _ m0) kS r with h|⟨h,_⟩
   · rw [show ((t.1,t.2):Int×Int)=t from rfl,h,lw ne]
   exact absurd h ne
  have wp:aa .i64 (((j+1:Nat):Int) -1)=(j:Int):=by rw [jI ⟨by omega,by omega⟩];omega
  have g1:=ax l (j+1) h1;have g0:=ax l j h0;have gs:aH (cd l ((j+1:Nat):Int) l[j]!) (j:Int)=aeE ((cd l ((j+1:Nat):Int) l[j]!)[j]!):=ax _ j (by rw [vV];exact h0);have nb:((l[j+1]!).1==(l[j]!).1)=aeK:=by simpa using ne
  by_cases c:leads l[j+1]! l[j]! t
  · have s1:aZ (i1S n i (j+1) l t)=aeE (.next (i1S n i j (Cx l (j+1) j) t)):=by
     unfold aZ i1S;simp only [aE (show (0:Int)<((j+1:Nat):Int) by omega),lc,wp,g1,g0,aj,nb,lm,ah,aE c,beq_self_eq_true,gs];simp only [mq];rfl
    rw [aT s1];have pm:=(Bk h1 h0).trans p;rw [ih i (Cx l (j+1) j) pm (by rw [DB];exact hl) (by omega) hi]
    conv=>rhs;unfold HN
    rw [ls (show rM t l[j+1]! l[j]! from c)]
  refine aI ?_
  unfold aZ i1S;simp only [aE (show (0:Int)<((j+1:Nat):Int) by omega),lc,wp,g1,g0,aj,nb,lm,ah,aC c,beq_self_eq_true,aV (show i<1000000000 by omega)];unfold HN;rw [lw (show¬rM t l[j+1]! l[j]! from c)];rfl
theorem Se (cL:bC f) (r:bK t) (kS:lM t) {c0:Int×Int×List Pt×Int×Int} (hc:(aeD c0.2.2.1)=aeD f): ∀(d i:Nat),aeD f-i<=d->i<=aeD f->
 ay (ba c0) (i2S (aeD f) i (y9 (rM t) f i) t)=aeE (y9 (rM t) f (aeD f),t.1,t.2):=by
 have f1:=cL.1;intro d
 induction d with
 |zero=>
  intro i hd hi;have:i=(aeD f):=by omega
  subst this;have le:=(tL (rM t) f (aeD f) (Do _)).length_eq;refine aI ?_;unfold ba i2S;simp only [aC (show¬((aeD f):Int)<((aeD f):Int) by omega),lm,le,hc,beq_self_eq_true,lc]
 |succ d ih=>
  intro i hd hi
  by_cases e:i=aeD f
  · exact ih i (by omega) hi
  have pm:=tL (rM t) f i hi
  have s1:ba c0 (i2S (aeD f) i (y9 (rM t) f i) t)=aeE (.next (i2S (aeD f) (i+1) (y9 (rM t) f (i+1)) t)):=by have:=VT cL r kS f1 i i _ pm pm.length_eq (Do _) (show i<(aeD f) by omega);unfold ba;show (bif aeS ((i:Int)<((aeD f):Int)) then _ else _)=_;rw [aE (show (i:Int)<((aeD f):Int) by omega),lc];exact this
  rw [aT s1];exact ih (i+1) (by omega) (by omega)
theorem VU (s:ByteArray) {n:Nat} (h:n<=12) (hs:12<s.size): ∃r,rJ s (n:Int)=aeE r:=by show∃r,(s[n]?.map fun b=>(b.toNat:Int))=aeE r;rw [getElem?_pos s n (show n<s.size by omega)];exact ⟨_,rfl⟩
set_option maxRecDepth 100000 in
theorem ape {n:Nat} (h:n<=12): ∃r,qk (n:Int)=aeE r:=by
 unfold qk rD;rw [aC (show¬4294967296<=(n:Int) by omega),lm,aC (show¬65536<=(n:Int) by omega),lm,aC (show¬256<=(n:Int) by omega),lm];have w8:aa .u8 (n:Int)=(n:Int):=by
  have:n=0\/n=1\/n=2\/n=3\/n=4\/n=5\/n=6\/n=7\/n=8\/n=9\/n=10\/n=11\/n=12:=by omega
  rcases this with rfl|rfl|rfl|rfl|rfl|rfl|rfl|rfl|rfl|rfl|rfl|rfl|rfl<;>rfl
 have key: ∀s:ByteArray,12<s.size-> ∃r,((rJ s (aa .u8 (n:Int))).bind fun n7=>aeE (aa .i64 (0+aa .i64 n7))).bind (fun n0=>aeE n0)=aeE r:=fun s h12=>by obtain ⟨r,e⟩:=VU s h h12;rw [w8,e];exact ⟨_,rfl⟩
 exact key _ (by decide)
theorem Eo (cL:bC f) (r:bK t) (kS:lM t) (h12:(aeD f)<=12): ∃L:List Pt,sA ⟨f⟩ t=aeE (L,0)/\L.Perm f/\O2 (rM t) L (aeD f):=by
 have f1:=cL.1;obtain ⟨m,hm⟩:=ape h12;have pm:=tL (rM t) f (aeD f) (Do _);refine ⟨y9 (rM t) f (aeD f),?_,pm,He (VQ cL.2.2 t) (fun x hx=>hx) _ (Do _)⟩;have ins:bN (0,((aeD f):Int),f,t.1,t.2)=aeE (y9 (rM t) f (aeD f),t.1,t.2):=by
  unfold bN
  by_cases h0:(aeD f)=0
  · obtain rfl:f=[]:=ad5.1 h0
    refine aI ?_;unfold ba;rfl
  refine Eq.trans ?_ (Se cL r kS (c0:=(0,((aeD f):Int),f,t.1,t.2)) rfl (aeD f) 1 (by omega) (by omega))
  have:y9 (rM t) f 1=f:=rfl;rw [this];rfl
 have pdq:bX (0,((aeD f):Int),m,f,t.1,t.2)=aeE (y9 (rM t) f (aeD f),t.1,t.2):=by show cR (bG 999999) _=_;unfold cR;refine aI ?_;unfold ej;simp only [show aa .i64 (((aeD f):Int) -0)=((aeD f):Int) by rw [jI ⟨by omega,by omega⟩];omega,aE (show ((aeD f):Int)<=12 by omega),lc,ins,aj,pm.length_eq,beq_self_eq_true]
 have hc:cY ⟨f⟩=aeE 0:=by rw [fv];exact congrArg aeE (gg.2 cL)
 have ck:eD t=aeE 0:=by rw [dZ kS,ls r]
 have wl:aa .u64 (acl (aeD f))=((aeD f):Int):=by show (acl (Nat.mod (aeD f) 18446744073709551616))=_;rw [show Nat.mod (aeD f) 18446744073709551616=(aeD f) from Nat.mod_eq_of_lt (by omega)];rfl
 unfold sA dO;simp only [hc,aj,show ((0:Int) !=0)=aeK from rfl,lm,ck,bm (show (aeD f)<=1048576 by omega),wl,hm];rw [show bX (0,acl (aeD f),m,f,t)=_ from pdq];simp only [aj,pm.length_eq,beq_self_eq_true,lc]
theorem xW (cL:bC f) (r:bK t) (kS:lM t) (h12:(aeD f)<=12):(f=[]/\kN ⟨f⟩ t=aeE (0,42))\/
 ∃p,p∈f/\(∀q∈f,¬leads q p t)/\kN ⟨f⟩ t=aeE (p.1,0):=by
 obtain ⟨L,h1,h2,h3⟩:=Eo cL r kS h12;have le:=h2.length_eq;unfold kN;rw [h1,aj,show ((0:Int) !=0)=aeK from rfl,lm]
 by_cases h0:(aeD f)=0
 · obtain rfl:f=[]:=ad5.1 h0
   obtain rfl:L=[]:=ad5.1 le;exact .inl ⟨rfl,rfl⟩
 have hl:0<(aeD L):=by omega
 right;refine ⟨L[0]!,h2.mem_iff.1 (bn hl),fun q hq=>?_,?_⟩
 · obtain ⟨i,hi,rfl⟩:=aO.1 (h2.mem_iff.2 hq)
   by_cases c:i=0
   · subst c;exact fun h=>y6 h h
   exact h3 0 i (by omega) (by omega)
 rw [show ((acl (aeD L)==0):Bool)=aeK by simp only [aA,beq_eq_false_iff_ne];omega,lm,ax L 0 hl|>(fun h=>(h:aH L 0=aeE L[0]!)),aj]
end
def HO (p w:List Int):Nat->Nat
 |0=>0
 |m+1=>HO p w m+if 0<=aX p w m then 1 else 0
theorem MZ {p w:List Int} (hc:vA p w) (hn: ∀i,i<aeD w->w[i]!<0->aX p w (2*i+1)<0/\aX p w (2*i+2)<0):
 ∀k,k<=aeD w->HO p w (2*k+1)=(if 0<=aX p w 0 then 1 else 0)+HO p w k+(mT p w k).length
 |0,_=>by simp [HO,mT]
 |k+1,hk=>by
  have ih:=MZ hc hn k (by omega);have el:(mT p w (k+1)).length=(mT p w k).length+if 0<=aX p w (2*k+1)/\0<=aX p w (2*k+2) then 1 else 0:=by
   rw [uN,rc];cases h:rL p w k with
   |none=>
    unfold rL at h;rw [lw (fun q=>?_)]
    · rfl
    rw [lw (by omega)] at h;split at h<;>cases h
   |some e=>obtain ⟨a,b,_⟩:=tJ h;rw [ls ⟨a,b⟩];rfl
  rw [show 2*(k+1)+1=(2*k+1)+1+1 by omega,HO,HO,ih,el,HO];have e:aX p w k=w[k]!:=by unfold aX;rw [ls (by omega)]
  have c:=hc k (by omega);have n:=hn k (by omega);rw [e,show 2*k+1+1=2*k+2 by omega];generalize aX p w (2*k+1)=x at*;generalize aX p w (2*k+2)=y at*;generalize w[k]! =v at*
  by_cases hx:0<=x<;>by_cases hy:0<=y<;>by_cases hv:0<=v<;>simp only [hx,hy,hv,if_true,if_false,and_self,and_true,true_and,and_false,false_and]<;>omega
theorem O3 {p w:List Int} (k:Nat) (hk:k<=aeD p):HO p w (aeD w+k)=HO p w (aeD w)+(cT (p.take k)).length:=by
 induction k with
 |zero=>simp [cT]
 |succ k ih=>
  rw [show (aeD w)+(k+1)=(aeD w+k)+1 by omega,HO,ih (by omega),ly (by omega),rc];have e:aX p w (aeD w+k)=p[k]!:=by unfold aX;rw [lw (by omega)];congr 1;omega
  rw [e]
  by_cases h:0<=p[k]!
  · rw [ls h,ls h];simp;omega
  rw [lw h,lw h];simp
theorem M0 {p w:List Int} (br:HI p w):(fw p w).length+(if 0<=aX p w 0 then 1 else 0)=(cT p).length:=by have h1:=MZ br.cho br.none_ (aeD w) (Do _);have h2:=O3 (p:=p) (w:=w) (aeD p) (Do _);have:=br.len;rw [M2,show (aeD w)+aeD p=2*aeD w+1 by omega] at h2;rw [OV] at h1;omega
theorem M1 {f:List Pt} (cL:bC f) {t:Int×Int} {p:List Int} (pl:na f p):HI p (bD f t p):=by
 have R:=cZ (f:=f) (t:=t) pl.one;refine ⟨pl.one,pl.fa,R.1,pl.once,pl.Qg cL,R.mS,fun i hi h=>?_⟩;rw [R.2 i hi] at h;unfold tI at h;split at h
 · rename_i h1;exact ⟨h1,h⟩
 rename_i h1
 split at h
 · omega
 split at h<;>omega
theorem ald.ok {k:bk} (ok:mw k) {to:Int×Int} {r:bk} (h:ald k.jp.ii.am k.kw.aL to r):mw r:=by
 have pl:=pU ok.br ok.perm;refine ⟨h.DA,?_,?_,?_,?_,?_⟩
 · rw [h.br];exact M1 ok.DA.ju pl
 · rw [h.br];exact ok.pow
 · rw [h.br,h.ju];exact ok.perm
 · rw [h.br,h.ju,h.ci]
 rw [h.br];exact h.cert
theorem apf {f:List Pt} (cL:bC f) (p:Pt):
 (∃e:Int,e≠0/\gW ⟨f⟩ p=aeE (⟨[]⟩,e))\/
 (∃m,Qo f p m/\ ¬gx f p.1/\eY p/\aeD f<64/\gW ⟨f⟩ p=aeE (⟨tH f m p⟩,0)):=by
 have f1:=cL.1;have hc:cY ⟨f⟩=aeE 0:=by rw [fv];exact congrArg aeE (gg.2 cL)
 by_cases po:eY p
 case neg=>
  refine .inl ⟨8,by decide,?_⟩
  unfold gW;rw [hc,aj,bB rfl,lm,fD,lw po];rfl
 by_cases hp:gx f p.1
 · obtain ⟨k,hk,he,e⟩:=OT cL hp
   refine .inl ⟨14,by decide,?_⟩
   unfold gW;rw [hc,aj,bB rfl,lm,fD,ls po,aj,bB rfl,lm,e];rfl
 obtain ⟨m,hm,e⟩:=OS cL hp
 by_cases full:(aeD f)=64
 · refine .inl ⟨18,by decide,?_⟩
   unfold gW;rw [hc,aj,bB rfl,lm,fD,ls po,aj,bB rfl,lm,e,aj,lm]
   simp only [aA,full];rfl
 have hl:(aeD f)<64:=by omega
 have hf:(acl (aeD f)==64)=aeK:=by simp only [aA,beq_eq_false_iff_ne];omega
 refine .inr ⟨m,hm,hp,po,hl,?_⟩
 have hi:zn f (m:Int) [p]=aeE (tH f m p):=by
  unfold zn;rw [ls ⟨by omega,by have:=hm.le;simpa using this,rfl,by omega⟩];simp [tH]
 unfold gW;rw [hc,aj,bB rfl,lm,fD,ls po,aj,bB rfl,lm,e,aj,lm,hf,lm,bm (show (aeD f)<=1048576 by omega),aj,hi,aj]
theorem VV {f:List Pt} (cL:bC f) (p:Pt):
 (∃e:Int,e≠0/\ei ⟨f⟩ p=aeE (⟨[]⟩,e))\/
 (∃k,k<aeD f/\(f[k]!).1=p.1/\eY p/\ei ⟨f⟩ p=aeE (⟨f.set k p⟩,0)):=by
 have f1:=cL.1;have hc:cY ⟨f⟩=aeE 0:=by rw [fv];exact congrArg aeE (gg.2 cL)
 by_cases po:eY p
 case neg=>
  refine .inl ⟨8,by decide,?_⟩
  unfold ei;rw [hc,aj,bB rfl,lm,fD,lw po];rfl
 by_cases hp:gx f p.1
 case neg=>
  refine .inl ⟨6,by decide,?_⟩
  unfold ei;rw [hc,aj,bB rfl,lm,fD,ls po,aj,bB rfl,lm,Ar cL hp];rfl
 obtain ⟨k,hk,he⟩:=hp;have pl:=Ea cL hk;rw [he] at pl;refine .inr ⟨k,hk,he,po,?_⟩
 unfold ei
 rw [hc,aj,bB rfl,lm,fD,ls po,aj,bB rfl,lm,pl,aj,bB rfl,lm,bm (show (aeD f)<=1048576 by omega),aj,ax f k hk,aj,mq]
theorem alf {f:List Pt} (cL:bC f) {k:Nat} (hk:k<aeD f):hJ ⟨f⟩ (f[k]!).1=aeE (⟨f.eraseIdx k⟩,0):=by have f1:=cL.1;obtain ⟨L,d1,d2⟩:=yW f k hk;unfold hJ;rw [Ea cL hk,aj,bB rfl,lm,bm (show (aeD f)<=1048576 by omega),aj,aV (show k<1000000000 by omega),Kn,d1,aj];show aeE (Field.mk (L.take (aeD f-1)),(0:Int))=_;rw [d2]
theorem alg {f:List Pt} (cL:bC f) {id:Int} (h: ¬gx f id):hJ ⟨f⟩ id=aeE (⟨[]⟩,6):=by unfold hJ;rw [Ar cL h];rfl
theorem VW {l:List Int} (hl:(aeD l)<=1000) (x:Int): ∃m,Eb l x m:=by
 have ix:=MI l (-1) (by omega)
 by_cases h: ∃i,i<aeD l/\l[i]! = -1
 · obtain ⟨k,k1,k2,k3⟩:=least h
   have k3: ∀j,j<k->l[j]!≠ -1:=k3;exact ⟨_,.at_ k k1 k2 k3 (ix.1 k k1 k2 k3)⟩
 have h2: ∀j,j<aeD l->l[j]!≠ -1:=fun j hj e=>h ⟨j,hj,e⟩
 exact ⟨_,.end_ h2 (ix.2 h2)⟩
theorem alh {k:bk} (ok:mw k) (sh:nM k) (c1:fC k=aeE 0): ∃b:Int×Int,lx k=aeE b/\(b=(0,42)/\aeD k.jp.ii.am=0\/ ∃i,GU (ahP k.jp.ii.am k.jp.ci) 0 (aeD k.jp.ii.am) i/\b=((k.jp.ii.am[i]!).1,0)):=by
 have cL:=ok.DA.ju;have f1:=cL.1;have s1:=sh.p;have s2:=sh.w;have b1:=ok.br.one;have b2:=ok.br.fa;have b3:=ok.br.len;have pl:=pU ok.br ok.perm;have R:Cr k.jp.ii.am k.jp.ci k.kw.aL k.kw.gE:=by rw [ok.right];exact cZ pl.one
 have bc:jz k.kw=aeE 0:=by have:=wz k.kw.aL k.kw.gE s1 s2;rw [ls ok.br] at this;exact this
 have nd:fY k.kw 0=aeE (aX k.kw.aL k.kw.gE 0):=k9 (p:=k.kw.aL) (w:=k.kw.gE) (i:=0) (by omega) (by omega);unfold lx tj;rw [c1,aj,bB rfl,lm,bc,aj,bB rfl,lm,nd,aj]
 by_cases h0:(aeD k.jp.ii.am)=0
 · refine ⟨(0,42),?_,.inl ⟨rfl,h0⟩⟩
   rw [aC (fun h=>?_)]
   · rfl
   have m:=gK R.1 R.mS (i:=0) (by omega);have:=ok.perm.mem_iff.2 (iK.2 ⟨m,h⟩);obtain ⟨i,hi,_⟩:=sE.1 this;omega
 obtain ⟨i,tp,e,r0⟩:=MV cL pl R ok.perm (by omega)
 have hi:=tp.hi;refine ⟨((k.jp.ii.am[i]!).1,0),?_,.inr ⟨i,tp,rfl⟩⟩
 rw [aE r0,lc,e];rfl
theorem aew {k:bk} (ok:mw k) (sh:nM k) (h12:(aeD k.jp.ii.am)<=12) (c1:fC k=aeE 0): ∃b,lx k=aeE b/\kN k.jp.ii k.jp.ci=aeE b:=by
 obtain ⟨b,b1,b3⟩:=alh ok sh c1;refine ⟨b,b1,?_⟩;have cL:=ok.DA.ju;rcases b3 with ⟨rfl,h0⟩|⟨i,tp,rfl⟩
 · rcases xW cL ok.DA.lK ok.DA.fM h12 with ⟨_,m⟩|⟨p,hp,_,_⟩
   · exact m
   have:=List.length_pos_of_mem hp;omega
 have hi:=tp.hi
 rcases xW cL ok.DA.lK ok.DA.fM h12 with ⟨h0,_⟩|⟨p,hp,hm,m⟩
 · rw [h0] at hi;exact absurd hi (ael _)
 obtain ⟨j,hj,rfl⟩:=aO.1 hp
 have:i=j:=PP fun h=>hm _ (bn hi) (tp.top j (adC _) hj (fun e=>h e.symm))
 subst this;exact m
theorem VX {to:Int×Int} (rt:bK to) (kS:lM to) {p:List Int} (d:Int)
 (ih: ∀(c:aK) (out:List (Int×Int)),1000000-mP c<d->aY c->na c.ii.am p->(c.ai.ce.map fun x=>x.2).Perm (fw p (bD c.ii.am c.ci p))-> ¬kO to c.ci<0->((aeD out):Int)<=mP c+200->
  ∃R:bk×List (Int×Int)×Int,ay fh (tP c p (bD c.ii.am c.ci p) to out)=aeE R/\Kx R/\adk c.ii.am p to R)
 (c:aK) (out:List (Int×Int)) (hd:1000000-mP c<=d) (ok:aY c) (pl:na c.ii.am p) (cp:(c.ai.ce.map fun x=>x.2).Perm (fw p (bD c.ii.am c.ci p))) (le: ¬kO to c.ci<0) (ho:((aeD out):Int)<=mP c+200):
 ∃R:bk×List (Int×Int)×Int,ay fh (tP c p (bD c.ii.am c.ci p) to out)=aeE R/\Kx R/\adk c.ii.am p to R:=by
 have bd:=ok.bd;have rb:=Ku ok;have B:=cZ (f:=c.ii.am) (t:=c.ci) pl.one;have B1:=B.1;have pm:=pl.fa;have tU:(aK.mk (c.ci.1,c.ci.2) (Field.mk c.ii.am) (bF.mk c.ai.aN c.ai.ce) (aJ.mk (bj.mk c.ae.af.aB c.ae.af.be c.ae.af.bi) c.ae.bv c.ae.ar) c.io)=c:=rfl;have ali:((to.1,to.2):Int×Int)=to:=rfl;have ct: ∀e∈fw p (bD c.ii.am c.ci p),rG c.ai.ce e:=fun e he=>tG.2 (cp.mem_iff.2 he)
 by_cases io:R8 c to
 · obtain ⟨x,c1,e1,e2,Ba,hf,_,hr,hn⟩:=VJ ok rt kS le io
   obtain ⟨R,s1,_,s3⟩:=Bh Ba Ba.ju (p:=p) (by rw [hf];exact pl);have s1:kg c1 c1.ii p=aeE R:=s1;have ol:bJ out [x]=aeE (out++[x]):=dJ (by rw [v6];omega);rcases s3 with ⟨q0,qs⟩|he
   · have oo:fh (tP c p (bD c.ii.am c.ci p) to out)=aeE (.next (tP R.1.jp R.1.kw.aL R.1.kw.gE to (out++[x]))):=by
      unfold fh tP;simp only [tU,ali,e1,aj,s1,q0,show ((0:Int) !=0)=aeK from rfl,lm,ol]
     have rr:=qs.uO.room;rw [aT oo,qs.aL];have e3:bD c1.ii.am c1.ci p=bD R.1.jp.ii.am R.1.jp.ci p:=by rw [qs.uO.ju,qs.uO.ci]
     dsimp only;rw [e3];have e4:R.1.jp.ii.am=c.ii.am:=by rw [qs.uO.ju,hf]
     have nd:=(mv qs.uO.ok.ju qs.uO.ok.fM (t:=R.1.jp.ci) (p:=p) (by rw [e4];exact pl)).2.1;have cp2:(R.1.jp.ai.ce.map fun x=>x.2).Perm (fw p (bD R.1.jp.ii.am R.1.jp.ci p)):=by
      refine (adA (y5 qs.uO.ok.sM) nd).2 fun e=>⟨fun h=>?_,fun h=>?_⟩
      · obtain ⟨x,hx,rfl⟩:=aez.1 h
        rw [<- e3];exact qs.uO.sub x hx
      rw [<- e3] at h
      exact tG.1 (qs.uO.has e h)
     rw [<- e4];refine ih R.1.jp _ (by omega) qs.uO.ok (by rw [e4];exact pl) cp2 (fun h=>?_) (by rw [rc,v6];omega);have h2:=io.2;rw [qs.uO.ci,hn,sB] at h;have: ¬0<kO (Ev.at c.ae.bv[0]!) to:=by omega
     unfold kO at this;rcases ef ((Ev.at c.ae.bv[0]!).1*to.2) (to.1*(Ev.at c.ae.bv[0]!).2) with ⟨a,b⟩|⟨a,b⟩|⟨a,b⟩<;>omega
   refine ⟨(qt,[],18),aI ?_,⟨HM,by decide⟩,.inl rfl⟩
   unfold fh tP
   simp only [tU,ali,e1,aj,s1,he,show ((0:Int) !=0)=aeK from rfl,show ((18:Int) !=0)=aeF from rfl,lm,lc];rfl
 have h1:kE c.ii to p=_:=tK ok.ju rt kS pl
 rw [vB ok pl ct rt le io] at h1;have sh:nM ⟨c,⟨p,bD c.ii.am c.ci p⟩⟩:=⟨ok.short,by show (aeD p)<=1000;omega,by show (bD c.ii.am c.ci p).length<=1000;omega⟩;refine ⟨(⟨atT c to,⟨p,bD c.ii.am c.ci p⟩⟩,out,0),aI ?_,⟨⟨?_,sh.p,sh.w⟩,by show (aeD out)<=1048576;omega⟩,.inr ⟨rfl,VO ok rt kS le io,rfl,rfl,?_,?_,io⟩⟩
 · unfold fh tP
   simp only [tU,ali,VK ok rt kS le io,aj,show ((6:Int) !=0)=aeF from rfl,lc,adf ok rt kS le io];rw [show kE (atT c to).ii to p=_ from h1,aj]
 · have:=ok.short
   exact ⟨this.f,this.l,this.d,this.h,this.w,this.s1,this.s2,this.s3⟩
 · rw [vB ok pl ct rt le io]
 rw [vB ok pl ct rt le io];exact cp
theorem auA {to:Int×Int} (rt:bK to) (kS:lM to) {p:List Int}: ∀(d:Nat) (c:aK) (out:List (Int×Int)),1000000-mP c<=(d:Int)->aY c->na c.ii.am p->(c.ai.ce.map fun x=>x.2).Perm (fw p (bD c.ii.am c.ci p))-> ¬kO to c.ci<0->((aeD out):Int)<=mP c+200->
 ∃R:bk×List (Int×Int)×Int,ay fh (tP c p (bD c.ii.am c.ci p) to out)=aeE R/\Kx R/\adk c.ii.am p to R:=by
 intro d
 induction d with
 |zero=>exact fun c out hd ok pl cp le ho=>VX rt kS 0 (fun c _ h ok _ _ _ _=>by have:=(Ku ok).2;omega) c out hd ok pl cp le ho
 |succ d ih=>exact fun c out hd ok pl cp le ho=>VX rt kS ((d+1:Nat):Int) (fun c out h=>ih c out (by omega)) c out hd ok pl cp le ho
theorem apg {k:bk} (ok:mw k) (sh:nM k) {to:Int×Int} (rt:bK to) (kS:lM to) (le: ¬kO to k.jp.ci<0):
 ∃R:bk×List (Int×Int)×Int,o4 k to=aeE R/\Kx R/\adk k.jp.ii.am k.kw.aL to R:=by
 have c1:fC k=aeE 0:=by rw [xU ok.DA.fit sh.p sh.w,ls ok]
 have rb:=Ku ok.DA;have pl:=pU ok.br ok.perm;obtain ⟨R,r1,r3,r4⟩:=auA rt kS (p:=k.kw.aL) (1000000-mP k.jp).toNat k.jp [] (by omega) ok.DA pl (by rw [<- ok.right];exact ok.cert) le (by simp;omega);rw [<- ok.right] at r1;refine ⟨R,?_,r3,r4⟩;unfold o4;rw [c1,aj,bB rfl,lm,dZ kS,ls rt,aj,bB rfl,lm,Gg kS ok.DA.fM,ls ⟨rt,ok.DA.lK⟩,aj,aC le];exact r1
structure HP (R:bk) (F:List Pt) (P:List Int) (t:Int×Int):Prop where
 ok:mw R
 ju:R.jp.ii.am=F
 ci:R.jp.ci=t
 pls:R.kw.aL=P
theorem Qr {f:List Pt} {p:List Int} (cL:bC f) (pl:na f p) (h: ∀x,gx f x->x∈p):(iY f).Perm (cT p):=
 (adA (IS cL.2.2) (Bj pl.once)).2 fun x=>⟨fun hx=>by
  have hp:=sE.1 hx;obtain ⟨i,hi,e⟩:=hp;have:=cL.2.1 _ (bn hi);unfold eY at this;exact iK.2 ⟨h x ⟨i,hi,e⟩,by omega⟩,fun hx=>by
  obtain ⟨h1,h2⟩:=iK.1 hx;exact sE.2 ((pl.ids x h1).has h2)⟩
theorem R9.auB {c:aK} (ok:aY c) {f:List Pt} (cL:bC f) {p:List Int} (pl:na f p) (pw:Cw (aeD p)) (pm:(iY f).Perm (cT p)) {k:bk} (h:R9 c f p k):HP k f p c.ci:=by have q:=h.uO;have b:=h.aL;obtain ⟨_,nd,_⟩:=mv cL ok.fM (t:=c.ci) pl;refine ⟨⟨q.ok,by rw [b];exact M1 cL pl,by rw [b];exact pw,by rw [q.ju,b];exact pm,by rw [b,q.ju,q.ci],?_⟩,q.ju,q.ci,by rw [b]⟩;rw [b];exact MJ (y5 q.ok.sM) nd (fun z hz=>by obtain ⟨y,hy,rfl⟩:=aez.1 hz;exact q.sub y hy) (fun z hz=>tG.1 (q.has z hz))
theorem Hf {c:aK} (ok:aY c) {f:List Pt} (cL:bC f) {p:List Int} (pl:na f p) (pw:Cw (aeD p)) (pm:(iY f).Perm (cT p)):
 ∃R:bk×Int,cO c ⟨f⟩ p=aeE R/\(R=(qt,18)\/R.2=0/\HP R.1 f p c.ci):=by
 obtain ⟨R,r1,_,r3⟩:=Bi ok cL pl;refine ⟨R,r1,?_⟩;rcases r3 with ⟨a,b⟩|h
 · exact .inr ⟨a,b.auB ok cL pl pw pm⟩
 exact .inl h
theorem Eb.mem {l q:List Int} {x:Int} (h:Eb l x q):x∈q/\ ∀y∈l,0<=y->y∈q:=by
 cases h with
 |at_ k hk e _ _=>
  refine ⟨List.mem_set hk x,fun y hy h0=>?_⟩;obtain ⟨i,hi,rfl⟩:=aO.1 hy;have:i≠k:=fun a=>by rw [a,e] at h0;exact absurd h0 (by decide)
  have g:=aU l k i x;rw [lw (fun h=>this h.1)] at g;rw [<- g];exact bn (by rw [ut];exact hi)
 |end_ _ _=>exact ⟨by simp,fun y hy _=>by simp [hy]⟩
theorem VY {n:Nat} (h:Cw n) (h1:1<n):Cw (n / 2):=by
 obtain ⟨i,hi,rfl⟩:=h;cases i with
 |zero=>exact absurd h1 (by decide)
 |succ i=>exact ⟨i,by omega,by rw [Kv];omega⟩
theorem adn {n:Nat} (h:Cw n) (h1:n<=32):Cw (2*n):=by
 obtain ⟨i,hi,rfl⟩:=h;refine ⟨i+1,?_,(Kv i).symm⟩;rcases aey i 6 with a|a
 · omega
 obtain rfl:i=6:=by omega
 exact absurd h1 (by decide)
theorem VZ {l q:List Int} {x:Int} (h1:1<=aeD l) (h:Eb l x q):(aeD q=aeD l/\ ∃k,k<aeD l/\l[k]! = -1)\/(aeD q=2*aeD l/\ ∀j,j<aeD l->l[j]!≠ -1):=by
 cases h with
 |at_ k hk e _ _=>exact .inl ⟨ut,k,hk,e⟩
 |end_ h _=>exact .inr ⟨by rw [rc,rc,v6,ww];omega,h⟩
theorem V0 {l:List Int} {j:Nat}:(xV l j).length=if 1<aeD l/\4*(cT (l.set j (-1))).length<=(aeD l) then (aeD l) / 2 else (aeD l):=by
 unfold xV;split
 · rw [rc,ww];omega
 rw [ut]
theorem V1 {l:List Int} {j:Nat} {x:Int} (hx:x∈l) (h0:0<=x) (dW:x≠l[j]!):x∈xV l j:=by
 have a:x∈l.set j (-1):=by obtain ⟨i,hi,rfl⟩:=aO.1 hx;have g:=aU l j i (-1);rw [lw (fun h=>dW (by rw [h.1]))] at g;rw [<- g];exact bn (by rw [ut];exact hi)
 unfold xV;split
 · exact List.mem_append_left _ (iK.2 ⟨a,h0⟩)
 exact a
section
variable {k : bk} (ok : mw k) (sh : nM k)
include ok sh
theorem Cy:fC k=aeE 0:=by rw [xU ok.DA.fit sh.p sh.w,ls ok]
theorem ado:mn k=aeE 0:=by rw [y8 ok.DA.fit sh.p sh.w,ls ok]
theorem V2 (p:Pt):(∃e:Int,e≠0/\gW k.jp.ii p=aeE (⟨[]⟩,e)/\og k p=aeE (qt,e))\/
 ∃(m:Nat) (q:List Int),Qo k.jp.ii.am p m/\ ¬gx k.jp.ii.am p.1/\eY p/\gW k.jp.ii p=aeE (⟨tH k.jp.ii.am m p⟩,0)/\bC (tH k.jp.ii.am m p)/\
  Eb k.kw.aL p.1 q/\na (tH k.jp.ii.am m p) q/\Cw (aeD q)/\(iY (tH k.jp.ii.am m p)).Perm (cT q)/\
  ∀R,cO k.jp ⟨tH k.jp.ii.am m p⟩ q=aeE R->og k p=aeE R:=by
 have c1:=Cy ok sh;have cL:=ok.DA.ju;have pl:=ok.aL;rcases apf cL p with ⟨e,e0,t1⟩|⟨m,hm,hp,po,dV,t1⟩
 · have t1:gW k.jp.ii p=aeE (⟨[]⟩,e):=t1
   refine .inl ⟨e,e0,t1,?_⟩;unfold og;rw [c1,aj,bB rfl,lm,t1,aj,cS e0,lc];rfl
 have t1:gW k.jp.ii p=aeE (⟨tH k.jp.ii.am m p⟩,0):=t1;have DC:=ac9 cL po hm dV;have fa:=pl.fa;have one:=pl.one;have full:=adm ok dV;obtain ⟨q,w2⟩:=VW (l:=k.kw.aL) (by omega) p.1;have p0:0<=p.1:=by have:=po;unfold eY at this;omega
 have Sf:na (tH k.jp.ii.am m p) q:=O0 pl p0 hp full w2;refine .inr ⟨m,q,hm,hp,po,t1,DC,w2,Sf,?_,Qr DC Sf fun x hx=>?_,fun R s1=>?_⟩
 · rcases VZ one w2 with ⟨a,_⟩|⟨a,b⟩
   · rw [a];exact ok.pow
   rw [a];exact adn ok.pow (full b)
 · obtain ⟨i,hi,rfl⟩:=hx
   rcases Ko.1 (bn hi) with h|h
   · rw [h];exact w2.mem.1
   obtain ⟨j,hj,e⟩:=aO.1 h
   have:=cL.2.1 _ h;unfold eY at this;have hx:((tH k.jp.ii.am m p)[i]!).1∈cT k.kw.aL:=ok.perm.mem_iff.1 (sE.2 ⟨j,hj,by rw [e]⟩);exact w2.mem.2 _ (iK.1 hx).1 (by omega)
 unfold og
 rw [c1,aj,bB rfl,lm,t1,aj,bB rfl,lm,bm (by omega),aj];cases w2 with
 |at_ j hj e h hi=>rw [hi,aj,aC (show¬(j:Int)<0 by omega),lm,ax _ j hj,aj,mq,s1,aj]
 |end_ h hi=>
  obtain ⟨i,hi7,hpw⟩:=ok.pow;have rep:=OZ i (by omega);rw [<- hpw] at rep;rw [hi,aj,aE (show (-1:Int)<0 by decide),lc,aA,rep,aj];have em:(pp (aeD k.kw.aL) (-1:Int)).isEmpty=aeK:=by
   cases hh:(aeD k.kw.aL) with
   |zero=>omega
   |succ _=>rfl
  rw [em,lm,dJ (by rw [ww];omega),aj,ax _ _ (by rw [rc,ww];omega),aj,mq];have:(k.kw.aL++pp (aeD k.kw.aL) (-1:Int)).set (aeD k.kw.aL) p.1=k.kw.aL++[p.1]++pp (aeD k.kw.aL-1) (-1):=by
   rw [List.set_append_right _ _ (Do _),aex];cases hh:(aeD k.kw.aL) with
   |zero=>omega
   |succ n=>simp [List.replicate_succ]
  rw [this,s1,aj]
theorem Sg (id:Int):(¬gx k.jp.ii.am id/\hJ k.jp.ii id=aeE (⟨[]⟩,6)/\mi k id=aeE (qt,6))\/
 ∃q j:Nat,q<aeD k.jp.ii.am/\(k.jp.ii.am[q]!).1=id/\j<aeD k.kw.aL/\k.kw.aL[j]! =id/\0<=id/\hJ k.jp.ii id=aeE (⟨k.jp.ii.am.eraseIdx q⟩,0)/\
  bC (k.jp.ii.am.eraseIdx q)/\na (k.jp.ii.am.eraseIdx q) (xV k.kw.aL j)/\Cw (xV k.kw.aL j).length/\(iY (k.jp.ii.am.eraseIdx q)).Perm (cT (xV k.kw.aL j))/\
  (cT (k.kw.aL.set j (-1))).length=aeD k.jp.ii.am-1/\
  ∀R,cO k.jp ⟨k.jp.ii.am.eraseIdx q⟩ (xV k.kw.aL j)=aeE R->mi k id=aeE R:=by
 have c1:=Cy ok sh;have cL:=ok.DA.ju;have pl:=ok.aL;have fa:=pl.fa;have one:=pl.one
 by_cases hid:gx k.jp.ii.am id
 case neg=>have t1:hJ k.jp.ii id=aeE (⟨[]⟩,6):=alg cL hid;refine .inl ⟨hid,t1,?_⟩;unfold mi;rw [c1,aj,bB rfl,lm,t1,aj,cS (by decide),lc];rfl
 have hm:=iK.1 (ok.perm.mem_iff.1 (sE.2 hid));obtain ⟨q,hq,hqe⟩:=hid;have t1:=alf cL hq;rw [hqe] at t1;have t1:hJ k.jp.ii id=aeE (⟨k.jp.ii.am.eraseIdx q⟩,0):=t1;have DC:=VE cL q;obtain ⟨j,hj,e,ix,_⟩:=R4 (l:=k.kw.aL) (by omega) hm.1;have h0:0<=k.kw.aL[j]!:=by rw [e];exact hm.2
 have Sf:na (k.jp.ii.am.eraseIdx q) (xV k.kw.aL j):=MX pl hj h0 fun x hx dW=>Sd cL.2.2 hq hx (by rw [hqe,<- e];exact dW)
 have fl:(k.jp.ii.am.eraseIdx q).length=(cT (k.kw.aL.set j (-1))).length:=by have a:=Sc hj h0;have b:=ok.perm.length_eq;rw [lz] at b;have:=zM hq;omega
 refine .inr ⟨q,j,hq,hqe,hj,e,hm.2,t1,DC,Sf,?_,Qr DC Sf fun x hx=>?_,by have:=zM hq;omega,fun R s1=>?_⟩
 · rw [V0]
   split
   · rename_i h;exact VY ok.pow h.1
   exact ok.pow
 · obtain ⟨i,hi,rfl⟩:=hx
   obtain ⟨a,b⟩:=(IU cL.2.2 hq).1 (bn hi);obtain ⟨i',uY,e'⟩:=aO.1 a;have hx:=iK.1 (ok.perm.mem_iff.1 (sE.2 ⟨i',uY,by rw [e']⟩));exact V1 hx.1 hx.2 (by rw [e,<- hqe];exact b)
 unfold mi
 rw [c1,aj,bB rfl,lm,t1,aj,bB rfl,lm,bm (by omega),aj,ix,aj,ax _ j hj,aj];simp only [mq,aA,ut,fl];have il:(cT (k.kw.aL.set j (-1))).length<=(aeD k.kw.aL):=by have:=adc (fun x:Int=>decide (0<=x)) (k.kw.aL.set j (-1));rw [ut] at this;unfold cT;omega
 rw [jI (n:=4*((cT (k.kw.aL.set j (-1))).length:Int)) ⟨by omega,by omega⟩];unfold xV at s1
 by_cases a:1<aeD k.kw.aL
 · rw [aE (by omega),lc]
   by_cases b:4*(cT (k.kw.aL.set j (-1))).length<=aeD k.kw.aL
   · rw [aE (by omega),lc,MY]
     rw [ls ⟨a,b⟩] at s1;obtain ⟨N,M,m1,m2,m3,m4⟩:=Au (k.kw.aL.set j (-1)) (by rw [ut];omega);rw [ut] at m1 m3;have w2:aa .i64 (aa .i64 (Int.tdiv ((aeD k.kw.aL):Int) 2) - (N:Int))=(((aeD k.kw.aL) / 2-N:Nat):Int):=by rw [Int.tdiv_eq_ediv_of_nonneg (by omega),jI (n:=((aeD k.kw.aL):Int) / 2) ⟨by omega,by omega⟩,jI ⟨by omega,by omega⟩];omega
     rw [m1,aj];simp only [];rw [w2,Sb _ (by omega) (by omega),aj];have em:(pp ((aeD k.kw.aL) / 2-N) (-1:Int)).isEmpty=aeK:=by
      cases hh:(aeD k.kw.aL) / 2-N with
      |zero=>omega
      |succ _=>rfl
     have b1:Nat.ble (N+((aeD k.kw.aL) / 2-N)) (aeD k.kw.aL)=aeF:=by rw [Nat.ble_eq];omega
     have lay:(fA M N (pp ((aeD k.kw.aL) / 2-N) (-1:Int))).take (N+((aeD k.kw.aL) / 2-N))=cT (k.kw.aL.set j (-1))++pp ((aeD k.kw.aL) / 2-N) (-1):=by unfold fA;rw [m4,NE (by rw [rc,ww];omega),adK (by rw [rc,ww];omega)]
     rw [em,lm,ww,b1,lc,m3,b1];simp only [ad6,adG,lc];rw [lay,m2,s1,aj]
   rw [aC (by omega),lm]
   rw [lw (fun h=>b h.2)] at s1;rw [s1,aj]
 rw [aC (by omega),lm]
 rw [lw (fun h=>a h.1)] at s1;rw [s1,aj]
theorem M3 (p:Pt):(∃e:Int,e≠0/\ei k.jp.ii p=aeE (⟨[]⟩,e)/\jt k p=aeE (qt,e))\/
 ∃q:Nat,q<aeD k.jp.ii.am/\(k.jp.ii.am[q]!).1=p.1/\eY p/\ei k.jp.ii p=aeE (⟨k.jp.ii.am.set q p⟩,0)/\bC (k.jp.ii.am.set q p)/\
  na (k.jp.ii.am.set q p) k.kw.aL/\(iY (k.jp.ii.am.set q p)).Perm (cT k.kw.aL)/\
  ∀R,cO k.jp ⟨k.jp.ii.am.set q p⟩ k.kw.aL=aeE R->jt k p=aeE R:=by
 have c1:=Cy ok sh;have cL:=ok.DA.ju;have pl:=ok.aL;rcases VV cL p with ⟨e,e0,t1⟩|⟨q,hq,he,po,t1⟩
 · have t1:ei k.jp.ii p=aeE (⟨[]⟩,e):=t1
   refine .inl ⟨e,e0,t1,?_⟩;unfold jt;rw [c1,aj,bB rfl,lm,t1,aj,cS e0,lc];rfl
 have t1:ei k.jp.ii p=aeE (⟨k.jp.ii.am.set q p⟩,0):=t1;have DC:=ak9 cL po hq he;have auC: ∀x,gx k.jp.ii.am x->gx (k.jp.ii.am.set q p) x:=fun x ⟨i,hi,e⟩=>by
  refine ⟨i,by rw [ut];exact hi,?_⟩;rw [aU]
  by_cases a:i=q
  · rw [ls ⟨a,hq⟩,<- he,<- a];exact e
  rw [lw (fun h=>a h.1)];exact e
 have Sf:na (k.jp.ii.am.set q p) k.kw.aL:=⟨pl.one,pl.fa,pl.once,fun x hx=>(pl.ids x hx).imp id fun h=>⟨h.1,auC x h.2⟩⟩;refine .inr ⟨q,hq,he,po,t1,DC,Sf,by rw [ade hq he];exact ok.perm,fun R s1=>?_⟩;unfold jt;rw [c1,aj,bB rfl,lm,t1,aj,bB rfl,lm,s1,aj]
end
theorem HP.Qs {R:bk} {F:List Pt} {P:List Int} {t:Int×Int} (h:HP R F P t):nM R:=by have a:=h.ok.br.len;have b:=h.ok.br.fa;exact ⟨h.ok.DA.short,by omega,by omega⟩
theorem V3 (k:bk) (n:MF k.jp):wa k=aeE aeK\/(wa k=aeE aeF/\nM k/\aeD k.jp.ii.am<=10/\mw k):=by
 unfold wa;rcases MW k with e|⟨e,sh⟩
 · rw [e];exact .inl rfl
 rw [e,aj,ad6,lc];unfold A6;rw [aj,aA]
 by_cases h:10<aeD k.jp.ii.am
 · rw [aE (by omega)];exact .inl rfl
 rw [aC (by omega),ad6,lc,y8 (mw.fit k n sh) sh.p sh.w,aj]
 by_cases ok:mw k
 · rw [ls ok];exact .inr ⟨rfl,sh,by omega,ok⟩
 rw [lw ok];exact .inl rfl
theorem HP.auD {R:bk} {F:List Pt} {P:List Int} {t:Int×Int} (h:HP R F P t):mn R=aeE 0:=ado h.ok h.Qs
theorem HP.aph {R:bk} {F:List Pt} {P:List Int} {t:Int×Int} (h:HP R F P t):R.jp.ii=⟨F⟩:=by have:=h.ju;cases h1:R.jp.ii;rw [h1] at this;exact congrArg Field.mk this
theorem Sh {R:bk} {F:List Pt} {P:List Int} {t to:Int×Int} (h:HP R F P t) (h12:(aeD F)<=12) (kS:lM to):ff R ⟨F⟩ t to=aeE aeF:=by
 have ok:=h.ok;have cL:=ok.DA.ju;have pl:=ok.aL;have c1:=Cy ok h.Qs;have c2:=h.auD;obtain ⟨b,l1,l2⟩:=aew ok h.Qs (by rw [h.ju];exact h12) c1;rw [h.aph,h.ci] at l2;have ct:=ok.cert.length_eq;rw [IR] at ct;have ec:=M0 ok.br;rw [<- ok.perm.length_eq,lz,h.ju] at ec;have nw:lM t:=by rw [<- h.ci];exact ok.DA.fM
 have ln:(((aeD R.jp.ai.ce):Nat):Int)=(if aa .i64 (((aeD F):Int) -1)>0 then aa .i64 (((aeD F):Int) -1) else 0):=by
  rw [jI ⟨by omega,by omega⟩,ct]
  by_cases h0:0<=aX R.kw.aL R.kw.gE 0
  · rw [ls h0] at ec
    split<;>omega
  rw [lw h0] at ec
  have:(aeD F)=0:=PP fun hh=>by obtain ⟨i,_,_,h⟩:=MV cL pl (show Cr R.jp.ii.am R.jp.ci R.kw.aL R.kw.gE by rw [ok.right];exact cZ pl.one) ok.perm (by rw [h.ju];omega);exact h0 h
  split<;>omega
 unfold ff;rw [c2,aj,bB rfl,lm,h.ci,dp rfl,dp rfl,adG,AC,lm,h.aph,show pG ⟨F⟩ ⟨F⟩=_ from D9 F F (by omega),aE rfl,aj,AC,lm,l1,aj,l2,aj,bB rfl,lm,bB rfl,lm];dsimp only;rw [aA,aA,bB ln,lm,tq kS]
 by_cases rt:bK to
 case neg=>rw [lw rt];rfl
 rw [ls rt,aj,bB rfl,lm,A8 nw kS,aj]
 by_cases le:0<kO t to
 · rw [aE le];rfl
 have le': ¬kO to R.jp.ci<0:=by rw [h.ci];intro h;rw [sB] at h;unfold kO at le;rcases ef (t.1*to.2) (to.1*t.2) with ⟨a,b⟩|⟨a,b⟩|⟨a,b⟩<;>omega
 rw [aC le,lm];obtain ⟨S,r1,r3,r4⟩:=apg ok h.Qs rt kS le';rw [r1,aj];rcases r4 with q|⟨q,adv⟩
 · rw [q];rfl
 have tok:=adv.ok ok;have fe:S.1.jp.ii=⟨F⟩:=by have:=adv.ju;rw [h.ju] at this;cases hf:S.1.jp.ii;rw [hf] at this;exact congrArg Field.mk this
 obtain ⟨b,l1,l2⟩:=aew tok r3.h (by rw [fe];exact h12) (Cy tok r3.h);rw [fe,adv.ci] at l2;rw [q,bB rfl,lm,l1,aj,l2,aj,dp rfl,lc,dp rfl]
def adp (ci:Int×Int) (F:Field×Int) (R:bk×Int):Prop:=
 (F.2≠0/\R.2=F.2)\/(F.2=0/\R.2=18)\/(F.2=0/\R.2=0/\aeD F.1.am<=12/\ ∃P,HP R.1 F.1.am P ci)
section
variable {k : bk} (ok : mw k) (sh : nM k) (h10 : (aeD k.jp.ii.am) <= 10)
include ok sh h10
theorem alj (p:Pt): ∃F R,gW k.jp.ii p=aeE F/\og k p=aeE R/\adp k.jp.ci F R:=by
 rcases V2 ok sh p with ⟨e,e0,a,t⟩|⟨m,q,hm,_,_,a,DC,_,Sf,pw,pm,go⟩
 · exact ⟨_,_,a,t,.inl ⟨e0,rfl⟩⟩
 obtain ⟨R,s1,r2⟩:=Hf ok.DA DC Sf pw pm;refine ⟨_,R,a,go R s1,.inr ?_⟩;rcases r2 with rfl|⟨r0,tn⟩
 · exact .inl ⟨rfl,rfl⟩
 exact .inr ⟨rfl,r0,by show (tH _ _ _).length<=12;rw [GR hm.le];omega,_,tn⟩
theorem adq (id:Int): ∃F R,hJ k.jp.ii id=aeE F/\mi k id=aeE R/\adp k.jp.ci F R:=by
 rcases Sg ok sh id with ⟨_,a,t⟩|⟨q,j,hq,_,_,_,_,a,DC,Sf,pw,pm,_,go⟩
 · exact ⟨_,_,a,t,.inl ⟨by decide,rfl⟩⟩
 obtain ⟨R,s1,r2⟩:=Hf ok.DA DC Sf pw pm;refine ⟨_,R,a,go R s1,.inr ?_⟩;rcases r2 with rfl|⟨r0,tn⟩
 · exact .inl ⟨rfl,rfl⟩
 exact .inr ⟨rfl,r0,by show (List.eraseIdx _ _).length<=12;have:=zM hq;omega,_,tn⟩
theorem Si (p:Pt): ∃F R,ei k.jp.ii p=aeE F/\jt k p=aeE R/\adp k.jp.ci F R:=by
 rcases M3 ok sh p with ⟨e,e0,a,t⟩|⟨q,_,_,_,a,DC,Sf,pm,go⟩
 · exact ⟨_,_,a,t,.inl ⟨e0,rfl⟩⟩
 obtain ⟨R,s1,r2⟩:=Hf ok.DA DC Sf ok.pow pm;refine ⟨_,R,a,go R s1,.inr ?_⟩;rcases r2 with rfl|⟨r0,tn⟩
 · exact .inl ⟨rfl,rfl⟩
 exact .inr ⟨rfl,r0,by show (List.set _ _ _).length<=12;rw [ut];omega,_,tn⟩
end
noncomputable def edT {σ:Type} (ci to:Int×Int) (nx:σ) (F:Field×Int) (R:bk×Int):Option (Step σ Bool):=
 bif F.2 !=0 then
  bif R.2 !=F.2 then aeE (.done aeK)
  else bif F.2==0 then
   bif R.2 !=0 then
    bif R.2 !=18 then aeE (.done aeK)
    else bif R.2==0 then (ff R.1 F.1 ci to).bind fun b=>bif !b then aeE (.done aeK) else aeE (.next nx) else aeE (.next nx)
   else bif R.2==0 then (ff R.1 F.1 ci to).bind fun b=>bif !b then aeE (.done aeK) else aeE (.next nx) else aeE (.next nx)
  else bif R.2==0 then (ff R.1 F.1 ci to).bind fun b=>bif !b then aeE (.done aeK) else aeE (.next nx) else aeE (.next nx)
 else bif F.2==0 then
  bif R.2 !=0 then
   bif R.2 !=18 then aeE (.done aeK)
   else bif R.2==0 then (ff R.1 F.1 ci to).bind fun b=>bif !b then aeE (.done aeK) else aeE (.next nx) else aeE (.next nx)
  else bif R.2==0 then (ff R.1 F.1 ci to).bind fun b=>bif !b then aeE (.done aeK) else aeE (.next nx) else aeE (.next nx)
 else bif R.2==0 then (ff R.1 F.1 ci to).bind fun b=>bif !b then aeE (.done aeK) else aeE (.next nx) else aeE (.next nx)
theorem Hg {σ:Type} {ci to:Int×Int} {nx:σ} {F:Field×Int} {R:bk×Int} (kS:lM to) (h:adp ci F R):edT ci to nx F R=aeE (.next nx):=by
 unfold edT;rcases h with ⟨a,b⟩|⟨a,b⟩|⟨a,b,c,P,tn⟩
 · rw [cS a,lc,bB b,lm,dR a,lm,dR (by rw [b];exact a),lm]
 · rw [bB a,lm,dp a,lc,b];rfl
 have:ff R.1 F.1 ci to=aeE aeF:=Sh tn c kS
 rw [bB a,lm,dp a,lc,bB b,lm,dp b,lc,this,aj,AC,lm]
def aS (k:bk) (p:Pt) (id:Int) (to:Int×Int) (i:Int):=
 (id,aeF,i,k.jp.ci.1,k.jp.ci.2,k.jp.ii.am,k.jp.ai.aN,k.jp.ai.ce,k.jp.ae.af.aB,k.jp.ae.af.be,k.jp.ae.af.bi,k.jp.ae.bv,k.jp.ae.ar,k.jp.io,k.kw.aL,k.kw.gE,p.1,p.2.1,p.2.2,to)
theorem za (k:bk) (p:Pt) (id:Int) (to:Int×Int) (n:MF k.jp) (kS:lM to):rE k p id to=aeE aeF:=by
 unfold rE;rw [aj];rcases V3 k n with e|⟨e,sh,h10,ok⟩
 · rw [e];rfl
 rw [e,aj,AC,lm,lm];obtain ⟨F0,R0,f0,t0,e0⟩:=alj ok sh h10 p;obtain ⟨F1,R1,f1,t1,e1⟩:=adq ok sh h10 id;obtain ⟨F2,R2,f2,t2,e2⟩:=Si ok sh h10 p;have alk:(bk.mk (aK.mk (k.jp.ci.1,k.jp.ci.2) (Field.mk k.jp.ii.am) (bF.mk k.jp.ai.aN k.jp.ai.ce) (aJ.mk (bj.mk k.jp.ae.af.aB k.jp.ae.af.be k.jp.ae.af.bi) k.jp.ae.bv k.jp.ae.ar) k.jp.io) (bo.mk k.kw.aL k.kw.gE))=k:=rfl;have alm:Field.mk k.jp.ii.am=k.jp.ii:=rfl;have aln:((p.1,p.2.1,p.2.2):Pt)=p:=rfl;have s0:dU (aS k p id to 0)=aeE (.next (aS k p id to 1)):=by
  unfold dU aS;simp only [aE (show (0:Int)<3 by decide),lc,alk,alm,aln,f0,t0,aj,show ((0:Int)==1)=aeK from rfl,show ((0:Int)==2)=aeK from rfl,lm,show aa .i64 ((0:Int)+1)=1 from by decide];exact Hg kS e0
 have s1:dU (aS k p id to 1)=aeE (.next (aS k p id to 2)):=by unfold dU aS;simp only [aE (show (1:Int)<3 by decide),lc,alk,alm,aln,f0,t0,f1,t1,aj,show ((1:Int)==1)=aeF from rfl,show ((1:Int)==2)=aeK from rfl,lm,show aa .i64 ((1:Int)+1)=2 from by decide];exact Hg kS e1
 have s2:dU (aS k p id to 2)=aeE (.next (aS k p id to 3)):=by unfold dU aS;simp only [aE (show (2:Int)<3 by decide),lc,alk,alm,aln,f0,t0,f2,t2,aj,show ((2:Int)==1)=aeK from rfl,show ((2:Int)==2)=aeF from rfl,lm,show aa .i64 ((2:Int)+1)=3 from by decide];exact Hg kS e2
 show ay dU (aS k p id to 0)=aeE aeF;rw [aT s0,aT s1,aT s2];refine aI ?_;unfold dU aS;simp only [aC (show¬(3:Int)<3 by decide),lm]
theorem MF.of {c:aK} (h1:RT.wf [.i .i64,.i .i64] c.ci) (h2: ∀a∈c.ae.bv,RT.wf [.i .i64,.i .i64,.i .i64,.i .i64,.i .i64] a):MF c where
 ci:=⟨wf_i64 h1.1,wf_i64 h1.2⟩
 OK w hw:=by have:=h2 (c.ae.bv[w]!) (by rw [getElem!_pos c.ae.bv w hw];exact List.getElem_mem hw);exact ⟨wf_i64 this.1,wf_i64 this.2.1⟩
end Go.Proofs.YtbgoiokedpjgbaaGreat
