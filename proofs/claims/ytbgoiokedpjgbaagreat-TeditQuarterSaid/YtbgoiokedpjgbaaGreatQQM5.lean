/- Plain laws (5). -/
import Derived.Test.YtbgoiokedpjgbaaGreatQQM4
import Derived.Test.YtbgoiokedpjgbaaGreatQQS2
import Derived.Test.YtbgoiokedpjgbaaGreatQVm4
import Derived.Test.YtbgoiokedpjgbaaGreatQVm3
open List renaming replicate->ut,length_replicate->v6,length_append->ww,length_singleton->AC,length_set->Do,length_take->EQ,append_nil->If,length_map->M2,take_append_of_le_length->NE,take_of_length_le->PP,length_filter_le->UV,take_length->acl,filter_append->adc,mem_replicate->adm,append_assoc->ae2,mem_append->ae8,drop_zero->ae9,pairwise_iff_getElem->af3,eq_of_mem_replicate->af5,filter_cons_of_pos->afa,filter_cons_of_neg->afb,mem_map->afc,set_append_right->afg,mem_cons_of_mem->afj,filter_eq_self->afx,replicate_succ->afy,length_range->afJ,length_drop->afW,drop_length->afX,filter_nil->afZ,range->agd,mem_range->agj,mem_cons->agl,length->agB
open Bool renaming not_true->F0s,not_false->ae3,and_self->afB,true->agG,false->agK
open Nat renaming not_lt_zero->IR,le_refl->WF,pow_le_pow_right->ae5,lt_trichotomy->af4,pow_succ->afM,sub_self->afN,zero_le->afY,zero_add->agp,le_trans->agy,lt_or_ge->agz
open Classical renaming not_not->ae1,not_imp->afI
open Int renaming ofNat->ae4,toNat_natCast->afK
open Option.some renaming inj->afe
open Option renaming some->agE
open Decidable renaming decide->aig
namespace Go.Proofs.YtbgoiokedpjgbaaGreat
open Go.Vm Classical
structure KJ (p w:List Int):Prop where
 one:1<=agB p
 eu:(agB p)<=64
 len:(agB w)+1=agB p
 once:zP p
 NU: ∀x∈p,-1<=x/\x<=65535
 cho:xt p w
 none_: ∀i,i<agB w->w[i]!<0->bC p w (2*i+1)<0/\bC p w (2*i+2)<0
def KK (p w:List Int) (i:Nat):Prop:=(w[i]! =bC p w (2*i+1)\/w[i]! =bC p w (2*i+2))/\ ¬(w[i]!<0/\(0<=bC p w (2*i+1)\/0<=bC p w (2*i+2)))
def Ta (p w:List Int) (i:Nat):Prop:=(w[i]! =bC p w (2*i+1)\/w[i]! =bC p w (2*i+2))/\ ¬(w[i]! = -1/\(bC p w (2*i+1)≠ -1\/bC p w (2*i+2)≠ -1))
def HN (p:List Int) (i:Nat):Prop:= -1<=p[i]!/\p[i]!<=65535
def G9 (p:List Int) (i:Nat):Prop:= ∀j,j<i->p[j]! =p[i]!->p[i]!<0
theorem Cn {p:List Int}:(∀i,i<agB p->G9 p i)↔zP p:=
 ⟨fun h i j lq hj e=>by rw [e];exact h j hj i lq e,fun h i hi j hj e=>by have:=h j i hj hi e;rw [e] at this;exact this⟩
theorem KL {p:List Int}:(∀i,i<agB p->HN p i)↔ ∀x∈p,-1<=x/\x<=65535:=(yP (P:=fun x=> -1<=x/\x<=65535)).symm
theorem WB {p w:List Int} (h1:1<=agB p) (h64:(agB p)<=64) (hl:(agB w)+1=agB p):
 KJ p w↔(∀i,i<agB p->G9 p i)/\(∀i,i<agB p->HN p i)/\ ∀i,i<agB w->KK p w i:=by
 rw [Cn,KL];constructor
 · intro h
   refine ⟨h.once,h.NU,fun i hi=>⟨h.cho i hi,fun ⟨a,b⟩=>?_⟩⟩
   have:=h.none_ i hi a
   omega
 rintro ⟨a,b,c⟩
 exact ⟨h1,h64,hl,a,b,fun i hi=>(c i hi).1,fun i hi h0=>by have:=(c i hi).2;omega⟩
theorem Nx {p w:List Int} (hl:(agB w)+1=agB p) (hr: ∀x∈p,-1<=x/\x<=65535):(∀i,i<agB w->KK p w i)↔ ∀i,i<agB w->Ta p w i:=by
 constructor<;>intro h i hi
 · have hc:xt p w:=fun i hi=>(h i hi).1
   have a1:=hr _ (jV hl hc (i:=2*i+1) (by omega))
   have a2:=hr _ (jV hl hc (i:=2*i+2) (by omega))
   obtain ⟨b1,b2⟩:=h i hi;exact ⟨b1,by omega⟩
 have hc:xt p w:=fun i hi=>(h i hi).1
 have a1:=hr _ (jV hl hc (i:=2*i+1) (by omega))
 have a2:=hr _ (jV hl hc (i:=2*i+2) (by omega))
 obtain ⟨b1,b2⟩:=h i hi;exact ⟨b1,by omega⟩
theorem amy {p q:Prop} [Decidable p] [Decidable q] [Decidable (p/\q)] {a b:Int}:(if p then (if q then a else b) else b)=if p/\q then a else b:=by
 by_cases hp:p
 · rw [pp hp];exact Cl ⟨fun h=>⟨hp,h⟩,fun h=>h.2⟩
 rw [rc hp,rc (fun h=>hp h.1)]
theorem DA (p w:List Int) (hl:(agB p)<=1000) (wl:(agB w)<=1000):mJ ⟨p,w⟩=agE (if KJ p w then 0 else 8):=by
 unfold mJ;simp only [az]
 by_cases h1:((agB p):Int)<1
 · rw [aE h1,lw,rc (fun h=>by have:=h.one;omega)]
 rw [aC h1,ol]
 by_cases h2:(64:Int)<((agB p):Int)
 · rw [aE h2,lw,rc (fun h=>by have:=h.eu;omega)]
 rw [aC h2,ol,mV (by omega) (by omega)]
 by_cases h3:(agB w)+1=agB p
 case neg=>rw [cz (by omega),lw,rc (fun h=>h3 h.len)]
 rw [bu (by omega),ol]
 have l1:=np (body:=hZ) (fun i=>(w,((agB w):Int),(i:Int),p,w)) (agB w) (KK p w) (r:= .done (.done 8)) (e:= .done (.done 0)) (fun i hi=>by
  unfold hZ KK;have k1:=nq (i:=i) (by omega) 1 (by omega)
  have k2:=nq (i:=i) (by omega) 2 (by omega)
  simp only [aE (show (i:Int)<((agB w):Int) by omega),lw,ar w i hi,aj,show aa .i64 (aa .i64 (2*(i:Int))+1)=((2*i+1:Nat):Int) from k1,show aa .i64 (aa .i64 (2*(i:Int))+2)=((2*i+2:Nat):Int) from k2,
   m7 (p:=p) (w:=w) (i:=2*i+1) (by omega) (by omega),m7 (p:=p) (w:=w) (i:=2*i+2) (by omega) (by omega),aT (show i<1000000000 by omega)]
  generalize bC p w (2*i+1)=x;generalize bC p w (2*i+2)=y;generalize w[i]! =v
  by_cases a1:v=x
  · rw [bu a1,ol]
    by_cases a3:v<0
    · rw [aE a3,lw]
      by_cases a4:0<=(if y>x then y else x)
      · rw [aE a4,lw]
        exact ⟨fun _=>rfl,fun h=>by split at a4<;>omega⟩
      rw [aC a4,ol]
      exact ⟨fun h=>by split at a4<;>omega,fun _=>rfl⟩
    rw [aC a3,ol]
    exact ⟨fun h=>by omega,fun _=>rfl⟩
  · rw [cz a1,lw]
    by_cases a2:v=y
    · rw [bu a2,ol]
      by_cases a3:v<0
      · rw [aE a3,lw]
        by_cases a4:0<=(if y>x then y else x)
        · rw [aE a4,lw]
          exact ⟨fun _=>rfl,fun h=>by split at a4<;>omega⟩
        rw [aC a4,ol]
        exact ⟨fun h=>by split at a4<;>omega,fun _=>rfl⟩
      rw [aC a3,ol]
      exact ⟨fun h=>by omega,fun _=>rfl⟩
    rw [cz a2,lw]
    exact ⟨fun _=>rfl,fun h=>by omega⟩) (by
  unfold hZ;simp only [aC (show¬((agB w):Int)<((agB w):Int) by omega),ol])
 have l1':ay hZ (w,((agB w):Int),0,p,w)=agE (.done (.done (if∀i,i<agB w->KK p w i then 0 else 8))):=by
  refine (show _=_ from l1).trans ?_
  by_cases h: ∀i,i<agB w->KK p w i
  · rw [pp h,pp h]
  rw [rc h,rc h]
 have l2: ∀m,ay ia (p,((agB p):Int),0,p,w,m)=agE (.done (if (∀i,i<agB p->HN p i)/\ ∀i,i<agB w->KK p w i then 0 else 8)):=fun m=>by
  have l2:=np (body:=ia) (fun i=>(p,((agB p):Int),(i:Int),p,w,m)) (agB p) (HN p) (r:= .done 8) (e:= .done (if∀i,i<agB w->KK p w i then 0 else 8)) (fun i hi=>by
   unfold ia rj HN;simp only [aE (show (i:Int)<((agB p):Int) by omega),lw,ar p i hi,aj,aT (show i<1000000000 by omega)]
   generalize p[i]! =v
   by_cases a1: -1<=v
   · rw [aE a1,lw,aj]
     by_cases a2:v<=65535
     · rw [aE a2];exact ⟨fun h=>absurd ⟨a1,a2⟩ h,fun _=>rfl⟩
     rw [aC a2]
     refine ⟨fun _=>?_,fun h=>absurd h.2 a2⟩
     rw [aE (show (0:Int)<=(i:Int) by omega)];rfl
   · rw [aC a1,ol,aj]
     refine ⟨fun _=>?_,fun h=>absurd h.1 a1⟩
     rw [aE (show (0:Int)<=(i:Int) by omega)];rfl) (by
   unfold ia;simp only [aC (show¬((agB p):Int)<((agB p):Int) by omega),ol,az,l1'])
  refine (show _=_ from l2).trans ?_
  by_cases h: ∀i,i<agB p->HN p i
  · rw [pp h];congr 2;exact Cl ⟨fun k=>⟨h,k⟩,fun k=>k.2⟩
  rw [rc h,rc (fun k=>h k.1)]
 have l3:=np (body:=mj) (fun i=>(p,((agB p):Int),(i:Int),p,w,G7 p i)) (agB p) (G9 p) (r:=8) (e:=if (∀i,i<agB p->HN p i)/\ ∀i,i<agB w->KK p w i then 0 else 8) (fun i hi=>by
  unfold mj;simp only [aE (show (i:Int)<((agB p):Int) by omega),lw,ar p i hi,aj,G8,aT (show i<1000000000 by omega)]
  by_cases a:G9 p i
  · rw [aC (show¬(0<=p[i]!/\ ∃j,j<i/\p[j]! =p[i]!) from fun ⟨h0,j,hj,e⟩=>by have:=a j hj e;omega)]
    exact ⟨fun h=>absurd a h,fun _=>rfl⟩
  · rw [aE (show 0<=p[i]!/\ ∃j,j<i/\p[j]! =p[i]! from by
     unfold G9 at a;obtain ⟨j,hj⟩:=Classical.not_forall.1 a;obtain ⟨hj,h⟩:=afI.1 hj;obtain ⟨h,h0⟩:=afI.1 h;exact ⟨by omega,j,hj,h⟩)]
    refine ⟨fun _=>?_,fun h=>absurd h a⟩
    rw [aE (show (0:Int)<=(i:Int) by omega)];rfl) (by
  unfold mj;simp only [aC (show¬((agB p):Int)<((agB p):Int) by omega),ol,az,l2])
 refine (show _=_ from l3).trans ?_;rw [Cl (WB (by omega) (by omega) h3)]
 congr 1
 exact amy
theorem G' (p:List Int) (hl:(agB p)<=1000):yE p=agE (!aig (zP p)):=by
 have l2:=np (body:=oL) (fun i=>(p,(i:Int))) (agB p) (G9 p) (r:=agG) (e:=agK) (fun i hi=>by
  have l1:=np (body:=oK) (fun j=>(p,(i:Int),(j:Int))) i (fun j=>p[j]! =p[i]!->p[i]!<0) (r:= .done agG) (e:= .next (p,((i+1:Nat):Int))) (fun j hj=>by
   unfold oK;simp only [aE (show (j:Int)<(i:Int) by omega),lw,ar p i hi,ar p j (by omega),aj,aT (show j<1000000000 by omega)]
   by_cases a:0<=p[i]!
   · rw [aE a,lw]
     by_cases b:p[j]! =p[i]!
     · rw [eI b];exact ⟨fun _=>rfl,fun h=>by have:=h b;omega⟩
     rw [dX b];exact ⟨fun h=>absurd (fun k=>absurd k b) h,fun _=>rfl⟩
   · rw [aC a,ol]
     exact ⟨fun h=>absurd (fun _=>by omega) h,fun _=>rfl⟩) (by
   unfold oK;simp only [aC (show¬(i:Int)<(i:Int) by omega),ol,aT (show i<1000000000 by omega)])
  have l1:=(show _=_ from l1);unfold oL;simp only [az,aE (show (i:Int)<((agB p):Int) by omega),lw]
  by_cases a:G9 p i
  · rw [pp (show∀j,j<i->p[j]! =p[i]!->p[i]!<0 from a)] at l1
    exact ⟨fun h=>absurd a h,fun _=>l1⟩
  · rw [rc (show¬ ∀j,j<i->p[j]! =p[i]!->p[i]!<0 from a)] at l1
    exact ⟨fun _=>l1,fun h=>absurd h a⟩) (by
  unfold oL;simp only [az,aC (show¬((agB p):Int)<((agB p):Int) by omega),ol])
 refine (show _=_ from l2).trans ?_
 by_cases h:zP p
 · rw [pp (Cn.2 h),aE h];rfl
 rw [rc (fun k=>h (Cn.1 k)),aC h];rfl
theorem Ha (p w:List Int) (hl:(agB p)<=1000) (wl:(agB w)<=1000):qN ⟨p,w⟩=agE (if KJ p w then 0 else 8):=by
 unfold qN;simp only [az]
 by_cases h1:((agB p):Int)<1
 · rw [aE h1,lw,rc (fun h=>by have:=h.one;omega)]
 rw [aC h1,ol]
 by_cases h2:(64:Int)<((agB p):Int)
 · rw [aE h2,lw,rc (fun h=>by have:=h.eu;omega)]
 rw [aC h2,ol,mV (by omega) (by omega)]
 by_cases h3:(agB w)+1=agB p
 case neg=>rw [cz (by omega),lw,rc (fun h=>h3 h.len)]
 rw [bu (by omega),ol,G' p hl,aj]
 by_cases ho:zP p
 case neg=>rw [aC ho,rc (fun h=>ho h.once)];rfl
 rw [aE ho,F0s,ol];have l1:=np (body:=lT) (fun i=>((i:Int),p,w)) (agB w) (Ta p w) (r:= .done 8) (e:= .done 0) (fun i hi=>by
  unfold lT Ta;have k1:=nq (i:=i) (by omega) 1 (by omega)
  have k2:=nq (i:=i) (by omega) 2 (by omega)
  simp only [az,aE (show (i:Int)<((agB w):Int) by omega),lw,ar w i hi,aj,show aa .i64 (aa .i64 (2*(i:Int))+1)=((2*i+1:Nat):Int) from k1,show aa .i64 (aa .i64 (2*(i:Int))+2)=((2*i+2:Nat):Int) from k2,
   nQ (p:=p) (w:=w) (i:=2*i+1) (by omega) (by omega),nQ (p:=p) (w:=w) (i:=2*i+2) (by omega) (by omega),aT (show i<1000000000 by omega)]
  generalize bC p w (2*i+1)=x;generalize bC p w (2*i+2)=y;generalize w[i]! =v
  by_cases a1:v=x
  · rw [bu a1,ol]
    by_cases a3:v= -1
    · rw [eI a3,lw]
      by_cases a4:x= -1
      · rw [bu a4,ol]
        by_cases a5:y= -1
        · rw [bu a5,ol];exact ⟨fun h=>by omega,fun _=>rfl⟩
        rw [cz a5,lw];exact ⟨fun _=>rfl,fun h=>by omega⟩
      rw [cz a4,lw];exact ⟨fun _=>rfl,fun h=>by omega⟩
    rw [dX a3,ol];exact ⟨fun h=>by omega,fun _=>rfl⟩
  · rw [cz a1,lw]
    by_cases a2:v=y
    · rw [bu a2,ol]
      by_cases a3:v= -1
      · rw [eI a3,lw]
        by_cases a4:x= -1
        · rw [bu a4,ol]
          by_cases a5:y= -1
          · rw [bu a5,ol];exact ⟨fun h=>by omega,fun _=>rfl⟩
          rw [cz a5,lw];exact ⟨fun _=>rfl,fun h=>by omega⟩
        rw [cz a4,lw];exact ⟨fun _=>rfl,fun h=>by omega⟩
      rw [dX a3,ol];exact ⟨fun h=>by omega,fun _=>rfl⟩
    rw [cz a2,lw]
    exact ⟨fun _=>rfl,fun h=>by omega⟩) (by
  unfold lT;simp only [az,aC (show¬((agB w):Int)<((agB w):Int) by omega),ol])
 have l1':ay lT (0,p,w)=agE (.done (if∀i,i<agB w->Ta p w i then 0 else 8)):=by
  refine (show _=_ from l1).trans ?_
  by_cases h: ∀i,i<agB w->Ta p w i
  · rw [pp h,pp h]
  rw [rc h,rc h]
 have l2:=np (body:=oM) (fun i=>(((agB p):Int),(i:Int),p,w)) (agB p) (HN p) (r:=8) (e:=if∀i,i<agB w->Ta p w i then 0 else 8) (fun i hi=>by
  unfold oM HN;simp only [aE (show (i:Int)<((agB p):Int) by omega),lw,ar p i hi,aj,aT (show i<1000000000 by omega)]
  generalize p[i]! =v
  by_cases a1:v< -1
  · rw [aE a1];exact ⟨fun _=>rfl,fun h=>by omega⟩
  · rw [aC a1,ol]
    by_cases a2:65535<v
    · rw [aE a2];exact ⟨fun _=>rfl,fun h=>by omega⟩
    rw [aC a2];exact ⟨fun h=>by omega,fun _=>rfl⟩) (by
  unfold oM;simp only [aC (show¬((agB p):Int)<((agB p):Int) by omega),ol,l1'])
 refine (show _=_ from l2).trans ?_;rw [Cl (WB (by omega) (by omega) h3)]
 congr 1
 by_cases hr: ∀i,i<agB p->HN p i
 · rw [pp hr]
   exact Cl ⟨fun h=>⟨Cn.2 ho,hr,(Nx h3 (KL.1 hr)).2 h⟩,fun h=>(Nx h3 (KL.1 hr)).1 h.2.2⟩
 rw [rc hr,rc (fun h=>hr h.2.1)]
def Due (c:aM) (to:Int×Int):Prop:=0<agB c.ae.bv/\vU (Ev.at c.ae.bv[0]!) to<=0
def hP (c:aM) (r:Int) (N:List Nd) (to:Int×Int) (out:List (Int×Int)):=
 (c.ci.1,c.ci.2,c.ii.am,c.af.aN,c.af.ce,c.ae.ai.aA,c.ae.ai.be,c.ae.ai.bi,c.ae.bv,c.ae.aq,c.io,r,N,to.1,to.2,(0:Int),(0:Int),(0:Int),(0:Int),out)
def hR (c:aM) (r:Int) (N:List Nd) (to:Int×Int) (out:List (Int×Int)):=
 (to.1,to.2,(0:Int),(0:Int),(0:Int),(0:Int),c.ci.1,c.ci.2,c.ii.am,c.af.aN,c.af.ce,c.ae.ai.aA,c.ae.ai.be,c.ae.ai.bi,c.ae.bv,c.ae.aq,c.io,r,N,out)
noncomputable def ti (p w:List Int) (k:Nat):List (Int×Int):=(agd k).filterMap (xN p w)
theorem yW (p w:List Int) (k:Nat):ti p w (k+1)=ti p w k++(match xN p w k with|some e=>[e]|none=>[]):=by
 unfold ti;rw [List.range_succ,List.filterMap_append];cases h:xN p w k<;>simp [h]
theorem Ba (p w:List Int) (k:Nat):(ti p w k).length<=k:=by
 have:=List.length_filterMap_le (xN p w) (agd k)
 rwa [afJ] at this
section
variable {p w : List Int} (hl : (agB w) + 1 = (agB p)) (h64 : (agB p) <= 64) (hc : xt p w)
include hl h64
theorem uH:vR ⟨p,w⟩=agE (fg p w):=by
 have st:=bS (body:=ui) (fun i=>((i:Int),p,w,ti p w i)) (agB w) (fun i hi=>by
  have k1:=nq (i:=i) (by omega) 1 (by omega)
  have k2:=nq (i:=i) (by omega) 2 (by omega)
  have el:=Ba p w i;rw [yW];unfold ui;simp only [az,aE (show (i:Int)<((agB w):Int) by omega),lw,show aa .i64 (aa .i64 (2*(i:Int))+1)=((2*i+1:Nat):Int) from k1,show aa .i64 (aa .i64 (2*(i:Int))+2)=((2*i+2:Nat):Int) from k2,
   nQ (p:=p) (w:=w) (i:=2*i+1) (by omega) (by omega),nQ (p:=p) (w:=w) (i:=2*i+2) (by omega) (by omega),aj,ar w i hi,aT (show i<1000000000 by omega)]
  unfold xN;generalize bC p w (2*i+1)=x;generalize bC p w (2*i+2)=y;generalize w[i]! =v
  by_cases a1:x<0
  · rw [aE a1,lw,pp (.inl a1)];simp
  rw [aC a1,ol]
  by_cases a2:y<0
  · rw [aE a2,lw,pp (.inr a2)];simp
  rw [aC a2,ol,rc (by omega)]
  by_cases a3:v=x
  · rw [eI a3,lw,pp a3,bR (by rw [AC];omega),aj]
  rw [dX a3,ol,rc a3,bR (by rw [AC];omega),aj])
 unfold vR;refine (show _=_ from st).trans (aH ?_);unfold ui;simp only [az,aC (show¬((agB w):Int)<((agB w):Int) by omega),ol]
 rfl
include hc
theorem Ny (hr: ∀x∈p,-1<=x/\x<=65535):ay lP (w,((agB w):Int),0,p,w,[])=agE (⟨p,w⟩,fg p w):=by
 have st:=bS (body:=lP) (fun i=>(w,((agB w):Int),(i:Int),p,w,ti p w i)) (agB w) (fun i hi=>by
  have k1:=nq (i:=i) (by omega) 1 (by omega)
  have k2:=nq (i:=i) (by omega) 2 (by omega)
  have el:=Ba p w i;have m1:=hr _ (jV hl hc (i:=2*i+1) (by omega))
  have m2:=hr _ (jV hl hc (i:=2*i+2) (by omega))
  have cv:=hc i hi;have fin: ∀(x y v:Int),(-1<=x/\x<=65535)->(-1<=y/\y<=65535)->(v=x\/v=y)->
   (bif aig (0<=x) then
    bif aig (0<=y) then (bo (ti p w i) [(aa .i64 (aa .i64 (x+y) -v),v)]).bind fun l3=>agE (Step.next (ρ:=bA×List (Int×Int)) (w,((agB w):Int),aa .i64 ((i:Int)+1),p,w,l3))
    else agE (Step.next (w,((agB w):Int),aa .i64 ((i:Int)+1),p,w,ti p w i))
   else agE (Step.next (w,((agB w):Int),aa .i64 ((i:Int)+1),p,w,ti p w i)))=
   agE (Step.next (w,((agB w):Int),((i+1:Nat):Int),p,w,ti p w i++(match (if x<0\/y<0 then none else if v=x then agE (y,x) else agE (x,y)) with|some e=>[e]|none=>[]))):=by
   intro x y v hx hy hv;rw [aT (show i<1000000000 by omega)]
   by_cases a1:x<0
   · rw [aC (by omega),ol,pp (.inl a1)];simp
   rw [aE (by omega),lw]
   by_cases a2:y<0
   · rw [aC (by omega),ol,pp (.inr a2)];simp
   rw [aE (by omega),lw,rc (by omega),bR (by rw [AC];omega),aj,jq (n:=x+y) ⟨by omega,by omega⟩,jq ⟨by omega,by omega⟩]
   by_cases a3:v=x
   · rw [pp a3,a3,show x+y-x=y by omega]
   rw [rc a3,show x+y-v=x by omega,show v=y by omega]
  rw [yW];unfold lP;have e1:bC p w (2*i+1)=if 2*i+1<(agB w) then w[2*i+1]! else p[2*i+1-(agB w)]!:=rfl
  have e2:bC p w (2*i+2)=if 2*i+2<(agB w) then w[2*i+2]! else p[2*i+2-(agB w)]!:=rfl
  have f1:=fin _ _ _ m1 m2 cv;simp only [az,aE (show (i:Int)<((agB w):Int) by omega),lw,show aa .i64 (aa .i64 (2*(i:Int))+1)=((2*i+1:Nat):Int) from k1,show aa .i64 (aa .i64 (2*(i:Int))+2)=((2*i+2:Nat):Int) from k2,ar w i hi,aj,beq_self_eq_true]
  by_cases b1:2*i+1<agB w
  · rw [pp b1] at e1
    rw [aE (show ((2*i+1:Nat):Int)<((agB w):Int) by omega),lw,ar w _ b1,aj,<- e1]
    by_cases b2:2*i+2<agB w
    · rw [pp b2] at e2
      rw [aE (show ((2*i+2:Nat):Int)<((agB w):Int) by omega),lw,ar w _ b2,aj,<- e2]
      exact f1
    rw [rc b2] at e2
    rw [aC (show¬((2*i+2:Nat):Int)<((agB w):Int) by omega),ol,jq ⟨by omega,by omega⟩,show ((2*i+2:Nat):Int) - ((agB w):Int)=((2*i+2-(agB w):Nat):Int) by omega,ar p _ (by omega),aj,<- e2]
    exact f1
  rw [rc b1] at e1
  rw [rc (show¬2*i+2<(agB w) by omega)] at e2
  rw [aC (show¬((2*i+1:Nat):Int)<((agB w):Int) by omega),ol,jq (n:=((2*i+1:Nat):Int) - ((agB w):Int)) ⟨by omega,by omega⟩,show ((2*i+1:Nat):Int) - ((agB w):Int)=((2*i+1-(agB w):Nat):Int) by omega,ar p _ (by omega),aj,<- e1,
   aC (show¬((2*i+2:Nat):Int)<((agB w):Int) by omega),ol,jq (n:=((2*i+2:Nat):Int) - ((agB w):Int)) ⟨by omega,by omega⟩,show ((2*i+2:Nat):Int) - ((agB w):Int)=((2*i+2-(agB w):Nat):Int) by omega,ar p _ (by omega),aj,<- e2]
  exact f1)
 refine (show _=_ from st).trans (aH ?_);unfold lP;simp only [aC (show¬((agB w):Int)<((agB w):Int) by omega),ol]
 rfl
end
structure nV (f:List Pt) (p:List Int):Prop where
 one:1<=agB p
 eu:(agB p)<=64
 once:zP p
 ids: ∀x∈p,El f x
theorem nV.NU {f:List Pt} (bT:bm f) {p:List Int} (h:nV f p): ∀x∈p,-1<=x/\x<=65535:=fun x hx=>by
 rcases h.ids x hx with e|⟨e,hp⟩
 · omega
 have:=(dW bT hp).1
 have e2:=(dW bT hp).2;unfold fq at this;omega
section
variable {f : List Pt} (bT : bm f) {t : Int × Int} (r : bX t) (qc : nm t) {p : List Int} (pl : nV f p)
include bT qc pl
theorem vj:wW ⟨f⟩ t p=agE ⟨p,bB f t p⟩:=by
 unfold wW;rw [G6 bT qc pl.one pl.eu pl.ids];rfl
theorem iE:qh f (fg p (bB f t p))/\(fg p (bB f t p)).Nodup/\(fg p (bB f t p)).length<=63:=by
 have _:=qc;have R:=dL (f:=f) (t:=t) pl.one;have m:=pl.eu
 have:=R.1
 have el:=A' p (bB f t p);exact ⟨S8 bT R.1 pl.eu R.vg pl.once fun x hx h0=>(pl.ids x hx).has h0,KE R.1 R.vg pl.once,by omega⟩
include r
theorem yX:qK ⟨f⟩ t p=agE (⟨p,bB f t p⟩,fg p (bB f t p)):=by
 have R:=dL (f:=f) (t:=t) pl.one;unfold qK;rw [pJ bT r qc pl.one pl.eu pl.ids pl.once,aj];exact Ny R.1 pl.eu R.vg (pl.NU bT)
end
def qi:bz:=⟨dY,⟨[],[]⟩⟩
structure Tb (c:aM) (f:List Pt) (p:List Int) (k:bz):Prop where
 zR:D6 c f (fg p (bB f c.ci p)) k.jp
 aI:k.kw=⟨p,bB f c.ci p⟩
theorem Co {c:aM} (ok:aZ c) {f:List Pt} (bT:bm f) {p:List Int} (pl:nV f p):
 ∃R:aM×Int,lQ c ⟨f⟩ (fg p (bB f c.ci p))=agE R/\jg c ⟨f⟩ (fg p (bB f c.ci p))=agE R/\(R.2=0/\D6 c f (fg p (bB f c.ci p)) R.1\/R=(dY,18)):=by
 obtain ⟨vo,nd,el⟩:=iE bT ok.fP (t:=c.ci) pl;obtain ⟨R,r1,r2,r3⟩:=Ru ok bT vo;have ee:kI f (fg p (bB f c.ci p))=0:=by
  unfold kI;rw [rc (ae1.2 vo.cv),rc (ae1.2 nd),rc (fun h=>h vo.kn)]
 have rn:=yS ok bT (es:=fg p (bB f c.ci p)) (by omega) (fun _=>r1)
 rw [pp ee] at rn;exact ⟨R,rn,r2,r3⟩
theorem Bb {c:aM} (ok:aZ c) {f:List Pt} (bT:bm f) {p:List Int} (pl:nV f p):
 ∃R:bz×Int,jM c ⟨f⟩ p=agE R/\eY c ⟨f⟩ p=agE R/\(R.2=0/\Tb c f p R.1\/R=(qi,18)):=by
 have h1:=yX bT ok.nT ok.fP pl;have g1:=vj bT (t:=c.ci) ok.fP pl;have B:=dL (f:=f) (t:=c.ci) pl.one;have eo:=uH B.1 pl.eu;obtain ⟨R,r1,r2,r3⟩:=Co ok bT pl;rcases r3 with ⟨q0,qq⟩|he
 · refine ⟨(⟨R.1,⟨p,bB f c.ci p⟩⟩,0),?_,?_,.inl ⟨rfl,qq,rfl⟩⟩
   · unfold jM
     simp only [h1,aj,r1,q0,show ((0:Int) !=0)=agK from rfl,ol]
   unfold eY
   simp only [g1,aj,eo,r2,q0,show ((0:Int) !=0)=agK from rfl,ol]
 refine ⟨(qi,18),?_,?_,.inr rfl⟩
 · unfold jM
   simp only [h1,aj,r1,he,show ((18:Int) !=0)=agG from rfl,lw];rfl
 unfold eY
 simp only [g1,aj,eo,r2,he,show ((18:Int) !=0)=agG from rfl,lw];rfl
def aeO (x y v:Int):List (Int×Int):=(if 0<=x/\x≠v then [(x,v)] else [])++(if 0<=y/\y≠v then [(y,v)] else [])
theorem Nz {v:Int} {w N:List Int} {L i:Int} {k c:Nat} {E:List (Int×Int)} (hk:k+2<=agB N) (he:(agB E)+2<=1000000):
 ay iB (v,w,L,i,0+k,2,c,2,0,N,E)=agE (.next (w,L,aa .i64 (i+1),N,E++aeO N[k]! N[k+1]! v)):=by
 have hd:((N.drop (0+k)).take 2).length=2:=by rw [EQ,afW];omega
 have g0:aJ ((N.drop (0+k)).take 2) 0=agE N[k]!:=by
  have:=ar ((N.drop (0+k)).take 2) 0 (by omega)
  rw [iO (by omega),kZ] at this
  simpa using this
 have g1:aJ ((N.drop (0+k)).take 2) 1=agE N[k+1]!:=by
  have:=ar ((N.drop (0+k)).take 2) 1 (by omega)
  rw [iO (by omega),kZ] at this
  simpa using this
 have s0:iB (v,w,L,i,0+k,2,c,2,0,N,E)=agE (.next (v,w,L,i,0+k,2,c,2,1,N,E++(if 0<=N[k]!/\N[k]!≠v then [(N[k]!,v)] else []))):=by
  unfold iB;simp only [aE (show (0:Int)<2 by decide),lw,g0,aj,show aa .i64 ((0:Int)+1)=1 from by decide]
  by_cases a:0<=N[k]!
  · rw [aE a,lw]
    by_cases b:N[k]! =v
    · rw [bu b,ol,rc (fun h=>h.2 b),If]
    rw [cz b,lw,pp ⟨a,b⟩,bR (by rw [AC];omega),aj]
  rw [aC a,ol,rc (fun h=>a h.1),If]
 obtain ⟨E1,hE⟩: ∃E1,E1=E++(if 0<=N[k]!/\N[k]!≠v then [(N[k]!,v)] else []):=⟨_,rfl⟩
 have l1:(agB E1)<=agB E+1:=by
  rw [hE,ww];split<;>simp
 rw [<- hE] at s0;have s1:iB (v,w,L,i,0+k,2,c,2,1,N,E1)=agE (.next (v,w,L,i,0+k,2,c,2,2,N,E1++(if 0<=N[k+1]!/\N[k+1]!≠v then [(N[k+1]!,v)] else []))):=by
  unfold iB;simp only [aE (show (1:Int)<2 by decide),lw,g1,aj,show aa .i64 ((1:Int)+1)=2 from by decide]
  by_cases a:0<=N[k+1]!
  · rw [aE a,lw]
    by_cases b:N[k+1]! =v
    · rw [bu b,ol,rc (fun h=>h.2 b),If]
    rw [cz b,lw,pp ⟨a,b⟩,bR (by rw [AC];omega),aj]
  rw [aC a,ol,rc (fun h=>a h.1),If]
 rw [aV s0,aV s1];refine aH ?_;unfold iB;simp only [aC (show¬(2:Int)<2 by decide),ol]
 unfold aeO;rw [hE,ae2]
section
variable {f : List Pt} {t : Int × Int} {p w : List Int} (hr : GW f t p w) (h64 : (agB p) <= 64) (ho : zP p)
include hr ho
theorem aeP {i:Nat} (hi:i<agB w):aeO (bC p w (2*i+1)) (bC p w (2*i+2)) w[i]! =(match xN p w i with|some e=>[e]|none=>[]):=by
 have hw:=hr.2 i hi;have ne:0<=bC p w (2*i+1)->bC p w (2*i+1)≠bC p w (2*i+2):=fun h=>EM hr.1 hr.vg ho hi h
 have W9:=Rw f t (bC p w (2*i+1)) (bC p w (2*i+2));unfold xN;rw [hw];generalize hx:bC p w (2*i+1)=x at ne W9 ⊢;generalize hy:bC p w (2*i+2)=y at ne W9 ⊢;unfold aeO
 by_cases a1:x<0
 · have:wa f t x y=y:=by unfold wa;rw [pp a1]
   rw [this,rc (by omega),rc (by omega),pp (.inl a1)];rfl
 by_cases a2:y<0
 · have:wa f t x y=x:=by unfold wa;rw [rc a1,pp a2]
   rw [this,rc (by omega),rc (by omega),pp (.inr a2)];rfl
 have ne:=ne (by omega)
 rw [rc (show¬(x<0\/y<0) by omega)]
 rcases W9 with h|h
 · rw [h,rc (by omega),pp ⟨by omega,fun e=>ne e.symm⟩,pp rfl];rfl
 rw [h,pp ⟨by omega,ne⟩,rc (by omega),rc (fun e=>ne e.symm)];rfl
include h64
theorem yY:ur ⟨p,w⟩=agE (fg p w):=by
 have hl:=hr.1;have hN:(w++p).length=agB w+(agB p):=ww;have nd: ∀j,j<agB w+agB p->(w++p)[j]! =bC p w j:=fun j hj=>by
  unfold bC;split
  · rw [ck (by omega)]
  rw [dB (by omega)]
 have st:=bS (body:=oE) (fun i=>(w,((agB w):Int),(i:Int),w++p,ti p w i)) (agB w) (fun i hi=>by
  have k1:=nq (i:=i) (by omega) 1 (by omega)
  have k3:aa .i64 ((aa .i64 (2*(i:Int)))+3)=((2*i+3:Nat):Int):=by
   rw [jq (n:=2*(i:Int)) ⟨by omega,by omega⟩,jq ⟨by omega,by omega⟩];omega
  have el:=Ba p w i;unfold oE;simp only [az,aE (show (i:Int)<((agB w):Int) by omega),lw,ar w i hi,aj,show aa .i64 (aa .i64 (2*(i:Int))+1)=((2*i+1:Nat):Int) from k1,k3,hN,
   aE (show (0:Int)<=((2*i+1:Nat):Int) by omega),aE (show ((2*i+1:Nat):Int)<=((2*i+3:Nat):Int) by omega),aE (show ((2*i+3:Nat):Int)<=((agB w+(agB p):Nat):Int) by omega),afB,lw,afK,
   show 2*i+3- (2*i+1)=2 by omega]
  rw [show ((2:Nat):Int)=2 from rfl,Nz (by omega) (by omega),nd _ (by omega),nd _ (by omega),show 2*i+1+1=2*i+2 from rfl,aeP hr ho hi,aT (show i<1000000000 by omega),yW]
  all_goals rfl)
 unfold ur;rw [show Se w p=agE (w++p) from by unfold Se;rw [pp ⟨by omega,by omega⟩]]
 simp only [aj,az];refine (show _=_ from st).trans (aH ?_);unfold oE;simp only [az,aC (show¬((agB w):Int)<((agB w):Int) by omega),ol]
 rfl
end
theorem Bc {c:aM} (ok:aZ c) {f:List Pt} (bT:bm f) {p:List Int} (pl:nV f p):
 ∃R:bz×Int,cA c ⟨f⟩ p=agE R/\eY c ⟨f⟩ p=agE R/\(R.2=0/\Tb c f p R.1\/R=(qi,18)):=by
 have h1:=pJ bT ok.nT ok.fP pl.one pl.eu pl.ids pl.once;have g1:=vj bT (t:=c.ci) ok.fP pl;have B:=dL (f:=f) (t:=c.ci) pl.one;have e1:=yY B pl.eu pl.once;have eo:=uH B.1 pl.eu;obtain ⟨R,r1,r2,r3⟩:=Co ok bT pl;rcases r3 with ⟨q0,qq⟩|he
 · refine ⟨(⟨R.1,⟨p,bB f c.ci p⟩⟩,0),?_,?_,.inl ⟨rfl,qq,rfl⟩⟩
   · unfold cA
     simp only [h1,aj,e1,r1,q0,show ((0:Int) !=0)=agK from rfl,ol]
   unfold eY
   simp only [g1,aj,eo,r2,q0,show ((0:Int) !=0)=agK from rfl,ol]
 refine ⟨(qi,18),?_,?_,.inr rfl⟩
 · unfold cA
   simp only [h1,aj,e1,r1,he,show ((18:Int) !=0)=agG from rfl,lw];rfl
 unfold eY
 simp only [g1,aj,eo,r2,he,show ((18:Int) !=0)=agG from rfl,lw];rfl
def tj:bg:=⟨ut 200 0,ut 200 agK,(agd 200).map fun j:Nat=>(199:Int) - (j:Int)⟩
def Cp:aL:=⟨tj,[],ut 200 (-1)⟩
def xz (f:Field) (t:Int×Int):aM:=⟨t,f,⟨0,[]⟩,Cp,[]⟩
theorem NA:B8 200=agE (tj,0):=
 (by kernel_rfl:B8 200=ay DX (200,200,0,ut 200 0,ut 200 agK,ut 200 0)).trans (aU.2 ⟨300,by kernel_rfl⟩)
theorem Tc:bq [-1] 200=agE (ut 200 (-1)):=by
 unfold bq fa;have m:eF (aa .u64 (ae4 ([-1]:List Int).length)) (aa .u64 200)=agE (0,200):=by
  rw [show aa .u64 (ae4 ([-1]:List Int).length)=1 from by kernel_rfl,show aa .u64 200=200 from by kernel_rfl,vT ⟨by decide,by decide⟩ ⟨by decide,by decide⟩]
  rfl
 rw [m];exact (by kernel_rfl:_=ay aG (1,-1::ut 199 0)).trans (aU.2 ⟨20,by kernel_rfl⟩)
theorem HO:xa 200=agE (Cp,0):=by
 unfold xa;rw [NA,aj,bu rfl,ol,Tc];rfl
theorem PG:ua 200=agE tj:=
 (by kernel_rfl:ua 200=ay yz (199,ut 200 0,ut 200 agK,[])).trans (aU.2 ⟨300,by kernel_rfl⟩)
theorem PH:ud 200=agE Cp:=by
 unfold ud;rw [PG,aj];exact aU.2 ⟨300,by kernel_rfl⟩
theorem Hb {f:Field} (hf:(agB f.am)<=64) (t:Int×Int):ug f t=agE (xz f t):=by
 unfold ug lH;rw [ba (by omega),aj,aj,PH]
 rfl
theorem KM (f:Field) {t:Int×Int} (qc:nm t):zx f t=agE (if iC f.am≠0 then (dY,iC f.am) else if bX t then (xz f t,0) else (dY,8)):=by
 unfold zx;rw [eE,aj]
 by_cases h:iC f.am=0
 · have bT:=dp.1 h
   have f1:=bT.1;rw [bu h,ol,ff qc,aj,rc (show¬iC f.am≠0 from fun k=>k h)]
   by_cases rt:bX t
   · rw [pp rt,pp rt,bu rfl,ol,HO,aj,ba (show (agB f.am)<=1048576 by omega),aj]
     rfl
   rw [rc rt,rc rt,cz (by decide),lw]
 rw [cz h,lw,pp h]
theorem qR {α:Type} [Inhabited α] {n i:Nat} (a:α) (h:i<n):(ut n a)[i]! =a:=by
 rw [getElem!_pos _ i (by rw [v6];exact h),List.getElem_replicate]
theorem aeQ {i:Nat} (hi:i<200):(i:Int)∈tj.bi:=by
 refine afc.2 ⟨199-i,agj.2 (by omega),?_⟩
 show (199:Int) - ((199-i:Nat):Int)=(i:Int);omega
theorem lZ:(agB tj.aA)=200:=v6 ..
set_option maxRecDepth 100000 in
theorem WC:(agB tj.bi)=200:=by
 unfold tj;exact (M2 _).trans afJ
theorem Td:eO tj where
 n1:=by rw [lZ];omega
 n2:=by rw [lZ];omega
 ul:=by rw [lZ];exact v6 ..
 fr:=fun x hx=>by
  obtain ⟨j,hj,rfl⟩:=afc.1 hx
  have:=agj.1 hj
  rw [lZ];omega
 fd:=by
  refine tf List.nodup_range fun i hi j hj h=>?_
  have h:(199:Int) - (i:Int)=199- (j:Int):=h;omega
 uf:=fun i hi=>by
  rw [lZ] at hi;rw [show tj.be[i]! =agK from qR agK hi];constructor
  · intro h;cases h
  intro h;exact absurd (aeQ hi) h
 us:=fun i hi=>by
  rw [lZ] at hi;rw [show tj.aA[i]! =0 from qR 0 hi,show tj.be[i]! =agK from qR agK hi];exact ⟨by decide,by decide,fun h=>by cases h⟩
set_option maxRecDepth 100000 in
theorem PI:eT Cp where
 so:=Td
 wl:=(v6 (n:=200) (a:=(-1:Int))).trans lZ.symm
 hl:=((agp _).trans WC).trans lZ.symm
 fwd:=fun i hi h=>by
  rw [show Cp.ai.be[i]! =agK from qR agK (by rw [<- lZ];exact hi)] at h
  cases h
 un:=fun i hi _=>qR (-1) (by rw [<- lZ];exact hi)
 ev:=fun w hw=>absurd hw (IR w)
 nd:=fun v w _ hw=>absurd hw (IR w)
 ord:=fun k _ hk=>absurd hk (IR k)
theorem I3 {f:Field} (bT:bm f.am) {t:Int×Int} (r:bX t) (qc:nm t):aZ (xz f t) where
 nT:=r
 fP:=qc
 iK:=bT
 tu:=(⟨by decide,by decide,by decide,fun i hi=>absurd hi (IR i),fun i hi=>absurd hi (IR i),fun i j _ hj=>absurd hj (IR j),fun i j _ hj=>absurd hj (IR j)⟩:eQ ⟨0,[]⟩)
 mb:=PI
 GP:=v6 ..
 hd:=rfl
 known:=fun i hi=>absurd hi (IR i)
 Bi:=rfl
theorem KN (f:Field) (t:Int×Int):Roomy (xz f t) 0:=by
 refine ⟨WF _,Int.le_refl _,fun j hj=>?_⟩
 rw [show (xz f t).ae.ai.aA[j]! =0 from qR 0 (by rw [<- lZ];exact hj)]
 decide
def cQ (p:List Int):List Int:=p.filter fun x=>decide (0<=x)
theorem mN {p:List Int} {j:Nat} (hj:j<agB p):cQ (p.take (j+1))=cQ (p.take j)++if 0<=p[j]! then [p[j]!] else []:=by
 unfold cQ;rw [dC hj,adc]
 by_cases h:0<=p[j]!
 · rw [pp h,afa (by simpa using h),afZ]
 rw [rc h,afb (by simpa using h),afZ]
theorem WD (p:List Int) (j:Nat):(cQ (p.take j)).length<=j:=by
 have:=UV (fun x:Int=>decide (0<=x)) (p.take j)
 rw [EQ] at this;unfold cQ;omega
theorem Cq (p:List Int) (hl:(agB p)<=1000):zy p=agE (cQ p):=by
 have st:=bS (body:=rX) (fun i=>(p,(i:Int),cQ (p.take i))) (agB p) (fun i hi=>by
  have el:=WD p i;rw [mN hi];unfold rX;simp only [az,aE (show (i:Int)<((agB p):Int) by omega),lw,ar p i hi,aj,aT (show i<1000000000 by omega)]
  by_cases h:0<=p[i]!
  · rw [aE h,lw,pp h,bR (by rw [AC];omega),aj]
  rw [aC h,ol,rc h,If])
 unfold zy;refine (show _=_ from st).trans (aH ?_);unfold rX;simp only [az,aC (show¬((agB p):Int)<((agB p):Int) by omega),ol,acl]
structure I4 (p:List Int) (i j:Nat) (L:List Int):Prop where
 len:(agB L)=agB p
 le:i<=j
 lt:j<=agB p
 got:L.take i=cQ (p.take j)
 rest: ∀k,j<=k->k<agB p->L[k]! =p[k]!
theorem I4.W3 {p:List Int} {i j:Nat} {L:List Int} (h:I4 p i j L):i=(cQ (p.take j)).length:=by
 have:=congrArg List.length h.got
 rw [EQ,h.len] at this
 have:=h.le;have:=h.lt
 omega
theorem aeR {p:List Int} {i:Nat} {L:List Int} (h:I4 p i (agB p) L): ∃M:List Int,bj p ((i:Int),((agB p):Int),L)=agE (.done (.done (i,agB p,M)))/\agB M=agB p/\M.take i=cQ p:=by
 have hl:=h.len;have hi:=h.le;have got:=h.got;rw [acl] at got;unfold bj
 simp only [az,hl,aC (show¬((agB p):Int)<((agB p):Int) by omega),ol,aE (show (0:Int)<=(i:Int) by omega),aE (show (i:Int)<=((agB p):Int) by omega),aE (show ((agB p):Int)<=((agB p):Int) by omega),afB,lw,afK,agp,ae3,Bool.and_true]
 by_cases h0:(agB p)-i=0
 · have n1:Nat.beq (agB p-i) 0=agG:=by rw [h0];rfl
   rw [n1,lw,jR L i (by omega),aj,beq_self_eq_true,lw]
   exact ⟨L,rfl,hl,got⟩
 have n1:Nat.beq (agB p-i) 0=agK:=by
  cases hb:Nat.beq (agB p-i) 0 with
  |false=>rfl
  |true=>have:=Nat.eq_of_beq_eq_true hb;omega
 have n2:Nat.ble (i+(agB p-i)) (agB p)=agG:=Nat.ble_eq_true_of_le (by omega)
 have ll:(fk L i (ut (agB p-i) (0:Int))).length=(agB p):=by
  unfold fk;simp;omega
 rw [n1,ol,n2,lw,jR _ i (by rw [ll];omega),aj,ll,beq_self_eq_true,lw]
 refine ⟨_,rfl,ll,?_⟩;rw [<- got];unfold fk;rw [ae2,NE (by rw [EQ];omega),List.take_take,Nat.min_self]
theorem amz {p:List Int} (hp:(agB p)<=1000): ∀(d i j:Nat) (L:List Int),agB p-j<=d->I4 p i j L->
 ∃(n:Nat) (M:List Int),ay (bj p) ((i:Int),(j:Int),L)=agE (.done (n,agB p,M))/\n=(cQ p).length/\agB M=agB p/\M.take n=cQ p:=by
 have fin: ∀(i j:Nat) (L:List Int),agB p<=j->I4 p i j L-> ∃(n:Nat) (M:List Int),ay (bj p) ((i:Int),(j:Int),L)=agE (.done (n,agB p,M))/\n=(cQ p).length/\agB M=agB p/\M.take n=cQ p:=by
  intro i j L hj h;obtain rfl:j=(agB p):=by have:=h.lt;omega
  obtain ⟨M,m1,m2,m3⟩:=aeR h;exact ⟨i,M,aH m1,by rw [h.W3,acl],m2,m3⟩
 intro d
 induction d with
 |zero=>exact fun i j L hd h=>fin i j L (by omega) h
 |succ d ih=>
  intro i j L hd h
  by_cases hj:(agB p)<=j
  · exact fin i j L hj h
  have hl:=h.len;have ly:=h.le;have e:L[j]! =p[j]!:=h.rest j (WF _) (by omega)
  have st:bj p ((i:Int),(j:Int),L)=agE (.next (((if 0<=p[j]! then i+1 else i:Nat):Int),((j+1:Nat):Int),if 0<=p[j]! then L.set i p[j]! else L)):=by
   unfold bj jJ;simp only [az,hl,aE (show (j:Int)<((agB p):Int) by omega),lw,ar L j (by omega),aj,e,aT (show i<1000000000 by omega),aT (show j<1000000000 by omega)]
   by_cases h0:0<=p[j]!
   · rw [aC (by omega),ae3,lw,ar L i (by omega),aj,pp h0,pp h0];rfl
   rw [aE (by omega),F0s,ol,rc h0,rc h0]
  rw [aV st];refine ih _ _ _ (by omega) ?_
  by_cases h0:0<=p[j]!
  · rw [pp h0,pp h0]
    refine ⟨by rw [Do];exact hl,by omega,by omega,?_,fun k hk Cx=>?_⟩
    · rw [mN (by omega),pp h0,<- h.got,dC (by rw [Do];omega),aX,pp ⟨rfl,by omega⟩,List.take_set_of_le (WF i)]
    rw [aX,rc (by omega)];exact h.rest k (by omega) Cx
  rw [rc h0,rc h0]
  refine ⟨hl,by omega,by omega,?_,fun k hk Cx=>h.rest k (by omega) Cx⟩
  rw [mN (by omega),rc h0,If];exact h.got
theorem Cr: ∀{l:List Int},(∀x∈l,0<=x)->cQ l=l:=fun {l} h=>afx.2 fun x hx=>by simpa using h x hx
theorem Ar (p:List Int) (hp:(agB p)<=1000): ∃(n:Nat) (M:List Int),bN p=agE (n,agB p,M)/\n=(cQ p).length/\agB M=agB p/\M.take n=cQ p:=by
 have key: ∀(d m:Nat),agB p-m<=d->m<=agB p->(∀k,k<m->0<=p[k]!)-> ∃(n:Nat) (M:List Int),ay (bk p) (((agB p):Int),(m:Int),p)=agE (n,agB p,M)/\n=(cQ p).length/\agB M=agB p/\M.take n=cQ p:=by
  intro d;have fin: ∀m,m=agB p->(∀k,k<m->0<=p[k]!)-> ∃(n:Nat) (M:List Int),ay (bk p) (((agB p):Int),(m:Int),p)=agE (n,agB p,M)/\n=(cQ p).length/\agB M=agB p/\M.take n=cQ p:=by
   intro m hm h;subst hm;have e:cQ p=p:=Cr fun x hx=>by
    obtain ⟨i,hi,rfl⟩:=aS.1 hx;exact h i hi
   refine ⟨agB p,p,aH ?_,by rw [e],rfl,by rw [acl,e]⟩
   unfold bk;simp only [aC (show¬((agB p):Int)<((agB p):Int) by omega),ol,beq_self_eq_true,lw]
  induction d with
  |zero=>exact fun m h1 h2 h=>fin m (by omega) h
  |succ d ih=>
   intro m h1 h2 h
   by_cases hm:m=agB p
   · exact fin m hm h
   by_cases h0:0<=p[m]!
   · have st:bk p (((agB p):Int),(m:Int),p)=agE (.next (((agB p):Int),((m+1:Nat):Int),p)):=by
      unfold bk jJ;simp only [aE (show (m:Int)<((agB p):Int) by omega),lw,ar p m (by omega),aj,aC (show¬p[m]!<0 by omega),ol,aT (show m<1000000000 by omega)]
     rw [aV st];refine ih (m+1) (by omega) (by omega) fun k hk=>?_
     by_cases e:k=m
     · rw [e];exact h0
     exact h k (by omega)
   have hd:I4 p m (m+1) p:=⟨rfl,by omega,by omega,by
    rw [mN (by omega),rc h0,If,Cr fun x hx=>?_]
    obtain ⟨i,hi,_,rfl⟩:=cm.1 hx;exact h i hi,fun k _ _=>rfl⟩
   obtain ⟨n,M,m1,m2,m3,m4⟩:=amz hp (agB p) m (m+1) p (by omega) hd
   refine ⟨n,M,aH ?_,m2,m3,m4⟩;unfold bk jJ;simp only [aE (show (m:Int)<((agB p):Int) by omega),lw,ar p m (by omega),aj,aE (show p[m]!<0 by omega),beq_self_eq_true,dX (show (m:Int)≠ -1 by omega),ol,aT (show m<1000000000 by omega),m1]
 unfold bN;exact key (agB p) 0 (by omega) (afY _) (fun k hk=>absurd hk (IR k))
def Bd (n:Nat):Prop:= ∃i,i<7/\n=2^i
theorem NB {n:Nat} (h1:1<=n) (h2:n<=64):AJ .i64 (n:Int) ((n-1:Nat):Int)=0↔Bd n:=by
 have key: ∀k:Fin 65,1<=k.val->((AJ .i64 (k.val:Int) ((k.val-1:Nat):Int)=0)↔ ∃i,i<7/\k.val=2^i):=by decide+kernel
 exact key ⟨n,by omega⟩ h1
theorem dbl {q:Nat} (h:q<=64):aa .i64 ((q:Int)*2)=((2*q:Nat):Int):=by rw [jq ⟨by omega,by omega⟩];omega
theorem Cs (i:Nat):2^(i+1)=2*2^i:=by rw [afM];omega
theorem Hc {n:Nat}:uz (n:Int)=agE (aig (Bd n)):=by
 have st:=np (body:=oN) (fun i=>((n:Int),((2^i:Nat):Int))) 7 (fun i=>n≠2^i) (r:=agG) (e:=agK) (fun i hi=>by
  have b1:2^i<=64:=agy (ae5 (by omega) (show i<=6 by omega)) (by decide)
  unfold oN;simp only [aE (show ((2^i:Nat):Int)<=64 by omega),lw]
  by_cases h:n=2^i
  · rw [eI (by omega)];exact ⟨fun _=>rfl,fun k=>absurd h k⟩
  · rw [dX (by omega),ol,dbl b1,Cs]
    exact ⟨fun k=>absurd h k,fun _=>rfl⟩) (by
  unfold oN
  rfl)
 unfold uz;refine (show _=_ from st).trans ?_
 by_cases h:Bd n
 · obtain ⟨i,hi,e⟩:=h
   rw [rc (fun k=>k i hi e),aE ⟨i,hi,e⟩]
 rw [pp (fun i hi e=>h ⟨i,hi,e⟩),aC h]
theorem I5 (n:Nat) (h:n<=64): ∃e,e<=6/\n<=2^e/\ ∀k,k<e->2^k<n:=by
 have key: ∀m:Fin 65,∃e,e<=6/\m.val<=2^e/\ ∀k,k<e->2^k<m.val:=by decide+kernel
 exact key ⟨n,by omega⟩
noncomputable def lg (n:Nat):Nat:=if h: ∃e,e<=6/\n<=2^e/\ ∀k,k<e->2^k<n then h.choose else 0
theorem Ct {n:Nat} (h:n<=64):lg n<=6/\n<=2^lg n/\ ∀k,k<lg n->2^k<n:=by
 unfold lg;rw [dif_pos (I5 n h)];exact (I5 n h).choose_spec
noncomputable def dG (f:List Pt):List Int:=jb f++ut (2^lg (agB f)-(agB f)) (-1)
theorem dR (f:List Pt):(jb f).length=(agB f):=M2 ..
theorem ma {f:List Pt} {i:Nat} (h:i<agB f):(jb f)[i]! =(f[i]!).1:=by
 unfold jb;rw [getElem!_pos _ i (by rw [M2];exact h),getElem!_pos f i h,List.getElem_map]
section
variable {f : List Pt} (h64 : (agB f) <= 64)
include h64
theorem tp:(dG f).length=2^lg (agB f):=by
 have:=Ct h64
 unfold dG;rw [ww,dR,v6];omega
theorem WE:1<=2^lg (agB f)/\2^lg (agB f)<=64:=
 ⟨Nat.pow_pos (by omega),agy (ae5 (by omega) (Ct h64).1) (by decide)⟩
theorem yZ:qF ⟨f⟩=agE (dG f):=by
 obtain ⟨g1,g2,g3⟩:=Ct h64;obtain ⟨b1,b2⟩:=WE h64;have in1:=bS (body:=ot) (fun i=>(((2^lg (agB f):Nat):Int),(i:Int),f,(dG f).take i)) (2^lg (agB f)) (fun i hi=>by
  have fl:=tp h64;rw [dC (show i<(dG f).length by omega)]
  unfold ot;simp only [az,aE (show (i:Int)<((2^lg (agB f):Nat):Int) by omega),lw,aT (show i<1000000000 by omega)]
  have tl:((dG f).take i).length=i:=by rw [EQ];omega
  by_cases h:i<agB f
  · rw [aE (by omega),lw,ar f i h,aj,bR (by rw [AC];omega),aj]
    rw [show (dG f)[i]! =(f[i]!).1 from by unfold dG;rw [ck (by rw [dR];exact h),ma h]]
  rw [aC (by omega),ol,bR (by rw [AC];omega),aj]
  rw [show (dG f)[i]! = -1 from by unfold dG;rw [dB (by rw [dR];omega),dR,qR _ (by omega)]])
 have out:=bS (body:=ou) (fun i=>(((2^i:Nat):Int),f)) (lg (agB f)) (fun i hi=>by
  have:=g3 i hi
  unfold ou;simp only [az,aE (show ((2^i:Nat):Int)<((agB f):Int) by omega),lw]
  rw [dbl (by omega),Cs])
 unfold qF;refine (show _=_ from out).trans (aH ?_);unfold ou;simp only [az,aC (show¬((2^lg (agB f):Nat):Int)<((agB f):Int) by omega),ol]
 refine (show _=_ from in1).trans (aH ?_);unfold ot;simp only [aC (show¬((2^lg (agB f):Nat):Int)<((2^lg (agB f):Nat):Int) by omega),ol]
 rw [PP (by rw [tp h64];omega)]
end
theorem PJ:yC=yF:=rfl
structure oS (k:bz):Prop where
 CA:aZ k.jp
 br:KJ k.kw.aI k.kw.iH
 pow:Bd (agB k.kw.aI)
 perm:(jb k.jp.ii.am).Perm (cQ k.kw.aI)
 right:k.kw.iH=bB k.jp.ii.am k.jp.ci k.kw.aI
 cert:(k.jp.af.ce.map fun x=>x.2).Perm (fg k.kw.aI k.kw.iH)
theorem iP {p:List Int} {x:Int}:x∈cQ p↔x∈p/\0<=x:=by unfold cQ;rw [List.mem_filter];simp
theorem xA {f:List Pt} {p w:List Int} (br:KJ p w) (pm:(jb f).Perm (cQ p)):nV f p:=by
 refine ⟨br.one,br.eu,br.once,fun x hx=>?_⟩
 have:=br.NU x hx
 by_cases h:0<=x
 · exact .inr ⟨h,mZ.1 (pm.mem_iff.2 (iP.2 ⟨hx,h⟩))⟩
 exact .inl (by omega)
theorem Be {p:List Int} (h:zP p):(cQ p).Nodup:=by
 have go: ∀(j:Nat),j<=agB p->(cQ (p.take j)).Nodup:=by
  intro j
  induction j with
  |zero=>intro _;simp [cQ]
  |succ j ih=>
   intro hj;rw [mN (by omega)]
   by_cases h0:0<=p[j]!
   · rw [pp h0]
     refine List.nodup_append.2 ⟨ih (by omega),by simp,fun a ha b hb e=>?_⟩
     obtain rfl:b=p[j]!:=by simpa using hb
     subst e;have hm:=(iP.1 ha).1;obtain ⟨i,hi,_,e⟩:=cm.1 hm
     have:=h i j hi (by omega) e
     omega
   rw [rc h0,If];exact ih (by omega)
 have:=go (agB p) (WF _)
 rwa [acl] at this
theorem PK {f:List Pt} (h:fx f):(jb f).Pairwise (· <= ·):=by
 refine af3.2 fun i j hi hj lq=>?_
 rw [dR] at hi hj
 have:=ej h lq hj
 rw [<- getElem!_pos (jb f) i (by rw [dR];exact hi),<- getElem!_pos (jb f) j (by rw [dR];exact hj),ma hi,ma hj]
 omega
theorem NC {f:List Pt} (h:fx f) (l:List Int):lD l=jb f↔(jb f).Perm l:=by
 constructor
 · intro e;rw [<- e];exact sL l
 intro pm
 exact List.Perm.eq_of_pairwise (le:=(· <= ·)) (fun a b _ _ h1 h2=>Int.le_antisymm h1 h2) (wU l) (PK h) ((sL l).trans pm.symm)
theorem HP (l:List Int) (f:List Pt) (hl:(agB l)<=1000):cJ l f ()=agE (aig (l=jb f)):=by
 unfold cJ;simp only [az]
 by_cases h:(agB l)=agB f
 case neg=>rw [cz (by omega),lw,aC (fun e=>h (by rw [e,dR]))]
 rw [bu (by omega),ol]
 have key:=np (body:=cu) (fun i=>(f,l,((agB l):Int),(i:Int))) (agB l) (fun i=>l[i]! =(f[i]!).1) (r:=agK) (e:=agG) (fun i hi=>by
  unfold cu sS;simp only [aE (show (i:Int)<((agB l):Int) by omega),lw,ar l i hi,ar f i (by omega),aj,aT (show i<1000000000 by omega)]
  by_cases q:l[i]! =(f[i]!).1
  · rw [eI q];exact ⟨fun w=>absurd q w,fun _=>rfl⟩
  · rw [dX q];exact ⟨fun _=>rfl,fun w=>absurd w q⟩) (by
  unfold cu;simp only [aC (show¬((agB l):Int)<((agB l):Int) by omega),ol])
 refine (show _=_ from key).trans ?_
 by_cases q:l=jb f
 · rw [pp (fun i hi=>by rw [q,ma (by omega)]),aE q]
 rw [rc (fun w=>q (qO (by rw [dR];exact h) fun i hi=>by rw [w i hi,ma (by omega)])),aC q]
theorem KO (a b:List Int) (ha:(agB a)<=1000):mr a b=agE (aig (a=b)):=by
 unfold mr;simp only [az]
 by_cases h:(agB a)=agB b
 case neg=>rw [cz (by omega),lw,aC (fun e=>h (by rw [e]))]
 rw [bu (by omega),ol]
 have key:=np (body:=jw) (fun i=>(a,b,((agB a):Int),(i:Int))) (agB a) (fun i=>a[i]! =b[i]!) (r:=agK) (e:=agG) (fun i hi=>by
  unfold jw;simp only [aE (show (i:Int)<((agB a):Int) by omega),lw,ar a i hi,ar b i (by omega),aj,aT (show i<1000000000 by omega)]
  by_cases q:a[i]! =b[i]!
  · rw [bu q];exact ⟨fun w=>absurd q w,fun _=>rfl⟩
  · rw [cz q];exact ⟨fun _=>rfl,fun w=>absurd w q⟩) (by
  unfold jw;simp only [aC (show¬((agB a):Int)<((agB a):Int) by omega),ol])
 refine (show _=_ from key).trans ?_
 by_cases q:a=b
 · rw [pp (fun i _=>by rw [q]),aE q]
 rw [rc (fun w=>q (qO h w)),aC q]
theorem ND {n:Nat} {M:List Int} (hn:n<=agB M) (hm:(agB M)<=1000):zg JF n M=agE (lD (M.take n)++M.drop n):=by
 unfold zg DO JF;rw [pp hn,pp (by rw [EQ];omega)]
 simp only [si,if_true,Option.map_some]
theorem I6 {c:aM} (ok:aZ c) {es:List (Int×Int)} (_nd:es.Nodup):(agB es=agB c.af.ce/\ ∀i,i<agB c.af.ce->(c.af.ce[i]!).2∈es)↔(c.af.ce.map fun x=>x.2).Perm es:=by
 have cl:(c.af.ce.map fun x=>x.2).length=(agB c.af.ce):=M2 ..
 constructor
 · rintro ⟨h1,h2⟩
   exact te (uG ok.tu) (fun x hx=>by
    obtain ⟨i,hi,rfl⟩:=th.2 hx;exact h2 i hi) (by omega)
 intro h
 exact ⟨by rw [<- h.length_eq,cl],fun i hi=>h.mem_iff.1 (th.1 ⟨i,hi,rfl⟩)⟩
theorem Em {k:bz} (fit:qP k.jp) (hl:(agB k.kw.aI)<=1000) (wl:(agB k.kw.iH)<=1000):kB k=agE (if oS k then 0 else 8):=by
 unfold kB;rw [jT fit,aj]
 by_cases ok:aZ k.jp
 case neg=>rw [rc ok,rc (fun h=>ok h.CA)];rfl
 rw [pp ok,bu rfl,ol,show mJ k.kw=_ from DA k.kw.aI k.kw.iH hl wl,aj]
 by_cases br:KJ k.kw.aI k.kw.iH
 case neg=>rw [rc br,rc (fun h=>br h.br)];rfl
 have b1:=br.one;have b2:=br.eu;rw [pp br,bu rfl,ol,az,mV (by omega) b1]
 by_cases pw:Bd (agB k.kw.aI)
 case neg=>rw [cz (fun h=>pw ((NB b1 b2).1 h)),lw,rc (fun h=>pw h.pow)]
 rw [bu ((NB b1 b2).2 pw),ol,ba (by omega),aj]
 obtain ⟨n,M,e1,e2,e3,e4⟩:=Ar k.kw.aI hl;have nl:n<=(agB M):=by
  have:=UV (fun x:Int=>decide (0<=x)) k.kw.aI
  rw [e2,e3];exact this
 have tk:(lD (M.take n)++M.drop n).take n=lD (cQ k.kw.aI):=by
  rw [NE (by rw [si,EQ];omega),PP (by rw [si,EQ];omega),e4]
 have ll:(lD (M.take n)++M.drop n).length=(agB M):=by rw [ww,si,EQ,afW];omega
 have fe:k.jp.ii=⟨k.jp.ii.am⟩:=rfl;rw [e1,aj];dsimp only;rw [ND nl (by omega),aj,ll,beq_self_eq_true,lw,tk,HP _ _ (by rw [si];omega),aj]
 by_cases pm:(jb k.jp.ii.am).Perm (cQ k.kw.aI)
 case neg=>rw [aC (fun h=>pm ((NC ok.iK.2.2 _).1 h)),rc (fun h=>pm h.perm)];rfl
 have pl:=xA br pm;rw [aE ((NC ok.iK.2.2 _).2 pm),F0s,ol,fe,yX ok.iK ok.nT ok.fP pl,aj];dsimp only;obtain ⟨_,nd,el⟩:=iE ok.iK ok.fP (t:=k.jp.ci) pl;have R:=dL (f:=k.jp.ii.am) (t:=k.jp.ci) pl.one;rw [KO _ _ (by have:=R.1;omega),aj]
 by_cases hw:bB k.jp.ii.am k.jp.ci k.kw.aI=k.kw.iH
 case neg=>rw [aC hw,rc (fun h=>hw h.right.symm)];rfl
 rw [aE hw,F0s,ol,PJ,aeN _ _ (by omega) (by have:=ok.bd;omega),aj]
 by_cases hc:(k.jp.af.ce.map fun x=>x.2).Perm (fg k.kw.aI (bB k.jp.ii.am k.jp.ci k.kw.aI))
 · rw [aE ((I6 ok nd).2 hc),pp ⟨ok,br,pw,pm,hw.symm,by rw [<- hw];exact hc⟩];rfl
 rw [aC (fun h=>hc ((I6 ok nd).1 h)),rc (fun h=>hc (by rw [hw];exact h.cert))];rfl
theorem Hd {f:List Pt} (bT:bm f) (p:List Int) (hp:(agB p)<=1000):uA ⟨f⟩ p=agE (aig (∀i,i<agB p->p[i]! = -1\/ft f p[i]!)):=by
 have st:=np (body:=oO) (fun i=>(p,(i:Int),f)) (agB p) (fun i=>p[i]! = -1\/ft f p[i]!) (r:=agK) (e:=agG) (fun i hi=>by
  unfold oO;simp only [az,aE (show (i:Int)<((agB p):Int) by omega),lw,ar p i hi,aj,aT (show i<1000000000 by omega)]
  by_cases h:p[i]! = -1
  · rw [bu h];exact ⟨fun k=>absurd (.inl h) k,fun _=>rfl⟩
  · rw [cz h,lw]
    by_cases h2:ft f p[i]!
    · obtain ⟨m,_,e,_⟩:=xp bT h2
      rw [e,aj,aC (by omega)];exact ⟨fun k=>absurd (.inr h2) k,fun _=>rfl⟩
    rw [Dt bT h2,aj]
    exact ⟨fun _=>rfl,fun k=>by rcases k with k|k;exact absurd k h;exact absurd k h2⟩) (by
  unfold oO;simp only [az,aC (show¬((agB p):Int)<((agB p):Int) by omega),ol])
 unfold uA;refine (show _=_ from st).trans ?_
 by_cases h: ∀i,i<agB p->p[i]! = -1\/ft f p[i]!
 · rw [pp h,aE h]
 rw [rc h,aC h]
theorem HQ {f:List Pt} (bT:bm f) {t:Int×Int} (qc:nm t) {p w:List Int} (br:KJ p w) (pl:nV f p):s7 ⟨p,w⟩ ⟨f⟩ t=agE (aig (w=bB f t p)):=by
 have b2:=br.eu;have b3:=br.len;have st:=np (body:=p6) (fun i=>((i:Int),p,w,f,t)) (agB w) (fun i=>w[i]! =wa f t (bC p w (2*i+1)) (bC p w (2*i+2))) (r:=agK) (e:=agG) (fun i hi=>by
  have k1:=nq (i:=i) (by omega) 1 (by omega)
  have k2:=nq (i:=i) (by omega) 2 (by omega)
  unfold p6;simp only [az,aE (show (i:Int)<((agB w):Int) by omega),lw,show aa .i64 (aa .i64 (2*(i:Int))+1)=((2*i+1:Nat):Int) from k1,show aa .i64 (aa .i64 (2*(i:Int))+2)=((2*i+2:Nat):Int) from k2,
   nQ (p:=p) (w:=w) (i:=2*i+1) (by omega) (by omega),nQ (p:=p) (w:=w) (i:=2*i+2) (by omega) (by omega),aj,ar w i hi,aT (show i<1000000000 by omega),
   Cm bT qc (pl.ids _ (jV b3 br.cho (i:=2*i+1) (by omega))) (pl.ids _ (jV b3 br.cho (i:=2*i+2) (by omega)))]
  by_cases h:w[i]! =wa f t (bC p w (2*i+1)) (bC p w (2*i+2))
  · rw [bu h];exact ⟨fun k=>absurd h k,fun _=>rfl⟩
  · rw [cz h];exact ⟨fun _=>rfl,fun k=>absurd k h⟩) (by
  unfold p6;simp only [az,aC (show¬((agB w):Int)<((agB w):Int) by omega),ol])
 unfold s7;refine (show _=_ from st).trans ?_;have R:=dL (f:=f) (t:=t) pl.one
 by_cases h:w=bB f t p
 · rw [pp (by rw [h];exact R.2),aE h]
 rw [rc (fun k=>h (S7 ⟨b3,k⟩ R)),aC h]
theorem D8 {f:List Pt} (bT:bm f) {t:Int×Int} {p:List Int} (pl:nV f p) {e:Int×Int} (he:e∈fg p (bB f t p)):leads (fR f e.2) (fR f e.1) t:=by
 have R:=dL (f:=f) (t:=t) pl.one;have R1:=R.1;obtain ⟨i,hi,h⟩:=GX.1 he;obtain ⟨a1,a2,a3⟩:=xw h;have ne:=EM R.1 R.vg pl.once hi a1;have hx:=(pl.ids _ (jV R.1 R.vg (i:=2*i+1) (by omega))).has a1
 have hy:=(pl.ids _ (jV R.1 R.vg (i:=2*i+2) (by omega))).has a2
 have wv:=R.2 i hi;unfold wa at wv;rw [rc (by omega),rc (by omega)] at wv
 by_cases ld:leads (fR f (bC p (bB f t p) (2*i+1))) (fR f (bC p (bB f t p) (2*i+2))) t
 · rw [pp ld] at wv
   rcases a3 with ⟨rfl,_⟩|⟨_,h⟩
   · exact ld
   exact absurd wv h
 rw [rc ld] at wv
 rcases a3 with ⟨_,h⟩|⟨rfl,_⟩
 · rw [wv] at h;exact absurd h.symm ne
 exact yR t (by rw [(dW bT hx).2,(dW bT hy).2];exact ne) ld
theorem He {k:bz} (fit:qP k.jp) (hl:(agB k.kw.aI)<=1000) (wl:(agB k.kw.iH)<=1000):lU k=agE (if oS k then 0 else 8):=by
 unfold lU;rw [GQ fit,aj]
 by_cases ok:aZ k.jp
 case neg=>rw [rc ok,rc (fun h=>ok h.CA)];rfl
 rw [pp ok,bu rfl,ol,show qN k.kw=_ from Ha k.kw.aI k.kw.iH hl wl,aj]
 by_cases br:KJ k.kw.aI k.kw.iH
 case neg=>rw [rc br,rc (fun h=>br h.br)];rfl
 have b1:=br.one;have b2:=br.eu;rw [pp br,bu rfl,ol,az,Hc,aj]
 by_cases pw:Bd (agB k.kw.aI)
 case neg=>rw [aC pw,rc (fun h=>pw h.pow)];rfl
 have fe:k.jp.ii=⟨k.jp.ii.am⟩:=rfl;rw [aE pw,F0s,ol,fe,Hd ok.iK _ hl,aj]
 by_cases pm:(jb k.jp.ii.am).Perm (cQ k.kw.aI)
 case neg=>
  by_cases kn: ∀i,i<agB k.kw.aI->k.kw.aI[i]! = -1\/ft k.jp.ii.am k.kw.aI[i]!
  case neg=>rw [aC kn,rc (fun h=>pm h.perm)];rfl
  rw [aE kn,F0s,ol,Cq _ hl,aj,az,az,rc (fun h=>pm h.perm)]
  rw [cz (fun h=>pm ?_)]
  · rfl
  have h:((cQ k.kw.aI).length:Int)=((agB k.jp.ii.am):Int):=h;refine (te (Be br.once) (fun x hx=>?_) (by rw [dR];omega)).symm
  obtain ⟨h1,h2⟩:=iP.1 hx;obtain ⟨i,hi,rfl⟩:=aS.1 h1;rcases kn i hi with e|e
  · omega
  exact mZ.2 e
 have pl:=xA br pm;have kn: ∀i,i<agB k.kw.aI->k.kw.aI[i]! = -1\/ft k.jp.ii.am k.kw.aI[i]!:=fun i hi=>by
  rcases pl.ids _ (aW hi) with e|e
  · exact .inl e
  exact .inr e.2
 rw [aE kn,F0s,ol,Cq _ hl,aj,az,az,bu (by rw [<- pm.length_eq,dR]),ol,show s7 k.kw ⟨k.jp.ii.am⟩ k.jp.ci=_ from HQ ok.iK ok.fP br pl,aj]
 by_cases hw:k.kw.iH=bB k.jp.ii.am k.jp.ci k.kw.aI
 case neg=>rw [aC hw,rc (fun h=>hw h.right)];rfl
 obtain ⟨vo,nd,el⟩:=iE ok.iK ok.fP (t:=k.jp.ci) pl;rw [aE hw,F0s,ol,show vR k.kw=_ from uH br.len b2,aj];rw [hw];rw [aeI ok _ vo.kn,aj]
 by_cases hc:(k.jp.af.ce.map fun x=>x.2).Perm (fg k.kw.aI (bB k.jp.ii.am k.jp.ci k.kw.aI))
 · rw [aE (show _/\_ from ⟨by rw [<- hc.length_eq,M2],fun i hi=>⟨th.2 (hc.mem_iff.2 (aW hi)),D8 ok.iK pl (aW hi)⟩⟩),pp ⟨ok,br,pw,pm,hw,by rw [hw];exact hc⟩];rfl
 rw [aC (fun h=>hc ?_),rc (fun h=>hc (by have:=h.cert;rw [hw] at this;exact this))]
 · rfl
 have cl:(k.jp.af.ce.map fun x=>x.2).length=(agB k.jp.af.ce):=M2 ..
 refine (te nd (fun x hx=>?_) (by omega)).symm
 obtain ⟨i,hi,rfl⟩:=aS.1 hx;exact th.1 (h.2 i hi).1
section
variable {f : List Pt} (bT : bm f) {t : Int × Int} {p w : List Int} (pl : nV f p) (R : GW f t p w)
include bT pl R
end
theorem Hf: ∀e,e<=6->bq [-1] ((2^e:Nat):Int)=agE (ut (2^e) (-1)):=by
 have go: ∀(n:Nat) (m:Nat),n<1000->aa .u64 (n:Int)=(n:Int)->(2^m=n)->eF (aa .u64 (ae4 ([-1]:List Int).length)) (aa .u64 (n:Int))=agE (0,(n:Int)):=fun n m hn h _=>by
  rw [show aa .u64 (ae4 ([-1]:List Int).length)=1 from by kernel_rfl,h,vT ⟨by decide,by decide⟩ ⟨by omega,by omega⟩]
  have e1:(1*(n:Int)) / 18446744073709551616=0:=by omega
  have e2:(1*(n:Int))%18446744073709551616=(n:Int):=by omega
  rw [e1,e2]
 intro e he;have he:e=0\/e=1\/e=2\/e=3\/e=4\/e=5\/e=6:=by omega
 rcases he with rfl|rfl|rfl|rfl|rfl|rfl|rfl
 · unfold bq fa;rw [go 1 0 (by omega) (by kernel_rfl) rfl];exact (by kernel_rfl:_=ay aG (1,-1::ut 0 0)).trans (aU.2 ⟨20,by kernel_rfl⟩)
 · unfold bq fa;rw [go 2 1 (by omega) (by kernel_rfl) rfl];exact (by kernel_rfl:_=ay aG (1,-1::ut 1 0)).trans (aU.2 ⟨20,by kernel_rfl⟩)
 · unfold bq fa;rw [go 4 2 (by omega) (by kernel_rfl) rfl];exact (by kernel_rfl:_=ay aG (1,-1::ut 3 0)).trans (aU.2 ⟨20,by kernel_rfl⟩)
 · unfold bq fa;rw [go 8 3 (by omega) (by kernel_rfl) rfl];exact (by kernel_rfl:_=ay aG (1,-1::ut 7 0)).trans (aU.2 ⟨20,by kernel_rfl⟩)
 · unfold bq fa;rw [go 16 4 (by omega) (by kernel_rfl) rfl];exact (by kernel_rfl:_=ay aG (1,-1::ut 15 0)).trans (aU.2 ⟨20,by kernel_rfl⟩)
 · unfold bq fa;rw [go 32 5 (by omega) (by kernel_rfl) rfl];exact (by kernel_rfl:_=ay aG (1,-1::ut 31 0)).trans (aU.2 ⟨20,by kernel_rfl⟩)
 unfold bq fa;rw [go 64 6 (by omega) (by kernel_rfl) rfl];exact (by kernel_rfl:_=ay aG (1,-1::ut 63 0)).trans (aU.2 ⟨20,by kernel_rfl⟩)
theorem En {f:List Pt} (h64:(agB f)<=64):oG ⟨f⟩=agE (dG f):=by
 obtain ⟨g1,g2,g3⟩:=Ct h64;obtain ⟨b1,b2⟩:=WE h64;have fl:=tp h64;have stL: ∀i,i<=agB f->((dG f).take i++ut (2^lg (agB f)-i) (-1)).length=2^lg (agB f):=fun i hi=>by
  rw [ww,EQ,v6,fl];omega
 have in1:=bS (body:=kS) (fun i=>(f,((agB f):Int),(i:Int),(dG f).take i++ut (2^lg (agB f)-i) (-1))) (agB f) (fun i hi=>by
  unfold kS;simp only [aE (show (i:Int)<((agB f):Int) by omega),lw,ar f i hi,aj,aT (show i<1000000000 by omega),ar _ i (show i<((dG f).take i++ut (2^lg (agB f)-i) (-1)).length by rw [stL i (by omega)];omega),lV]
  have e:((dG f).take i++ut (2^lg (agB f)-i) (-1)).set i (f[i]!).1=(dG f).take (i+1)++ut (2^lg (agB f)- (i+1)) (-1):=by
   rw [dC (show i<(dG f).length by omega),afg _ _ (by rw [EQ];omega),EQ,Nat.min_eq_left (by omega),afN]
   obtain ⟨c,hc⟩: ∃c,2^lg (agB f)-i=c+1:=⟨2^lg (agB f)-i-1,by omega⟩
   rw [hc,show 2^lg (agB f)- (i+1)=c by omega,afy,List.set_cons_zero,ae2,List.singleton_append]
   rw [show (dG f)[i]! =(f[i]!).1 from by unfold dG;rw [ck (by rw [dR];exact hi),ma hi]]
  rw [e])
 have out:=bS (body:=mT) (fun i=>(((2^i:Nat):Int),f)) (lg (agB f)) (fun i hi=>by
  have:=g3 i hi
  unfold mT;simp only [az,aE (show ((2^i:Nat):Int)<((agB f):Int) by omega),lw]
  rw [dbl (by omega),Cs])
 unfold oG;refine (show _=_ from out).trans (aH ?_);unfold mT;simp only [az,aC (show¬((2^lg (agB f):Nat):Int)<((agB f):Int) by omega),ol,Hf _ g1,aj]
 have st0:ay kS (f,((agB f):Int),0,ut (2^lg (agB f)) (-1))=_:=in1;refine st0.trans (aH ?_);unfold kS;simp only [aC (show¬((agB f):Int)<((agB f):Int) by omega),ol]
 have e:(dG f).take (agB f)++ut (2^lg (agB f)-(agB f)) (-1)=dG f:=by
  unfold dG;rw [NE (by rw [dR];exact WF _),PP (by rw [dR];exact WF _)]
 rw [e]
theorem Cu {f:List Pt} (bT:bm f):nV f (dG f):=by
 have h64:=bT.1;obtain ⟨b1,b2⟩:=WE h64;have fl:=tp h64;refine ⟨by omega,by omega,fun i j lq hj e=>?_,fun x hx=>?_⟩
 · by_cases h2:j<agB f
   · have e1:(dG f)[i]! =(f[i]!).1:=by unfold dG;rw [ck (by rw [dR];omega),ma (by omega)]
     have e2:(dG f)[j]! =(f[j]!).1:=by unfold dG;rw [ck (by rw [dR];omega),ma (by omega)]
     rw [e1,e2] at e
     have:=xh bT.2.2 (by omega) h2 e
     omega
   rw [e]
   unfold dG;rw [dB (by rw [dR];omega),dR,qR _ (by omega)];decide
 unfold dG at hx
 rcases ae8.1 hx with h|h
 · have hp:=mZ.1 h
   have:=(dW bT hp).1
   have e2:=(dW bT hp).2;unfold fq at this;exact .inr ⟨by omega,hp⟩
 exact .inl (af5 h)
theorem Te {f:List Pt} (bT:bm f):cQ (dG f)=jb f:=by
 unfold dG cQ;rw [adc,afx.2 (fun x hx=>by
  have hp:=mZ.1 hx
  have:=(dW bT hp).1
  have e2:=(dW bT hp).2;unfold fq at this;simpa using (show 0<=x by omega)),List.filter_eq_nil_iff.2 (fun x hx=>by rw [af5 hx];decide),If]
structure tq (k:bz):Prop where
 c:Rv k.jp
 p:(agB k.kw.aI)<=1000
 w:(agB k.kw.iH)<=1000
theorem vn:tq qi:=⟨HL,afY _,afY _⟩
theorem Tb.short {c:aM} {f:List Pt} {p:List Int} {k:bz} (pl:nV f p) (h:Tb c f p k):tq k:=by
 have R:=dL (f:=f) (t:=c.ci) pl.one;have b2:=pl.eu;have b3:=R.1;refine ⟨h.zR.ok.short,by rw [h.aI];show (agB p)<=1000;omega,by rw [h.aI];show (bB f c.ci p).length<=1000;omega⟩
theorem DB (f:Field) {t:Int×Int} (qc:nm t): ∃R:bz×Int,kF f t=agE R/\j8 f t=agE R/\tq R.1:=by
 have cn:=KM f qc
 by_cases h:iC f.am=0
 case neg=>
  rw [pp h] at cn;refine ⟨(qi,iC f.am),?_,?_,vn⟩
  · unfold kF
    rw [cn,aj,cz h,lw];rfl
  unfold j8
  rw [gp,aj,cz h,lw,aj];rfl
 rw [rc (show¬iC f.am≠0 from fun k=>k h)] at cn
 have bT:=dp.1 h;have f1:=bT.1
 by_cases rt:bX t
 case neg=>
  rw [rc rt] at cn;refine ⟨(qi,8),?_,?_,vn⟩
  · unfold kF
    rw [cn,aj,cz (by decide),lw]
    rfl
  unfold j8
  rw [gp,aj,bu h,ol,lW qc,rc rt,aj,cz (by decide),lw]
  rfl
 rw [pp rt] at cn;have pl:=Cu bT;obtain ⟨R,r1,r2,r3⟩:=Bb (I3 bT rt qc) bT pl;have r1:jM (xz f t) f (dG f.am)=agE R:=r1;have r2:eY (xz f t) f (dG f.am)=agE R:=r2;have k1:oG f=agE (dG f.am):=En f1;have k2:qF f=agE (dG f.am):=yZ f1
 refine ⟨R,?_,?_,?_⟩
 · unfold kF
   rw [cn,aj,bu rfl,ol,k1,aj,r1,aj]
 · unfold j8
   rw [gp,aj,bu h,ol,lW qc,pp rt,aj,bu rfl,ol,Hb f1 t,aj,k2,aj,r2,aj]
 rcases r3 with ⟨_,q⟩|e
 · exact q.short pl
 rw [e];exact vn
theorem oS.fit (k:bz) (n:Wt k.jp) (sh:tq k):qP k.jp:=⟨n.ci,⟨sh.c.s3,sh.c.h,sh.c.w,n.Px⟩,sh.c.d⟩
structure aqS (c:aM) (l:List Int):Prop where
 ok:aZ c
 pm:(jb c.ii.am).Perm l
 ct:(c.af.ce.map fun x=>x.2).Perm (yQ l)
theorem aqS.bd {c:aM} {l:List Int} (h:aqS c l):(agB l)<=64:=by
 have:=h.ok.bd
 have:(agB l)=(agB c.ii.am):=by rw [<- h.pm.length_eq];exact M2 ..
 omega
structure aqT (f:List Pt) (p:List Int) (to:Int×Int) (k:bz):Prop where
 CA:aZ k.jp
 iK:k.jp.ii.am=f
 ci:k.jp.ci=to
 br:k.kw=⟨p,bB f to p⟩
 cert:(k.jp.af.ce.map fun x=>x.2).Perm (fg p (bB f to p))
 io: ¬Due k.jp to
theorem WG (l:List Int) (x:Int) (hl:(agB l)<=1000) (h1:1<=agB l):ay mL (l,l++[x])=agE (.done (l++[x]++ut (agB l-1) (-1))):=by
 have key:=bS (body:=mL) (fun j=>(l,l++[x]++ut j (-1))) (agB l-1) (fun j hj=>by
  unfold mL;have e:aa .i64 (2*((agB l):Int))=2*((agB l):Int):=jq ⟨by omega,by omega⟩
  simp only [az,ww,AC,v6,e];rw [aE (show ((agB l+1+j:Nat):Int)<2*((agB l):Int) by omega),lw,bR (by simp;omega),aj,ae2 (l++[x]),<- List.replicate_succ'])
 rw [List.replicate_zero,If] at key;rw [key];refine aH ?_;unfold mL;have e:aa .i64 (2*((agB l):Int))=2*((agB l):Int):=jq ⟨by omega,by omega⟩
 simp only [az,ww,AC,v6,e];rw [aC (show¬((agB l+1+(agB l-1):Nat):Int)<2*((agB l):Int) by omega),ol]
inductive D9 (l:List Int) (x:Int):List Int->Prop
 |at_ (k:Nat) (hk:k<agB l) (e:l[k]! = -1) (h: ∀j,j<k->l[j]!≠ -1) (hi:eK l (-1)=agE (k:Int)):D9 l x (l.set k x)
 |end_ (h: ∀j,j<agB l->l[j]!≠ -1) (hi:eK l (-1)=agE (-1)):D9 l x (l++[x]++ut (agB l-1) (-1))
theorem aeS {l:List Int} (h1:1<=agB l) (hl:(agB l)<=1000) (hr: ∀x∈l,-1<=x) (x:Int): ∃m,Gj l x=agE m/\D9 l x m:=by
 have neg: ∀j,j<agB l->(l[j]!<0↔l[j]! = -1):=fun j hj=>by
  have:=hr _ (aW hj)
  omega
 unfold Gj;rw [ba (by omega),aj]
 have key:=hO (body:=p8) (fun i=>(l,x,(i:Int),l)) (agB l) (fun i=>l[i]!<0) (fun i=>l.set i x) (e:=l++[x]++ut (agB l-1) (-1)) (fun i hi=>by
  unfold p8;simp only [az,aE (show (i:Int)<((agB l):Int) by omega),lw,ar l i hi,aj,aT (show i<1000000000 by omega),lV]
  refine ⟨fun h=>?_,fun h=>?_⟩
  · rw [aE h];rfl
  · rw [aC h];rfl) (by
  unfold p8;simp only [az,aC (show¬((agB l):Int)<((agB l):Int) by omega),ol]
  rw [bR (by simp;omega),aj]
  exact WG l _ (by omega) (by omega))
 have ix:=GV l (-1) (by omega)
 by_cases h: ∃i,i<agB l/\l[i]!<0
 · obtain ⟨k,k1,k2,k3⟩:=least h
   have k3': ∀j,j<k->l[j]!≠ -1:=fun j hj e=>k3 j hj ((neg j (by omega)).2 e)
   exact ⟨_,key.1 k k1 k2 k3,.at_ k k1 ((neg k k1).1 k2) k3' (ix.1 k k1 ((neg k k1).1 k2) k3')⟩
 have h': ∀i,i<agB l-> ¬l[i]!<0:=fun i hi hx=>h ⟨i,hi,hx⟩
 have h2: ∀j,j<agB l->l[j]!≠ -1:=fun j hj e=>h' j hj ((neg j hj).2 e)
 exact ⟨_,key.2 h',.end_ h2 (ix.2 h2)⟩
theorem aeT {f:List Pt} {m:Nat} {p:Pt} {x:Int} (h:ft f x):ft (nU f m p) x:=by
 obtain ⟨i,hi,rfl⟩:=h;obtain ⟨j,hj,e⟩:=aS.1 (zJ (m:=m) (p:=p).2 (.inr (aW hi)));exact ⟨j,hj,by rw [e]⟩
theorem Rx (f:List Pt) (m:Nat) (p:Pt):ft (nU f m p) p.1:=by
 obtain ⟨j,hj,e⟩:=aS.1 (zJ (f:=f) (m:=m) (p:=p).2 (.inl rfl));exact ⟨j,hj,by rw [e]⟩
theorem El.ins {f:List Pt} {m:Nat} {p:Pt} {x:Int} (h:El f x):El (nU f m p) x:=h.imp id fun h=>⟨h.1,aeT h.2⟩
theorem PL {f:List Pt} {l:List Int} (pl:nV f l) {p:Pt} (p0:0<=p.1) (nh: ¬ft f p.1) {m:Nat} (h32:(∀j,j<agB l->l[j]!≠ -1)->agB l<=32) {q:List Int} (h:D9 l p.1 q):nV (nU f m p) q:=by
 have one:=pl.one;have eu:=pl.eu;have ne: ∀j,j<agB l->l[j]!≠p.1:=fun j hj e=>by
  rcases pl.ids _ (aW hj) with h|h
  · omega
  exact nh (e▸h.2)
 cases h with
 |at_ k hk e h hi=>
  refine ⟨by rw [Do];exact one,by rw [Do];exact eu,fun i j lq hj he=>?_,fun x hx=>?_⟩
  · rw [Do] at hj
    rw [aX,aX] at he;rw [aX]
    by_cases a:i=k
    · rw [pp ⟨a,by omega⟩,rc (by omega)] at he
      exact absurd he.symm (ne j hj)
    rw [rc (fun h=>a h.1)] at he ⊢
    by_cases b:j=k
    · rw [pp ⟨b,by omega⟩] at he
      exact absurd he (ne i (by omega))
    rw [rc (fun h=>b h.1)] at he
    exact pl.once i j lq hj he
  rcases List.mem_or_eq_of_mem_set hx with h|h
  · exact (pl.ids x h).ins
  subst h;exact .inr ⟨p0,Rx f m p⟩
 |end_ h hi=>
  have h32:=h32 h;have ll:(l++[p.1]++ut (agB l-1) (-1:Int)).length=2*(agB l):=by
   rw [ww,ww,AC,v6];omega
  have g1: ∀i,i<agB l->(l++[p.1]++ut (agB l-1) (-1:Int))[i]! =l[i]!:=fun i hi=>by
   rw [ck (by rw [ww];omega),ck hi]
  have g2:(l++[p.1]++ut (agB l-1) (-1:Int))[agB l]! =p.1:=by
   rw [ck (by rw [ww,AC];omega),dB (WF _),afN];rfl
  have g3: ∀i,agB l<i->i<2*agB l->(l++[p.1]++ut (agB l-1) (-1:Int))[i]! = -1:=fun i h1 h2=>by
   rw [dB (by rw [ww,AC];omega)]
   rw [ww,AC]
   have:=aW (l:=ut (agB l-1) (-1:Int)) (i:=i- (agB l+1)) (by rw [v6];omega)
   exact (adm.1 this).2
  refine ⟨by rw [ll];omega,by rw [ll];omega,fun i j lq hj he=>?_,fun x hx=>?_⟩
  · rw [ll] at hj
    rcases af4 i (agB l) with a|a|a
    · rw [g1 i a] at he ⊢
      rcases af4 j (agB l) with b|b|b
      · rw [g1 j b] at he;exact pl.once i j lq b he
      · rw [b,g2] at he;exact absurd he (ne i a)
      rw [g3 j b hj] at he;omega
    · rw [a,g2,g3 j (by omega) hj] at he;omega
    rw [g3 i a (by omega)];omega
  rcases ae8.1 hx with hx|hx
  · rcases ae8.1 hx with hx|hx
    · exact (pl.ids x hx).ins
    obtain rfl:=List.mem_singleton.1 hx
    exact .inr ⟨p0,Rx f m p⟩
  exact .inl (adm.1 hx).2
theorem oS.aI {k:bz} (ok:oS k):nV k.jp.ii.am k.kw.aI:=xA ok.br ok.perm
theorem aeU {k:bz} (ok:oS k) (dM:(agB k.jp.ii.am)<64) (h: ∀j,j<agB k.kw.aI->k.kw.aI[j]!≠ -1):(agB k.kw.aI)<=32:=by
 have all:cQ k.kw.aI=k.kw.aI:=Cr fun x hx=>by
  obtain ⟨j,hj,rfl⟩:=aS.1 hx
  have:=h j hj
  rcases ok.aI.ids _ (aW hj) with e|e
  · exact absurd e this
  exact e.1
 have e:=ok.perm.length_eq;rw [all,dR] at e;obtain ⟨i,hi,hp⟩:=ok.pow
 have:i<=5:=by
  rcases agz i 6 with h|h
  · omega
  obtain rfl:i=6:=by omega
  omega
 have:=ae5 (show 0<2 by omega) this
 omega
section
variable {k : bz} (n : Wt k.jp) (sh : tq k)
include n sh
end
def xP (l:List Int) (k:Nat):List Int:=
 if 1<agB l/\4*(cQ (l.set k (-1))).length<=(agB l) then cQ (l.set k (-1))++ut ((agB l) / 2- (cQ (l.set k (-1))).length) (-1) else l.set k (-1)
theorem Tf: ∀m:Nat,1<=m->m<=32->bq [-1] (m:Int)=agE (ut m (-1)):=by
 intro m h1 h2;have go:aa .u64 (m:Int)=(m:Int)->eF (aa .u64 (ae4 ([-1]:List Int).length)) (aa .u64 (m:Int))=agE (0,(m:Int)):=fun h=>by
  rw [show aa .u64 (ae4 ([-1]:List Int).length)=1 from by kernel_rfl,h,vT ⟨by decide,by decide⟩ ⟨by omega,by omega⟩]
  have e1:(1*(m:Int)) / 18446744073709551616=0:=by omega
  have e2:(1*(m:Int))%18446744073709551616=(m:Int):=by omega
  rw [e1,e2]
 have cs: ∀j,j<32->m=j+1->bq [-1] (m:Int)=agE (ut m (-1)):=by
  intro j hj e;subst e
  have:j=0\/j=1\/j=2\/j=3\/j=4\/j=5\/j=6\/j=7\/j=8\/j=9\/j=10\/j=11\/j=12\/j=13\/j=14\/j=15\/j=16\/j=17\/j=18\/j=19\/j=20\/j=21\/j=22\/j=23\/j=24\/j=25\/j=26\/j=27\/j=28\/j=29\/j=30\/j=31:=by omega
  rcases this with rfl|rfl|rfl|rfl|rfl|rfl|rfl|rfl|rfl|rfl|rfl|rfl|rfl|rfl|rfl|rfl|rfl|rfl|rfl|rfl|rfl|rfl|rfl|rfl|rfl|rfl|rfl|rfl|rfl|rfl|rfl|rfl
  all_goals (unfold bq fa;rw [go (by kernel_rfl)])
  · exact (by kernel_rfl:_=ay aG (1,-1::ut 0 0)).trans (aU.2 ⟨20,by kernel_rfl⟩)
  · exact (by kernel_rfl:_=ay aG (1,-1::ut 1 0)).trans (aU.2 ⟨20,by kernel_rfl⟩)
  · exact (by kernel_rfl:_=ay aG (1,-1::ut 2 0)).trans (aU.2 ⟨20,by kernel_rfl⟩)
  · exact (by kernel_rfl:_=ay aG (1,-1::ut 3 0)).trans (aU.2 ⟨20,by kernel_rfl⟩)
  · exact (by kernel_rfl:_=ay aG (1,-1::ut 4 0)).trans (aU.2 ⟨20,by kernel_rfl⟩)
  · exact (by kernel_rfl:_=ay aG (1,-1::ut 5 0)).trans (aU.2 ⟨20,by kernel_rfl⟩)
  · exact (by kernel_rfl:_=ay aG (1,-1::ut 6 0)).trans (aU.2 ⟨20,by kernel_rfl⟩)
  · exact (by kernel_rfl:_=ay aG (1,-1::ut 7 0)).trans (aU.2 ⟨20,by kernel_rfl⟩)
  · exact (by kernel_rfl:_=ay aG (1,-1::ut 8 0)).trans (aU.2 ⟨20,by kernel_rfl⟩)
  · exact (by kernel_rfl:_=ay aG (1,-1::ut 9 0)).trans (aU.2 ⟨20,by kernel_rfl⟩)
  · exact (by kernel_rfl:_=ay aG (1,-1::ut 10 0)).trans (aU.2 ⟨20,by kernel_rfl⟩)
  · exact (by kernel_rfl:_=ay aG (1,-1::ut 11 0)).trans (aU.2 ⟨20,by kernel_rfl⟩)
  · exact (by kernel_rfl:_=ay aG (1,-1::ut 12 0)).trans (aU.2 ⟨20,by kernel_rfl⟩)
  · exact (by kernel_rfl:_=ay aG (1,-1::ut 13 0)).trans (aU.2 ⟨20,by kernel_rfl⟩)
  · exact (by kernel_rfl:_=ay aG (1,-1::ut 14 0)).trans (aU.2 ⟨20,by kernel_rfl⟩)
  · exact (by kernel_rfl:_=ay aG (1,-1::ut 15 0)).trans (aU.2 ⟨20,by kernel_rfl⟩)
  · exact (by kernel_rfl:_=ay aG (1,-1::ut 16 0)).trans (aU.2 ⟨20,by kernel_rfl⟩)
  · exact (by kernel_rfl:_=ay aG (1,-1::ut 17 0)).trans (aU.2 ⟨20,by kernel_rfl⟩)
  · exact (by kernel_rfl:_=ay aG (1,-1::ut 18 0)).trans (aU.2 ⟨20,by kernel_rfl⟩)
  · exact (by kernel_rfl:_=ay aG (1,-1::ut 19 0)).trans (aU.2 ⟨20,by kernel_rfl⟩)
  · exact (by kernel_rfl:_=ay aG (1,-1::ut 20 0)).trans (aU.2 ⟨20,by kernel_rfl⟩)
  · exact (by kernel_rfl:_=ay aG (1,-1::ut 21 0)).trans (aU.2 ⟨20,by kernel_rfl⟩)
  · exact (by kernel_rfl:_=ay aG (1,-1::ut 22 0)).trans (aU.2 ⟨20,by kernel_rfl⟩)
  · exact (by kernel_rfl:_=ay aG (1,-1::ut 23 0)).trans (aU.2 ⟨20,by kernel_rfl⟩)
  · exact (by kernel_rfl:_=ay aG (1,-1::ut 24 0)).trans (aU.2 ⟨20,by kernel_rfl⟩)
  · exact (by kernel_rfl:_=ay aG (1,-1::ut 25 0)).trans (aU.2 ⟨20,by kernel_rfl⟩)
  · exact (by kernel_rfl:_=ay aG (1,-1::ut 26 0)).trans (aU.2 ⟨20,by kernel_rfl⟩)
  · exact (by kernel_rfl:_=ay aG (1,-1::ut 27 0)).trans (aU.2 ⟨20,by kernel_rfl⟩)
  · exact (by kernel_rfl:_=ay aG (1,-1::ut 28 0)).trans (aU.2 ⟨20,by kernel_rfl⟩)
  · exact (by kernel_rfl:_=ay aG (1,-1::ut 29 0)).trans (aU.2 ⟨20,by kernel_rfl⟩)
  · exact (by kernel_rfl:_=ay aG (1,-1::ut 30 0)).trans (aU.2 ⟨20,by kernel_rfl⟩)
  exact (by kernel_rfl:_=ay aG (1,-1::ut 31 0)).trans (aU.2 ⟨20,by kernel_rfl⟩)
 exact cs (m-1) (by omega) (by omega)
theorem Tg {l:List Int} {k:Nat} (hk:k<agB l) (h0:0<=l[k]!):(cQ (l.set k (-1))).length+1=(cQ l).length:=by
 have e1:l=l.take k++l[k]!::l.drop (k+1):=by
  conv=>lhs;rw [<- List.take_append_drop k l,List.drop_eq_getElem_cons hk]
  rw [getElem!_pos l k hk]
 have e2:l.set k (-1)=l.take k++(-1)::l.drop (k+1):=by
  rw [List.set_eq_take_append_cons_drop,pp hk]
 have f1:(cQ l).length=((l.take k).filter fun x=>decide (0<=x)).length+(((l.drop (k+1)).filter fun x=>decide (0<=x)).length+1):=by
  unfold cQ
  conv=>lhs;rw [e1]
  rw [adc,ww,afa (by simpa using h0),List.length_cons]
 have f2:(cQ (l.set k (-1))).length=((l.take k).filter fun x=>decide (0<=x)).length+((l.drop (k+1)).filter fun x=>decide (0<=x)).length:=by
  unfold cQ;rw [e2,adc,ww,afb (by decide)]
 omega
theorem Th {f:List Pt} (hs:fx f) {q:Nat} (hq:q<agB f) {x:Int} (h:ft f x) (ec:x≠(f[q]!).1):ft (f.eraseIdx q) x:=by
 obtain ⟨i,hi,rfl⟩:=h;obtain ⟨j,hj,e⟩:=aS.1 ((Dx hs hq).2 ⟨aW hi,ec⟩);exact ⟨j,hj,by rw [e]⟩
theorem PM {f f':List Pt} {l:List Int} (pl:nV f l) {k:Nat} (hk:k<agB l) (h0:0<=l[k]!) (has: ∀x,ft f x->x≠l[k]!->ft f' x):nV f' (l.set k (-1)):=by
 refine ⟨by rw [Do];exact pl.one,by rw [Do];exact pl.eu,fun i j lq hj he=>?_,fun x hx=>?_⟩
 · rw [Do] at hj
   rw [aX,aX] at he;rw [aX]
   by_cases a:i=k
   · rw [pp ⟨a,by omega⟩];omega
   rw [rc (fun h=>a h.1)] at he ⊢
   by_cases b:j=k
   · rw [pp ⟨b,by omega⟩] at he;omega
   rw [rc (fun h=>b h.1)] at he;exact pl.once i j lq hj he
 obtain ⟨i,hi,rfl⟩:=aS.1 hx
 rw [Do] at hi;rw [aX]
 by_cases a:i=k
 · rw [pp ⟨a,by omega⟩];exact .inl rfl
 rw [rc (fun h=>a h.1)]
 refine (pl.ids _ (aW hi)).imp id fun h=>⟨h.1,has _ h.2 fun e=>a (pl.once.inj hi hk e h.1)⟩
theorem NF {f f':List Pt} {l:List Int} (pl:nV f l) {k:Nat} (hk:k<agB l) (h0:0<=l[k]!) (has: ∀x,ft f x->x≠l[k]!->ft f' x):nV f' (xP l k):=by
 have sp:=PM pl hk h0 has;unfold xP;split
 · rename_i h
   have nd:=Be sp.once;have eu:=pl.eu;obtain ⟨A,hA⟩: ∃A,A=cQ (l.set k (-1)):=⟨_,rfl⟩;rw [<- hA] at h nd ⊢;have An: ∀x∈A,0<=x:=fun x hx=>(iP.1 (hA▸hx)).2
   have ll:(A++ut ((agB l) / 2-(agB A)) (-1:Int)).length=(agB l) / 2:=by
    rw [ww,v6];omega
   have g3: ∀i,agB A<=i->i<(agB l) / 2->(A++ut ((agB l) / 2-(agB A)) (-1:Int))[i]! = -1:=fun i h1 h2=>by
    rw [dB h1]
    have:=aW (l:=ut ((agB l) / 2-(agB A)) (-1:Int)) (i:=i-(agB A)) (by rw [v6];omega)
    exact (adm.1 this).2
   refine ⟨by rw [ll];omega,by rw [ll];omega,fun i j lq hj he=>?_,fun x hx=>?_⟩
   · rw [ll] at hj
     by_cases a:i<agB A
     · rw [ck a] at he ⊢
       by_cases b:j<agB A
       · rw [ck b] at he
         have:=(af3.1 nd) i j a b lq
         rw [getElem!_pos A i a,getElem!_pos A j b] at he;exact absurd he this
       rw [g3 j (by omega) hj] at he
       have:=An _ (aW a);omega
     rw [g3 i (by omega) (by omega)];omega
   rcases ae8.1 hx with hx|hx
   · exact sp.ids x (iP.1 (hA▸hx)).1
   exact .inl (adm.1 hx).2
 exact sp
theorem NG:dO=bN:=rfl
section
variable {k : bz} (n : Wt k.jp) (sh : tq k)
include n sh
end
section
variable {α : Type} [Inhabited α] {P : α -> α -> Prop} {S : α -> Prop}
end
section
variable {f : List Pt} {t : Int × Int}
end
theorem Hg {f:List Pt} (bT:bm f) {t:Int×Int} {p:List Int} (pl:nV f p):KJ p (bB f t p):=by
 have R:=dL (f:=f) (t:=t) pl.one;refine ⟨pl.one,pl.eu,R.1,pl.once,pl.NU bT,R.vg,fun i hi h=>?_⟩
 rw [R.2 i hi] at h;unfold wa at h;split at h
 · rename_i h1;exact ⟨h1,h⟩
 rename_i h1
 split at h
 · omega
 split at h<;>omega
theorem aqT.ok {k:bz} (ok:oS k) {to:Int×Int} {r:bz} (h:aqT k.jp.ii.am k.kw.aI to r):oS r:=by
 have pl:=xA ok.br ok.perm;refine ⟨h.CA,?_,?_,?_,?_,?_⟩
 · rw [h.br];exact Hg ok.CA.iK pl
 · rw [h.br];exact ok.pow
 · rw [h.br,h.iK];exact ok.perm
 · rw [h.br,h.iK,h.ci]
 rw [h.br];exact h.cert
structure WH (R:bz) (F:List Pt) (P:List Int) (t:Int×Int):Prop where
 ok:oS R
 iK:R.jp.ii.am=F
 ci:R.jp.ci=t
 pls:R.kw.aI=P
theorem Ry {f:List Pt} {p:List Int} (bT:bm f) (pl:nV f p) (h: ∀x,ft f x->x∈p):(jb f).Perm (cQ p):=
 (List.perm_ext_iff_of_nodup (Dw bT.2.2) (Be pl.once)).2 fun x=>⟨fun hx=>by
  have hp:=mZ.1 hx;obtain ⟨i,hi,e⟩:=hp
  have:=bT.2.1 _ (aW hi)
  unfold fq at this;exact iP.2 ⟨h x ⟨i,hi,e⟩,by omega⟩,fun hx=>by
  obtain ⟨h1,h2⟩:=iP.1 hx;exact mZ.2 ((pl.ids x h1).has h2)⟩
theorem Tb.auX {c:aM} (ok:aZ c) {f:List Pt} (bT:bm f) {p:List Int} (pl:nV f p) (pw:Bd (agB p)) (pm:(jb f).Perm (cQ p)) {k:bz} (h:Tb c f p k):WH k f p c.ci:=by
 have q:=h.zR;have b:=h.aI;obtain ⟨_,nd,_⟩:=iE bT ok.fP (t:=c.ci) pl;refine ⟨⟨q.ok,by rw [b];exact Hg bT pl,by rw [b];exact pw,by rw [q.iK,b];exact pm,by rw [b,q.iK,q.ci],?_⟩,q.iK,q.ci,by rw [b]⟩
 rw [b];exact yV (uG q.ok.tu) nd (fun z hz=>by obtain ⟨y,hy,rfl⟩:=afc.1 hz;exact q.sub y hy) (fun z hz=>th.1 (q.has z hz))
theorem NH {c:aM} (ok:aZ c) {f:List Pt} (bT:bm f) {p:List Int} (pl:nV f p) (pw:Bd (agB p)) (pm:(jb f).Perm (cQ p)):
 ∃R:bz×Int,cA c ⟨f⟩ p=agE R/\(R=(qi,18)\/R.2=0/\WH R.1 f p c.ci):=by
 obtain ⟨R,r1,_,r3⟩:=Bc ok bT pl;refine ⟨R,r1,?_⟩;rcases r3 with ⟨a,b⟩|h
 · exact .inr ⟨a,b.auX ok bT pl pw pm⟩
 exact .inl h
theorem D9.mem {l q:List Int} {x:Int} (h:D9 l x q):x∈q/\ ∀y∈l,0<=y->y∈q:=by
 cases h with
 |at_ k hk e _ _=>
  refine ⟨List.mem_set hk x,fun y hy h0=>?_⟩
  obtain ⟨i,hi,rfl⟩:=aS.1 hy
  have:i≠k:=fun a=>by rw [a,e] at h0;exact absurd h0 (by decide)
  have g:=aX l k i x;rw [rc (fun h=>this h.1)] at g
  rw [<- g];exact aW (by rw [Do];exact hi)
 |end_ _ _=>exact ⟨by simp,fun y hy _=>by simp [hy]⟩
theorem WI {n:Nat} (h:Bd n) (h1:1<n):Bd (n / 2):=by
 obtain ⟨i,hi,rfl⟩:=h;cases i with
 |zero=>exact absurd h1 (by decide)
 |succ i=>exact ⟨i,by omega,by rw [Cs];omega⟩
theorem aeV {n:Nat} (h:Bd n) (h1:n<=32):Bd (2*n):=by
 obtain ⟨i,hi,rfl⟩:=h;refine ⟨i+1,?_,(Cs i).symm⟩;rcases agz i 6 with a|a
 · omega
 obtain rfl:i=6:=by omega
 exact absurd h1 (by decide)
theorem NI {l q:List Int} {x:Int} (h1:1<=agB l) (h:D9 l x q):(agB q=agB l/\ ∃k,k<agB l/\l[k]! = -1)\/(agB q=2*agB l/\ ∀j,j<agB l->l[j]!≠ -1):=by
 cases h with
 |at_ k hk e _ _=>exact .inl ⟨Do,k,hk,e⟩
 |end_ h _=>exact .inr ⟨by rw [ww,ww,AC,v6];omega,h⟩
theorem NJ {l:List Int} {j:Nat}:(xP l j).length=if 1<agB l/\4*(cQ (l.set j (-1))).length<=(agB l) then (agB l) / 2 else (agB l):=by
 unfold xP;split
 · rw [ww,v6];omega
 rw [Do]
theorem WJ {l:List Int} {j:Nat} {x:Int} (hx:x∈l) (h0:0<=x) (ec:x≠l[j]!):x∈xP l j:=by
 have a:x∈l.set j (-1):=by
  obtain ⟨i,hi,rfl⟩:=aS.1 hx;have g:=aX l j i (-1);rw [rc (fun h=>ec (by rw [h.1]))] at g
  rw [<- g];exact aW (by rw [Do];exact hi)
 unfold xP;split
 · exact List.mem_append_left _ (iP.2 ⟨a,h0⟩)
 exact a
section
variable {k : bz} (ok : oS k) (sh : tq k)
include ok sh
theorem KP:kB k=agE 0:=by rw [Em ok.CA.fit sh.p sh.w,pp ok]
theorem aeW:lU k=agE 0:=by rw [He ok.CA.fit sh.p sh.w,pp ok]
theorem NK (p:Pt):(∃e:Int,e≠0/\gG k.jp.ii p=agE (⟨[]⟩,e)/\mu k p=agE (qi,e))\/
 ∃(m:Nat) (q:List Int),Nu k.jp.ii.am p m/\ ¬ft k.jp.ii.am p.1/\fq p/\gG k.jp.ii p=agE (⟨nU k.jp.ii.am m p⟩,0)/\bm (nU k.jp.ii.am m p)/\
  D9 k.kw.aI p.1 q/\nV (nU k.jp.ii.am m p) q/\Bd (agB q)/\(jb (nU k.jp.ii.am m p)).Perm (cQ q)/\
  ∀R,cA k.jp ⟨nU k.jp.ii.am m p⟩ q=agE R->mu k p=agE R:=by
 have c1:=KP ok sh;have bT:=ok.CA.iK;have pl:=ok.aI;rcases G0 bT p with ⟨e,e0,t1,_⟩|⟨m,hm,hp,po,dM,t1,_⟩
 · have t1:gG k.jp.ii p=agE (⟨[]⟩,e):=t1
   refine .inl ⟨e,e0,t1,?_⟩;unfold mu;rw [c1,aj,bu rfl,ol,t1,aj,cz e0,lw];rfl
 have t1:gG k.jp.ii p=agE (⟨nU k.jp.ii.am m p⟩,0):=t1;have Cv:=aeJ bT po hm dM;have eu:=pl.eu;have one:=pl.one;have full:=aeU ok dM;obtain ⟨q,_,w2⟩:=aeS one (by omega) (fun x hx=>(pl.NU bT x hx).1) p.1
 have p0:0<=p.1:=by have:=po;unfold fq at this;omega
 have WK:nV (nU k.jp.ii.am m p) q:=PL pl p0 hp full w2;refine .inr ⟨m,q,hm,hp,po,t1,Cv,w2,WK,?_,Ry Cv WK fun x hx=>?_,fun R s1=>?_⟩
 · rcases NI one w2 with ⟨a,_⟩|⟨a,b⟩
   · rw [a];exact ok.pow
   rw [a];exact aeV ok.pow (full b)
 · obtain ⟨i,hi,rfl⟩:=hx
   rcases zJ.1 (aW hi) with h|h
   · rw [h];exact w2.mem.1
   obtain ⟨j,hj,e⟩:=aS.1 h
   have:=bT.2.1 _ h
   unfold fq at this;have hx:((nU k.jp.ii.am m p)[i]!).1∈cQ k.kw.aI:=ok.perm.mem_iff.1 (mZ.2 ⟨j,hj,by rw [e]⟩)
   exact w2.mem.2 _ (iP.1 hx).1 (by omega)
 unfold mu
 rw [c1,aj,bu rfl,ol,t1,aj,bu rfl,ol,ba (by omega),aj]
 cases w2 with
 |at_ j hj e h hi=>
  rw [hi,aj,aC (show¬(j:Int)<0 by omega),ol,ar _ j hj,aj,lV,s1,aj]
 |end_ h hi=>
  obtain ⟨i,hi7,hpw⟩:=ok.pow;have rep:=Hf i (by omega)
  rw [<- hpw] at rep;rw [hi,aj,aE (show (-1:Int)<0 by decide),lw,az,rep,aj]
  have em:(ut (agB k.kw.aI) (-1:Int)).isEmpty=agK:=by
   cases hh:(agB k.kw.aI) with
   |zero=>omega
   |succ _=>rfl
  rw [em,ol,bR (by rw [v6];omega),aj,ar _ _ (by rw [ww,v6];omega),aj,lV]
  have:(k.kw.aI++ut (agB k.kw.aI) (-1:Int)).set (agB k.kw.aI) p.1=k.kw.aI++[p.1]++ut (agB k.kw.aI-1) (-1):=by
   rw [afg _ _ (WF _),afN];cases hh:(agB k.kw.aI) with
   |zero=>omega
   |succ n=>simp [afy]
  rw [this,s1,aj]
theorem Ti (id:Int):(¬ft k.jp.ii.am id/\jj k.jp.ii id=agE (⟨[]⟩,6)/\lR k id=agE (qi,6))\/
 ∃q j:Nat,q<agB k.jp.ii.am/\(k.jp.ii.am[q]!).1=id/\j<agB k.kw.aI/\k.kw.aI[j]! =id/\0<=id/\jj k.jp.ii id=agE (⟨k.jp.ii.am.eraseIdx q⟩,0)/\
  bm (k.jp.ii.am.eraseIdx q)/\nV (k.jp.ii.am.eraseIdx q) (xP k.kw.aI j)/\Bd (xP k.kw.aI j).length/\(jb (k.jp.ii.am.eraseIdx q)).Perm (cQ (xP k.kw.aI j))/\
  (cQ (k.kw.aI.set j (-1))).length=agB k.jp.ii.am-1/\
  ∀R,cA k.jp ⟨k.jp.ii.am.eraseIdx q⟩ (xP k.kw.aI j)=agE R->lR k id=agE R:=by
 have c1:=KP ok sh;have bT:=ok.CA.iK;have pl:=ok.aI;have eu:=pl.eu;have one:=pl.one
 by_cases hid:ft k.jp.ii.am id
 case neg=>
  have t1:jj k.jp.ii id=agE (⟨[]⟩,6):=(KH bT hid).1;refine .inl ⟨hid,t1,?_⟩;unfold lR;rw [c1,aj,bu rfl,ol,t1,aj,cz (by decide),lw]
  rfl
 have hm:=iP.1 (ok.perm.mem_iff.1 (mZ.2 hid));obtain ⟨q,hq,hqe⟩:=hid;have t1:=(PC bT hq).1;rw [hqe] at t1;have t1:jj k.jp.ii id=agE (⟨k.jp.ii.am.eraseIdx q⟩,0):=t1;have Cv:=Ww bT q;obtain ⟨j,hj,e,ix,_⟩:=S9 (l:=k.kw.aI) (by omega) hm.1
 have h0:0<=k.kw.aI[j]!:=by rw [e];exact hm.2
 have WK:nV (k.jp.ii.am.eraseIdx q) (xP k.kw.aI j):=NF pl hj h0 fun x hx ec=>Th bT.2.2 hq hx (by rw [hqe,<- e];exact ec)
 have fl:(k.jp.ii.am.eraseIdx q).length=(cQ (k.kw.aI.set j (-1))).length:=by
  have a:=Tg hj h0;have b:=ok.perm.length_eq;rw [dR] at b
  have:=zH hq
  omega
 refine .inr ⟨q,j,hq,hqe,hj,e,hm.2,t1,Cv,WK,?_,Ry Cv WK fun x hx=>?_,by have:=zH hq;omega,fun R s1=>?_⟩
 · rw [NJ]
   split
   · rename_i h;exact WI ok.pow h.1
   exact ok.pow
 · obtain ⟨i,hi,rfl⟩:=hx
   obtain ⟨a,b⟩:=(Dx bT.2.2 hq).1 (aW hi);obtain ⟨i',q8,e'⟩:=aS.1 a;have hx:=iP.1 (ok.perm.mem_iff.1 (mZ.2 ⟨i',q8,by rw [e']⟩))
   exact WJ hx.1 hx.2 (by rw [e,<- hqe];exact b)
 unfold lR
 rw [c1,aj,bu rfl,ol,t1,aj,bu rfl,ol,ba (by omega),aj,ix,aj,ar _ j hj,aj]
 simp only [lV,az,Do,fl];have il:(cQ (k.kw.aI.set j (-1))).length<=(agB k.kw.aI):=by
  have:=UV (fun x:Int=>decide (0<=x)) (k.kw.aI.set j (-1))
  rw [Do] at this;unfold cQ;omega
 rw [jq (n:=4*((cQ (k.kw.aI.set j (-1))).length:Int)) ⟨by omega,by omega⟩]
 unfold xP at s1
 by_cases a:1<agB k.kw.aI
 · rw [aE (by omega),lw]
   by_cases b:4*(cQ (k.kw.aI.set j (-1))).length<=agB k.kw.aI
   · rw [aE (by omega),lw,NG]
     rw [pp ⟨a,b⟩] at s1;obtain ⟨N,M,m1,m2,m3,m4⟩:=Ar (k.kw.aI.set j (-1)) (by rw [Do];omega)
     rw [Do] at m1 m3;have w2:aa .i64 (aa .i64 (Int.tdiv ((agB k.kw.aI):Int) 2) - (N:Int))=(((agB k.kw.aI) / 2-N:Nat):Int):=by
      rw [Int.tdiv_eq_ediv_of_nonneg (by omega),jq (n:=((agB k.kw.aI):Int) / 2) ⟨by omega,by omega⟩,jq ⟨by omega,by omega⟩];omega
     rw [m1,aj];simp only [];rw [w2,Tf _ (by omega) (by omega),aj]
     have em:(ut ((agB k.kw.aI) / 2-N) (-1:Int)).isEmpty=agK:=by
      cases hh:(agB k.kw.aI) / 2-N with
      |zero=>omega
      |succ _=>rfl
     have b1:Nat.ble (N+((agB k.kw.aI) / 2-N)) (agB k.kw.aI)=agG:=by rw [Nat.ble_eq];omega
     have lay:(fk M N (ut ((agB k.kw.aI) / 2-N) (-1:Int))).take (N+((agB k.kw.aI) / 2-N))=cQ (k.kw.aI.set j (-1))++ut ((agB k.kw.aI) / 2-N) (-1):=by
      unfold fk;rw [m4,NE (by rw [ww,v6];omega),PP (by rw [ww,v6];omega)]
     rw [em,ol,v6,b1,lw,m3,b1];simp only [ae3,afB,lw];rw [lay,m2,s1,aj]
   rw [aC (by omega),ol]
   rw [rc (fun h=>b h.2)] at s1
   rw [s1,aj]
 rw [aC (by omega),ol]
 rw [rc (fun h=>a h.1)] at s1
 rw [s1,aj]
end
theorem WH.short {R:bz} {F:List Pt} {P:List Int} {t:Int×Int} (h:WH R F P t):tq R:=by
 have a:=h.ok.br.len;have b:=h.ok.br.eu;exact ⟨h.ok.CA.short,by omega,by omega⟩
theorem Hh {k:bz} (ok:oS k) (sh:tq k) (id:Int):(0<=id/\ ∃j,j<agB k.kw.aI/\k.kw.aI[j]! =id/\(∀i,i<j->k.kw.aI[i]!≠id)/\lS k id=agE ((j:Int),0))\/
 ((∀j,j<agB k.kw.aI->k.kw.aI[j]! =id->id<0)/\lS k id=agE (0,6)):=by
 have c1:=KP ok sh;have eu:=ok.aI.eu;obtain ⟨i1,i2⟩:=GV k.kw.aI id (by omega)
 unfold lS;rw [c1,aj,bu rfl,ol]
 by_cases h: ∃i,i<agB k.kw.aI/\k.kw.aI[i]! =id
 · obtain ⟨j,j1,j2,j3⟩:=least h
   have j3: ∀i,i<j->k.kw.aI[i]!≠id:=j3;rw [i1 j j1 j2 j3,aj]
   by_cases a:id<0
   · rw [aE a,lw]
     exact .inr ⟨fun _ _ _=>a,rfl⟩
   rw [aC a,ol,aC (by omega),ol]
   exact .inl ⟨by omega,j,j1,j2,j3,rfl⟩
 have h': ∀i,i<agB k.kw.aI->k.kw.aI[i]!≠id:=fun i hi e=>h ⟨i,hi,e⟩
 rw [i2 h',aj];refine .inr ⟨fun j hj e=>absurd e (h' j hj),?_⟩
 by_cases a:id<0
 · rw [aE a,lw]
 rw [aC a,ol,aE (by decide),lw]
section
variable {k : bz} (ok : oS k) (sh : tq k) (id : Int)
include ok sh
end
theorem WL {l:List Int} {k:Nat} (hk:k<agB l) (e:l[k]! = -1):(cQ l).length<(agB l):=by
 unfold cQ;rw [List.length_filter_lt_length_iff_exists];exact ⟨l[k]!,aW hk,by rw [e];decide⟩
structure tH (c:aM) (m k:Nat):Prop where
 l:(agB c.af.ce)<=m
 n:c.af.aN<=k
 u: ∀j,j<agB c.ae.ai.aA->c.ae.ai.aA[j]!<=k
theorem tH.GS {c:aM} (ok:aZ c) {m k:Nat} (h:tH c m k) (hm:m<=199) (hk:k<=999999): ¬(Ap c.af\/ ¬vW c.ae.ai):=by
 obtain ⟨h1,h2,h3⟩:=h;have fl:=ok.Bi.len;have hd:=ok.hd;have hl:=ok.mb.hl;have wl:=ok.mb.wl;have w2:=ok.GP;rintro (h|h)
 · rcases h with h|h<;>omega
 refine h ⟨by omega,?_⟩
 have:=h3 _ (xi ok.mb.so (by omega)).1
 omega
theorem tH.more {c c':aM} {m k:Nat} (h:tH c m k) {x:Int×Int} (hc:c'.af=mX c.af x) (hs:c'.ae.ai=c.ae.ai\/c'.ae.ai=ga c.ae.ai):tH c' (m+1) (k+1):=by
 obtain ⟨h1,h2,h3⟩:=h;refine ⟨?_,?_,fun j hj=>?_⟩
 · rw [hc]
   show (c.af.ce++[(c.af.aN,x)]).length<=_;rw [ww,AC];omega
 · rw [hc]
   show c.af.aN+1<=_;omega
 rcases hs with e|e
 · rw [e] at hj ⊢
   have:=h3 j hj;omega
 rw [e] at hj ⊢
 change j<(c.ae.ai.aA.set _ _).length at hj;rw [Do] at hj;show (c.ae.ai.aA.set (cW c.ae.ai) (c.ae.ai.aA[cW c.ae.ai]!+1))[j]!<=_;rw [aX];split
 · rename_i h;have:=h3 _ h.2;omega
 have:=h3 j hj;omega
theorem NL {c:aM} (ok:aZ c) {i:Nat} (hi:i<agB c.af.ce) {c':aM} {x:Int×Int} (h:kD c (c.af.ce[i]!).1=agE (c',x,0)):c'.ae.ai.aA=c.ae.ai.aA:=by
 have bd:=ok.bd;have rm:=yO ok.tu hi (n:=(c.af.ce[i]!).1) rfl;have fe:=ok.Bi.erase (i:=i) hi;have pd:=zI ok.A8 (by omega) (c.af.ce[i]!).1
 cases hf:(bw c.ii.am (c.af.ce[i]!).2 c.ci).2 with
 |false=>
  have no: ∀k,k<agB c.io->(c.io[k]!).1≠(c.af.ce[i]!).1:=by
   intro k hk he;obtain ⟨x,hx,h1,h2,_⟩:=ok.Bi.io _ (aW hk);obtain ⟨j,hj,rfl⟩:=aS.1 hx;have ub:=qg.1 ok.rz
   have:j=i:=by
    rcases af4 j i with h|h|h
    · have:=ub j i h hi;omega
    · exact h
    have:=ub i j h hj;omega
   rw [this,hf] at h2;cases h2
  obtain ⟨m,e⟩:=pd.2 no;unfold kD at h;simp only [rm,aj,show ((0:Int) !=0)=agK from rfl,ol,gj ok,e] at h;injection h with h;injection h with h _;rw [<- h]
 |true=>
  obtain ⟨k,hk,k1,k2,k3⟩:=fe.2 hf;obtain ⟨w,hw,gx⟩:=aS.1 k2;have hh:(c.ae.bv[w]!).2.2.2=(c.io[k]!).2:=by rw [gx]
  obtain ⟨L,d1,d2⟩:=uF c.io k hk;unfold kD at h;simp only [rm,aj,show ((0:Int) !=0)=agK from rfl,ol,gj ok,pd.1 k hk k1,lw,ar c.io k hk,pF ok.mb hw ok.mb.fit hh,aT (show k<1000000000 by omega),GK,d1,d2] at h
  injection h with h;injection h with h _;rw [<- h];show (dK c.ae w).ai.aA=_;have h3:(dK c.ae w).ai=fy c.ae.ai (c.ae.bv[w]!).2.2.2:=by unfold dK;split<;>rfl
  rw [h3];rfl
theorem Rz {c0:aM} (ok0:aZ c0) {f:List Pt} {es:List (Int×Int)} (vo:qh f es) {k:Nat}:
 ∀(d i:Nat) (c:aM),agB c0.af.ce-i<=d->i<=agB c0.af.ce->aZ c->(∀x∈c0.af.ce.drop i,x∈c.af.ce)->(∀x∈c.af.ce,x∈c0.af.ce.drop i\/x.2∈es)->tH c (agB es) k\/tH c 100 k->
  c.ii=c0.ii->c.ci=c0.ci->tH c 100 k->
  ∃c':aM,ay bI (kP c0 f es i c)=ay bI (kP c0 f es (agB c0.af.ce) c')/\aZ c'/\(∀x∈c'.af.ce,x.2∈es)/\c'.ii=c0.ii/\tH c' 100 k/\c'.ci=c0.ci:=by
 have bd:=ok0.bd;intro d
 induction d with
 |zero=>
  intro i c hd hi ok h1 h2 _ hf hn hr
  have:i=(agB c0.af.ce):=by omega
  subst this;refine ⟨c,rfl,ok,fun x hx=>?_,hf,hr,hn⟩
  rcases h2 x hx with h|h
  · rw [afX] at h;cases h
  exact h
 |succ d ih=>
  intro i c hd hi ok h1 h2 _ hf hn hr
  by_cases he:i=agB c0.af.ce
  · subst he
    refine ⟨c,rfl,ok,fun x hx=>?_,hf,hr,hn⟩
    rcases h2 x hx with h|h
    · rw [afX] at h;cases h
    exact h
  have q8:i<(agB c0.af.ce):=by omega
  have e1:aig ((i:Int)<((agB c0.af.ce):Int))=agG:=aE (by omega)
  have sc:=aT (show i<1000000000 by omega)
  have cg:=ar c0.af.ce i q8;have dr:=pG q8;have rZ:(aM.mk (c.ci.1,c.ci.2) (Field.mk c.ii.am) (bF.mk c.af.aN c.af.ce) (aL.mk (bg.mk c.ae.ai.aA c.ae.ai.be c.ae.ai.bi) c.ae.bv c.ae.aq) c.io)=c:=rfl
  by_cases sE:(c0.af.ce[i]!).2∈es
  · have s1:bI (kP c0 f es i c)=agE (.next (kP c0 f es (i+1) c)):=by
     unfold bI kP;simp only [e1,lw,cg,aj,jm _ _ vo.len,aE sE,F0s,ol,sc]
    rw [aV s1];refine ih (i+1) c (by omega) (by omega) ok (fun x hx=>h1 x (by rw [dr];exact afj _ hx)) (fun x hx=>?_) (.inr hr) hf hn hr
    rcases h2 x hx with h|h
    · rw [dr] at h
      rcases agl.1 h with rfl|h
      · exact .inr sE
      exact .inl h
    exact .inr h
  have hm:=h1 (c0.af.ce[i]!) (by rw [dr];exact List.mem_cons_self)
  obtain ⟨m,Qy,N7⟩:=aS.1 hm;obtain ⟨c',r1,r2,r3,r4,r5,r6⟩:=Wl ok Qy;have ru:=NL ok Qy r1;have rt:=xM ok Qy r1;rw [N7] at rt;have s1:bI (kP c0 f es i c)=agE (.next (kP c0 f es (i+1) c')):=by
   unfold bI kP;simp only [e1,lw,cg,aj,jm _ _ vo.len,aC sE,ae3,sc,rZ,rt]
  rw [aV s1];have cl:c'.af.ce=c.af.ce.eraseIdx m:=by rw [r6];rfl
  have WY:tH c' 100 k:=⟨by rw [cl,List.length_eraseIdx_of_lt Qy];have:=hr.l;omega,by rw [r6];exact hr.n,by rw [ru];exact hr.u⟩
  refine ih (i+1) c' (by omega) (by omega) r3 (fun x hx=>?_) (fun x hx=>?_) (.inr WY) (r4.trans hf) (r5.trans hn) WY
  · rw [cl]
    refine IV (h1 x (by rw [dr];exact afj _ hx)) ?_
    rw [N7];exact xq ok0 hx q8
  rw [cl] at hx
  obtain ⟨a1,a2⟩:=rY ok.rz Qy hx;rw [N7] at a2;rcases h2 x a1 with h|h
  · rw [dr] at h
    rcases agl.1 h with rfl|h
    · exact absurd rfl a2
    exact .inl h
  exact .inr h
theorem KQ {f:List Pt} {es:List (Int×Int)} (vo:qh f es) (hes:(agB es)<=90):
 ∀(d i:Nat) (c:aM) (k:Nat),agB es-i<=d->i<=agB es->aZ c->c.ii.am=f->tH c (100+i) k->k+(agB es-i)<=999999->
  ∃r:aM,ay cH (eP es i c)=agE (.done (r,0))/\ ∃k',k'<=k+(agB es-i)/\tH r 190 k':=by
 have el:=vo.len;intro d
 induction d with
 |zero=>
  intro i c k hd hi ok hf hr hk
  have:i=(agB es):=by omega
  subst this;refine ⟨c,aH ?_,k,by omega,⟨by have:=hr.l;omega,hr.n,hr.u⟩⟩
  unfold cH eP;simp only [aC (show¬((agB es):Int)<((agB es):Int) by omega),ol]
 |succ d ih=>
  intro i c k hd hi ok hf hr hk
  by_cases he:i=agB es
  · exact ih i c k (by omega) hi ok hf hr hk
  have bd:=ok.bd;have q8:i<(agB es):=by omega
  have e1:aig ((i:Int)<((agB es):Int))=agG:=aE (by omega)
  have sc:=aT (show i<1000000000 by omega)
  have cg:=ar es i q8;have rZ:(aM.mk (c.ci.1,c.ci.2) (Field.mk c.ii.am) (bF.mk c.af.aN c.af.ce) (aL.mk (bg.mk c.ae.ai.aA c.ae.ai.be c.ae.ai.bi) c.ae.bv c.ae.aq) c.io)=c:=rfl;have hc:=GN c.af.ce es[i]! (by omega)
  by_cases sE:tG c.af.ce es[i]!
  · have s1:cH (eP es i c)=agE (.next (eP es (i+1) c)):=by
     unfold cH eP;simp only [e1,lw,cg,aj,v8,hc,aE sE,sc]
    rw [aV s1];obtain ⟨r,q1,k',q2,q3⟩:=ih (i+1) c k (by omega) (by omega) ok hf ⟨by have:=hr.l;omega,hr.n,hr.u⟩ (by omega)
    exact ⟨r,q1,k',by omega,q3⟩
  have hb:iJ c.ii.am es[i]!:=by rw [hf];exact vo.kn _ (aW q8)
  rcases Rt ok (vo.cv _ (aW q8)) hb sE with ⟨_,_,full⟩|⟨c',r1,_,r3,r4,r5,r6,r7⟩
  · exact absurd full (hr.GS ok (by omega) (by omega))
  have s1:cH (eP es i c)=agE (.next (eP es (i+1) c')):=by
   unfold cH eP;simp only [e1,lw,cg,aj,v8,hc,aC sE,ol,rZ,r1,show ((0:Int) !=0)=agK from rfl,sc]
  rw [aV s1];obtain ⟨r,q1,k',q2,q3⟩:=ih (i+1) c' (k+1) (by omega) (by omega) r3 (by rw [r4,hf]) ((hr.more r6 r7)) (by omega)
  exact ⟨r,q1,k',by omega,q3⟩
theorem PN {c:aM} (ok:aZ c) {es:List (Int×Int)} (vo:qh c.ii.am es) (hes:(agB es)<=90) {k:Nat} (hr:tH c 100 k) (hk:k+agB es<=999999):
 ∃r:aM,ja c c.ii es=agE (r,0)/\ ∃k',k'<=k+agB es/\tH r 190 k':=by
 have bd:=ok.bd;have f1:=ok.iK.1;obtain ⟨c',g1,g2,g3,g4,g5,_⟩:=Rz (f:=c.ii.am) ok vo (k:=k) (agB c.af.ce) 0 c (by omega) (by omega) ok (fun x hx=>by rwa [ae9] at hx) (fun x hx=> .inl (by rwa [ae9])) (.inr hr) rfl rfl hr
 obtain ⟨r,q1,k',q2,q3⟩:=KQ (f:=c.ii.am) vo hes (agB es) 0 c' k (by omega) (by omega) g2 (by rw [g4]) g5 (by omega)
 refine ⟨r,?_,k',by omega,q3⟩
 refine (show ja c c.ii es=_ from g1).trans (aH ?_);unfold bI kP;simp only [aC (show¬((agB c.af.ce):Int)<((agB c.af.ce):Int) by omega),ol,g4,sd c.ii.am c.ii.am (by omega),aj,F0s,decide_true]
 have q1:=q1;unfold eP at q1;rw [g4] at q1;exact q1
theorem aeX {a b:Int×Int}: ¬vU a b<0↔b.1*a.2<=a.1*b.2:=by rw [Kv];omega
theorem aeY {a b:Int×Int}:vU a b<=0↔a.1*b.2<=b.1*a.2:=by
 unfold vU;rcases fw (a.1*b.2) (b.1*a.2) with ⟨x,y⟩|⟨x,y⟩|⟨x,y⟩<;>omega
theorem Due.more {c:aM} (ok:aZ c) {s t:Int×Int} (rs:bX s) (rt:bX t) (st: ¬vU t s<0) (h:Due c s):Due c t:=by
 refine ⟨h.1,?_⟩;have e0:=(ok.mb.ev 0 h.1).1.1;have h2:=h.2;rw [aeY] at*;rw [aeX] at st;exact Gt e0 rs.1 rt.1 h2 st
section
variable {s t : Int × Int}
end
noncomputable def pos (l:List Int) (x:Int):Nat:=if h: ∃k,k<agB l/\l[k]! =x then h.choose else 0
section
variable (f : List Pt)
end
section
variable {f : List Pt}
end
section
variable {f : List Pt}
end
section
variable {f : List Pt} (bT : bm f) (h8 : (agB f) <= 8) (r : Nat)
include bT h8
end
theorem PO {f:List Pt} (bT:bm f) {t:Int×Int} (rt:bX t) (qc:nm t) {p:List Int} (pl:nV f p):
 ∃r:aM,eY (xz ⟨f⟩ t) ⟨f⟩ p=agE (⟨r,⟨p,bB f t p⟩⟩,0)/\aZ r/\r.ii=⟨f⟩/\r.ci=t/\(r.af.ce.map fun x=>x.2).Perm (fg p (bB f t p))/\tH r 100 63:=by
 have ok:=I3 (f:=⟨f⟩) bT rt qc;obtain ⟨c,hc⟩: ∃c,c=xz ⟨f⟩ t:=⟨_,rfl⟩;have cf:c.ii=⟨f⟩:=by rw [hc];rfl
 have cn:c.ci=t:=by rw [hc];rfl
 have hr:tH c 100 0:=by
  obtain ⟨a,b,d⟩:=KN ⟨f⟩ t;rw [hc];exact ⟨by omega,b,d⟩
 rw [<- hc] at ok ⊢;have auY:bm c.ii.am:=by rw [cf];exact bT
 obtain ⟨vo,nd,el⟩:=iE bT qc (t:=t) pl;have aqW:qh c.ii.am (fg p (bB f t p)):=by rw [cf];exact vo
 obtain ⟨r,q1,k',q2,q3⟩:=PN ok aqW (by omega) hr (by omega)
 obtain ⟨S,s1,s2,s3⟩:=Ru ok auY aqW;have es:S=(r,0):=afe (s1.symm.trans q1);rw [es] at s2 s3;rcases s3 with ⟨_,q⟩|q
 case inr=>cases q
 have q:D6 c c.ii.am (fg p (bB f t p)) r:=q;have rf:r.ii=⟨f⟩:=by
  have:=q.iK
  rw [cf] at this;cases h1:r.ii;rw [h1] at this;exact congrArg Field.mk this
 have ct':(r.af.ce.map fun x=>x.2).Perm (fg p (bB f t p)):=
  yV (uG q.ok.tu) nd (fun z hz=>by obtain ⟨y,hy,rfl⟩:=afc.1 hz;exact q.sub y hy) (fun z hz=>th.1 (q.has z hz))
 have B:=dL (f:=f) (t:=t) pl.one;refine ⟨r,?_,q.ok,rf,q.ci.trans cn,ct',?_,by have:=q3.n;omega,fun j hj=>by have:=q3.u j hj;omega⟩
 · unfold eY
   rw [cn,vj bT qc pl,aj,uH B.1 pl.eu,aj];have s2:jg c ⟨f⟩ (fg p (bB f t p))=agE (r,0):=by rw [<- cf];exact s2
   rw [s2,aj,bu rfl,ol]
 have:=ct'.length_eq
 rw [M2] at this;omega
def I7 (f:List Pt):Prop:= ∀p∈f,p.2.2=0
theorem PQ {f:List Pt} (bT:bm f) (st:I7 f) {t:Int×Int} (qc:nm t) {p:List Int} (pl:nV f p) {e:Int×Int} (he:e∈fg p (bB f t p)):(bw f e t).2=agK:=by
 obtain ⟨vo,_,_⟩:=iE bT qc (t:=t) pl;have hb:=vo.kn e he;have a:=st _ (xx bT.2.2 hb.1).1;have b:=st _ (xx bT.2.2 hb.2).1;unfold bw yG;rw [rc (yT (D8 bT pl he)),rc (by omega)]
theorem PR {c:aM} (ok:aZ c) {f:List Pt} (bT:bm f) (kn: ∀i,i<agB c.af.ce->iJ f (c.af.ce[i]!).2)
 (w0: ∀i,i<agB c.af.ce->(bw c.ii.am (c.af.ce[i]!).2 c.ci).2=agK) (w1: ∀i,i<agB c.af.ce->(bw f (c.af.ce[i]!).2 c.ci).2=agK):
 kf c ⟨f⟩=agE (⟨c.ci,⟨f⟩,c.af,c.ae,[]⟩,0):=by
 have bd:=ok.bd;have f64:=bT.1;have hc:fT c=agE 0:=by rw [jT ok.fit,pp ok]
 have hf:db ⟨f⟩=agE 0:=by rw [eE];exact congrArg agE (dp.2 bT)
 have tw:=gj ok;have tw':kC (aM.mk (c.ci.1,c.ci.2) (Field.mk c.ii.am) (bF.mk c.af.aN c.af.ce) (aL.mk (bg.mk c.ae.ai.aA c.ae.ai.be c.ae.ai.bi) c.ae.bv c.ae.aq) c.io)=agE c:=tw
 have first:ay eB (c.af.ce,((agB c.af.ce):Int),0,c.ci.1,c.ci.2,c.ii.am,c.af.aN,c.af.ce,c.ae.ai.aA,c.ae.ai.be,c.ae.ai.bi,c.ae.bv,c.ae.aq,c.io,f,0,0,0)=
  ay eB (c.af.ce,((agB c.af.ce):Int),((agB c.af.ce):Int),c.ci.1,c.ci.2,c.ii.am,c.af.aN,c.af.ce,c.ae.ai.aA,c.ae.ai.be,c.ae.ai.bi,c.ae.bv,c.ae.aq,c.io,f,0,0,0):=by
  refine bS (body:=eB) (fun i=>(c.af.ce,((agB c.af.ce):Int),(i:Int),c.ci.1,c.ci.2,c.ii.am,c.af.aN,c.af.ce,c.ae.ai.aA,c.ae.ai.be,c.ae.ai.bi,c.ae.bv,c.ae.aq,c.io,f,0,0,0)) (agB c.af.ce) (fun i hi=>?_)
  have e1:aig ((i:Int)<((agB c.af.ce):Int))=agG:=aE (by omega)
  unfold eB;simp only [e1,lw,ar c.af.ce i hi,aj,jS bT,aC (Du bT (kn i hi).1),aC (Du bT (kn i hi).2),ol,aT (show i<1000000000 by omega)]
 have st:=bS (body:=cp) (fun i=>Nj c f i c.ae []) (agB c.af.ce) (fun i hi=>by
  have no: ∀j,j<agB c.io->(c.io[j]!).1≠(c.af.ce[i]!).1:=by
   intro j hj he;obtain ⟨x,hx,h1,h2,_⟩:=ok.Bi.io _ (aW hj)
   have:=ok.rz.inj hx (aW hi) (by rw [<- h1,he])
   rw [this,w0 i hi] at h2;cases h2
  obtain ⟨m,pl⟩:=(zI ok.A8 (by omega) (c.af.ce[i]!).1).2 no
  have wn:=qf bT (x:=(c.af.ce[i]!).2) (t:=(c.ci.1,c.ci.2)) (ok.tu.cv i hi) ok.nT ok.fP;rw [pp (kn i hi)] at wn;unfold cp Nj;simp only [aE (show (i:Int)<((agB c.af.ce):Int) by omega),lw,ar c.af.ce i hi,aj,wn,pl,w1 i hi,show ((0:Int) !=0)=agK from rfl,ol,aT (show i<1000000000 by omega)])
 have run:ay cp (Nj c f 0 c.ae [])=agE (.done (⟨c.ci,⟨f⟩,c.af,c.ae,[]⟩,0)):=by
  refine (show _=_ from st).trans (aH ?_);unfold cp Nj;simp only [aC (show¬((agB c.af.ce):Int)<((agB c.af.ce):Int) by omega),ol]
 unfold kf;simp only [hc,aj,show ((0:Int) !=0)=agK from rfl,ol,hf,az];rw [first]
 refine aH ?_;unfold eB;have e1:aig (((agB c.af.ce):Int)<((agB c.af.ce):Int))=agK:=aC (by omega)
 simp only [az,e1,ol,tw',aj,ba (show (agB f)<=1048576 by omega)]
 exact run
theorem PS {c:aM} (ok:aZ c) {f:List Pt} (bT:bm f) {es:List (Int×Int)} (vo:qh f es) (hes:(agB es)<=90) {k:Nat} (hr:tH c 100 k) (hk:k+agB es<=999999)
 (ag: ∀x,ft c.ii.am x->ft f x->fR f x=fR c.ii.am x) (w1: ∀e∈es,(bw f e c.ci).2=agK):
 ∃r:aM,ja c ⟨f⟩ es=agE (r,0)/\ ∃k',k'<=k+agB es/\tH r 190 k':=by
 have f1:=bT.1;obtain ⟨c',g1,g2,g3,g4,g5,g6⟩:=Rz (f:=f) ok vo (k:=k) (agB c.af.ce) 0 c (by omega) (by omega) ok (fun x hx=>by rwa [ae9] at hx) (fun x hx=> .inl (by rwa [ae9])) (.inr hr) rfl rfl hr
 have bd:=g2.bd;have rZ:(aM.mk (c'.ci.1,c'.ci.2) (Field.mk c'.ii.am) (bF.mk c'.af.aN c'.af.ce) (aL.mk (bg.mk c'.ae.ai.aA c'.ae.ai.be c'.ae.ai.bi) c'.ae.bv c'.ae.aq) c'.io)=c':=rfl;have start:ja c ⟨f⟩ es=ay bI (kP c f es (agB c.af.ce) c'):=g1
 by_cases hf:c'.ii.am=f
 · obtain ⟨r,q1,k',q2,q3⟩:=KQ (f:=f) vo hes (agB es) 0 c' k (by omega) (by omega) g2 hf g5 (by omega)
   refine ⟨r,?_,k',by omega,q3⟩
   refine start.trans (aH ?_);unfold bI kP;simp only [aC (show¬((agB c.af.ce):Int)<((agB c.af.ce):Int) by omega),ol,sd c'.ii.am f (by have:=g2.iK.1;omega),aj,aE hf,F0s]
   exact q1
 have kn: ∀i,i<agB c'.af.ce->iJ f (c'.af.ce[i]!).2:=fun i hi=>vo.kn _ (g3 _ (aW hi))
 have b1: ∀i,i<agB c'.af.ce->(bw f (c'.af.ce[i]!).2 c'.ci).2=agK:=fun i hi=>by rw [g6];exact w1 _ (g3 _ (aW hi))
 have b0: ∀i,i<agB c'.af.ce->(bw c'.ii.am (c'.af.ce[i]!).2 c'.ci).2=agK:=fun i hi=>by
  have h1:=kn i hi;have h2:=g2.known i hi;rw [g4] at h2;rw [<- b1 i hi];unfold bw;rw [g4,ag _ h2.1 h1.1,ag _ h2.2 h1.2]
 have al:=PR g2 bT kn b0 b1;rcases afU g2 bT kn with ⟨a1,_⟩|⟨c2,a1,_,a3,a4,_,_⟩
 · rw [al] at a1
   injection a1 with a1;injection a1 with _ a1;exact absurd a1 (by decide)
 rw [al] at a1;injection a1 with a1;injection a1 with a1 _;have NQ:tH c2 100 k:=by rw [<- a1];exact ⟨g5.l,g5.n,g5.u⟩
 obtain ⟨r,q1,k',q2,q3⟩:=KQ (f:=f) vo hes (agB es) 0 c2 k (by omega) (by omega) a3 a4 NQ (by omega)
 refine ⟨r,?_,k',by omega,q3⟩
 refine start.trans (aH ?_);unfold bI kP;simp only [aC (show¬((agB c.af.ce):Int)<((agB c.af.ce):Int) by omega),ol,sd c'.ii.am f (by have:=g2.iK.1;omega),aj,aC hf,ae3,lw,rZ,al,show ((0:Int) !=0)=agK from rfl,a1]
 exact q1
theorem I8 {c:aM} (ok:aZ c) {f:List Pt} (bT:bm f) (st:I7 f) {p:List Int} (pl:nV f p) (pw:Bd (agB p)) (pm:(jb f).Perm (cQ p)) (ag: ∀x,ft c.ii.am x->ft f x->fR f x=fR c.ii.am x) {k:Nat} (hr:tH c 100 k) (hk:k+63<=999999):
 ∃R:bz×Int,cA c ⟨f⟩ p=agE R/\R.2=0/\WH R.1 f p c.ci/\tH R.1.jp 100 (k+63):=by
 obtain ⟨vo,nd,el⟩:=iE bT ok.fP (t:=c.ci) pl;obtain ⟨r,q1,k',q2,q3⟩:=PS ok bT vo (by omega) hr (by omega) ag (fun e he=>PQ bT st ok.fP pl he)
 have ee:kI f (fg p (bB f c.ci p))=0:=by
  unfold kI;rw [rc (ae1.2 vo.cv),rc (ae1.2 nd),rc (fun h=>h vo.kn)]
 have rn:=yS ok bT (es:=fg p (bB f c.ci p)) (by omega) (fun _=>q1)
 rw [pp ee] at rn;have h1:=pJ bT ok.nT ok.fP pl.one pl.eu pl.ids pl.once;have e1:=yY (dL (f:=f) (t:=c.ci) pl.one) pl.eu pl.once;have go:cA c ⟨f⟩ p=agE (⟨r,⟨p,bB f c.ci p⟩⟩,0):=by
  unfold cA;simp only [h1,aj,e1,rn,show ((0:Int) !=0)=agK from rfl,ol]
 obtain ⟨R,r1,r2⟩:=NH ok bT pl pw pm;have e:R=(⟨r,⟨p,bB f c.ci p⟩⟩,0):=afe (r1.symm.trans go);rcases r2 with h|⟨r0,tn⟩
 · rw [h] at e;injection e with _ e;cases e
 refine ⟨R,r1,r0,tn,?_⟩;have ln:=tn.ok.cert.length_eq;rw [M2] at ln;have bl:=A' R.1.kw.aI R.1.kw.iH;have b2:=tn.ok.br.len;have b3:=tn.ok.br.eu;rw [e] at ln bl b2 b3 ⊢;exact ⟨by omega,by have:=q3.n;show r.af.aN<=_;omega,fun j hj=>by have:=q3.u j hj;show r.ae.ai.aA[j]!<=_;omega⟩
theorem HR {f:List Pt} (bT:bm f) {p:Pt} (po:fq p) (hp: ¬ft f p.1) (hl:(agB f)<64) {e:Int} (e0:e≠0) (h:gG ⟨f⟩ p=agE (⟨[]⟩,e)):False:=by
 obtain ⟨m,hm,e'⟩:=GZ bT hp;have hc:db ⟨f⟩=agE 0:=by rw [eE];exact congrArg agE (dp.2 bT)
 have hf:(ae4 (agB f)==64)=agK:=by simp only [az,beq_eq_false_iff_ne];omega
 have hi:tR f (m:Int) [p]=agE (nU f m p):=by
  unfold tR;rw [pp ⟨by omega,by have:=hm.le;simpa using this,rfl,by omega⟩]
  simp [nU]
 unfold gG at h;rw [hc,aj,bu rfl,ol,gL,pp po,aj,bu rfl,ol,e',aj,ol,hf,ol,ba (show (agB f)<=1048576 by omega),aj,hi,aj] at h
 injection h with h;injection h with _ h;exact e0 h.symm
theorem PU {f:List Pt} (hs:fx f) {m:Nat} (h0: ∀p∈f,0<=p.1) (h: ∀p∈f,p.1<(m:Int)):(agB f)<=m:=by
 have key: ∀i,i<agB f->(i:Int)<=(f[i]!).1:=by
  intro i
  induction i with
  |zero=>intro hi;exact h0 _ (aW hi)
  |succ i ih=>
   intro hi;have a:=ih (by omega)
   have b:=ej hs (show i<i+1 by omega) hi
   omega
 refine Classical.byContradiction fun hn=>?_
 have a:=key m (by omega)
 have b:=h _ (aW (show m<(agB f) by omega))
 omega
structure QI (k:bz) (b m:Nat):Prop where
 ok:oS k
 room:tH k.jp 100 m
 still:I7 k.jp.ii.am
 ids: ∀p∈k.jp.ii.am,p.1<(b:Int)
 quarter:(agB k.kw.aI)=1\/agB k.kw.aI<4*agB k.jp.ii.am
theorem QI.short {k:bz} {b m:Nat} (h:QI k b m):tq k:=by
 have a:=h.ok.br.len;have b:=h.ok.br.eu;exact ⟨h.ok.CA.short,by omega,by omega⟩
theorem QI.nn {k:bz} {b m:Nat} (h:QI k b m): ∀p∈k.jp.ii.am,0<=p.1:=fun p hp=>by
 have:=h.ok.CA.iK.2.1 p hp
 unfold fq at this;omega
theorem QI.few {k:bz} {b m:Nat} (h:QI k b m):(agB k.jp.ii.am)<=b:=PU h.ok.CA.iK.2.2 h.nn h.ids
theorem QI.put {k:bz} {b m:Nat} (h:QI k b m) (hb:b<=60) (hm:m+63<=999999) {x:Nat} (hx:x<b) (nh: ¬ft k.jp.ii.am (x:Int)):
 ∃R:bz×Int,mu k ((x:Int),(x:Int),0)=agE R/\R.2=0/\QI R.1 b (m+63)/\agB R.1.jp.ii.am=agB k.jp.ii.am+1/\
  (agB R.1.kw.aI)=if (agB k.jp.ii.am)=(agB k.kw.aI) then 2*(agB k.kw.aI) else (agB k.kw.aI):=by
 have bT:=h.ok.CA.iK;have few:=h.few;have po:fq ((x:Int),(x:Int),0):=by unfold fq;simp only [];omega
 have pl:=h.ok.aI;have cn:=h.ok.perm.length_eq;rw [dR] at cn;rcases NK h.ok h.short ((x:Int),(x:Int),0) with ⟨e,e0,t,_⟩|⟨j,q,hj,_,_,_,Cv,w,WK,pw,pm,go⟩
 · exact (HR bT po nh (by omega) e0 t).elim
 have Hi:I7 (nU k.jp.ii.am j ((x:Int),(x:Int),0)):=fun p hp=>by
  rcases zJ.1 hp with rfl|hp
  · rfl
  exact h.still p hp
 have auZ: ∀p∈nU k.jp.ii.am j ((x:Int),(x:Int),0),p.1<(b:Int):=fun p hp=>by
  rcases zJ.1 hp with rfl|hp
  · show (x:Int)<_;omega
  exact h.ids p hp
 obtain ⟨R,s1,r0,tn,hr⟩:=I8 h.ok.CA Cv Hi WK pw pm (fun y hy hy'=>I0 bT.2.2 Cv.2.2 hy (zJ.2 (.inr (xx bT.2.2 hy).1))) h.room hm
 have fl:(agB R.1.jp.ii.am)=agB k.jp.ii.am+1:=by rw [tn.iK,GY hj.le]
 have il:=UV (fun y:Int=>decide (0<=y)) k.kw.aI
 have pll:(agB R.1.kw.aI)=if (agB k.jp.ii.am)=(agB k.kw.aI) then 2*(agB k.kw.aI) else (agB k.kw.aI):=by
  rw [tn.pls];rcases NI pl.one w with ⟨a,i,hi,ei⟩|⟨a,all⟩
  · have:=WL hi ei
    rw [rc (by omega)];exact a
  have:cQ k.kw.aI=k.kw.aI:=Cr fun y hy=>by
   obtain ⟨i,hi,rfl⟩:=aS.1 hy;have a:=all i hi;have b:=(pl.NU bT _ hy).1;omega
  rw [this] at cn;rw [pp cn];exact a
 refine ⟨R,go R s1,r0,⟨tn.ok,hr,by rw [tn.iK];exact Hi,by rw [tn.iK];exact auZ,?_⟩,fl,pll⟩
 rw [pll,fl]
 have:=h.quarter
 have one:=pl.one;split<;>omega
theorem QI.take {k:bz} {b m:Nat} (h:QI k b m) (hm:m+63<=999999) {x:Int} (hp:ft k.jp.ii.am x):
 ∃R:bz×Int,lR k x=agE R/\R.2=0/\QI R.1 b (m+63)/\agB R.1.jp.ii.am+1=agB k.jp.ii.am/\
  (agB R.1.kw.aI)=if 1<agB k.kw.aI/\4*(agB k.jp.ii.am-1)<=(agB k.kw.aI) then (agB k.kw.aI) / 2 else (agB k.kw.aI):=by
 have bT:=h.ok.CA.iK;have pl:=h.ok.aI;rcases Ti h.ok h.short x with ⟨a,_⟩|⟨q,j,hq,hqe,hj,hje,h0,_,Cv,WK,pw,pm,W3,go⟩
 · exact absurd hp a
 have sub: ∀p∈k.jp.ii.am.eraseIdx q,p∈k.jp.ii.am:=fun p hp=>((Dx bT.2.2 hq).1 hp).1
 have Hi:I7 (k.jp.ii.am.eraseIdx q):=fun p hp=>h.still p (sub p hp)
 obtain ⟨R,s1,r0,tn,hr⟩:=I8 h.ok.CA Cv Hi WK pw pm (fun y hy hy'=>(I0 Cv.2.2 bT.2.2 hy' (sub _ (xx Cv.2.2 hy').1)).symm) h.room hm
 have fl:(agB R.1.jp.ii.am)+1=(agB k.jp.ii.am):=by rw [tn.iK];have:=zH hq;omega
 have pll:(agB R.1.kw.aI)=if 1<agB k.kw.aI/\4*(agB k.jp.ii.am-1)<=(agB k.kw.aI) then (agB k.kw.aI) / 2 else (agB k.kw.aI):=by
  rw [tn.pls,NJ,W3]
 refine ⟨R,go R s1,r0,⟨tn.ok,hr,by rw [tn.iK];exact Hi,by rw [tn.iK];exact fun p hp=>h.ids p (sub p hp),?_⟩,fl,pll⟩
 have qq:=h.quarter;rw [pll];obtain ⟨i,hi,pw⟩:=h.ok.pow
 by_cases a:1<agB k.kw.aI/\4*(agB k.jp.ii.am-1)<=agB k.kw.aI
 · rw [pp a]
   rcases i with _|_|i
   · omega
   · exact .inl (by rw [pw])
   right
   have:2^(i+1+1)=4*2^i:=by rw [afM,afM];omega
   omega
 rw [rc a]
 by_cases e1:(agB k.kw.aI)=1
 · exact .inl e1
 right;omega
theorem HS (b:Nat): ∃K:bz,kF ⟨[]⟩ (0,1)=agE (K,0)/\QI K b 63/\agB K.kw.aI=1/\agB K.jp.ii.am=0:=by
 have qc:nm ((0:Int),(1:Int)):=by unfold nm;decide
 have rt:bX ((0:Int),(1:Int)):=by unfold bX;decide
 have bT:bm []:=⟨by decide,(fun _ h=>(by cases h)),(fun i h=>absurd h (IR _))⟩
 have pl:=Cu bT;have fl:(dG []).length=1:=by
  rw [tp (by decide)]
  obtain ⟨_,_,g⟩:=Ct (n:=([]:List Pt).length) (by decide)
  cases hh:lg ([]:List Pt).length with
  |zero=>rfl
  |succ n=>exact absurd (g 0 (by omega)) (by decide)
 obtain ⟨c,s1,s2,s3,s4,s5,s6⟩:=PO bT rt qc pl;obtain ⟨R,r1,r2,_⟩:=DB ⟨[]⟩ qc;have br:=Hg (t:=((0:Int),(1:Int))) bT pl;have rb:j8 ⟨[]⟩ (0,1)=agE (⟨c,⟨dG [],bB [] (0,1) (dG [])⟩⟩,0):=by
  unfold j8;rw [gp,show iC (⟨[]⟩:Field).am=0 from dp.2 bT,aj,bu rfl,ol,lW qc,pp rt,aj,bu rfl,ol,Hb (by show (0:Nat)<=64;omega),aj,yZ (by show (0:Nat)<=64;omega),aj,s1,aj]
 have e:=afe (r2.symm.trans rb);obtain ⟨k,hk⟩: ∃k:bz,k=⟨c,⟨dG [],bB [] (0,1) (dG [])⟩⟩:=⟨_,rfl⟩;rw [<- hk] at e;have tok:oS k:=by
  rw [hk];exact ⟨s2,br,⟨0,by omega,fl⟩,by show (jb c.ii.am).Perm _;rw [s3];rw [Te bT],by show bB _ _ _=bB c.ii.am c.ci _;rw [s3,s4],s5⟩
 refine ⟨k,by rw [r1,e],⟨tok,by rw [hk];exact s6,?_,?_,.inl (by rw [hk];exact fl)⟩,by rw [hk];exact fl,by rw [hk];show (agB c.ii.am)=0;rw [s3];exact rfl⟩
 · rw [hk];show I7 c.ii.am;rw [s3];exact fun _ h=>by cases h
 rw [hk];show∀p∈c.ii.am,_;rw [s3];exact fun _ h=>by cases h
def qS (l:List Int) (i:Int) (k:bz):=
 (l,agG,i,k.jp.ci.1,k.jp.ci.2,k.jp.ii.am,k.jp.af.aN,k.jp.af.ce,k.jp.ae.ai.aA,k.jp.ae.ai.be,k.jp.ae.ai.bi,k.jp.ae.bv,k.jp.ae.aq,k.jp.io,k.kw.aI,k.kw.iH)
theorem KR {l:List Int} {i:Nat} (hi:i<agB l) {k:bz} {m:Nat} (h:QI k 16 m) (hm:m+63<=999999) (hl:(agB l)<=40):
 cV (qS l i k)=agE (.done agG)\/ ∃k',cV (qS l i k)=agE (.next (qS l ((i+1:Nat):Int) k'))/\QI k' 16 (m+63):=by
 have aqY:(bz.mk (aM.mk (k.jp.ci.1,k.jp.ci.2) (Field.mk k.jp.ii.am) (bF.mk k.jp.af.aN k.jp.af.ce) (aL.mk (bg.mk k.jp.ae.ai.aA k.jp.ae.ai.be k.jp.ae.ai.bi) k.jp.ae.bv k.jp.ae.aq) k.jp.io) (bA.mk k.kw.aI k.kw.iH))=k:=rfl
 by_cases n0:l[i]!<0
 · left
   unfold cV qS;simp only [az,aE (show (i:Int)<((agB l):Int) by omega),lw,ar l i hi,aj,aE n0]
 by_cases n1:15<l[i]!
 · left
   unfold cV qS;simp only [az,aE (show (i:Int)<((agB l):Int) by omega),lw,ar l i hi,aj,aC n0,ol,aE n1]
 right;obtain ⟨x,hx⟩: ∃x:Nat,l[i]! =(x:Int):=⟨(l[i]!).toNat,by omega⟩
 have sc:=aT (show i<1000000000 by omega)
 have pl:=h.ok.aI;have tail: ∀R:bz,QI R 16 (m+63)->(bif aig (1<((agB R.kw.aI):Int)) then bif aig ((aa .i64 (4*((agB R.jp.ii.am):Int)))<=((agB R.kw.aI):Int)) then agE (.done agK) else agE (.next (qS l ((i+1:Nat):Int) R)) else agE (.next (qS l ((i+1:Nat):Int) R)))=agE (Step.next (ρ:=Bool) (qS l ((i+1:Nat):Int) R)):=fun R hR=>by
  have f64:=hR.ok.CA.iK.1;have q:=hR.quarter;rw [jq (n:=4*((agB R.jp.ii.am):Int)) ⟨by omega,by omega⟩]
  by_cases a:1<agB R.kw.aI
  · rw [aE (by omega),lw,aC (by omega),ol]
  rw [aC (by omega),ol]
 have chk: ∀R:bz,QI R 16 (m+63)->lU R=agE 0:=fun R hR=>aeW hR.ok hR.short
 by_cases hp:ft k.jp.ii.am (x:Int)
 · obtain ⟨R,t1,r0,hR,_⟩:=h.take hm hp
   refine ⟨R.1,?_,hR⟩;have pe: ∃P:bz×Int,mu k ((x:Int),(x:Int),0)=agE P:=by
    rcases NK h.ok h.short ((x:Int),(x:Int),0) with ⟨e,_,_,t⟩|⟨j,q,hj,_,_,_,Cv,w,WK,pw,pm,go⟩
    · exact ⟨_,t⟩
    obtain ⟨S,s1,_⟩:=NH h.ok.CA Cv WK pw pm
    exact ⟨S,go S s1⟩
   obtain ⟨P,p1⟩:=pe;have pq: ∃a,lS k (x:Int)=agE (a,0):=by
    rcases Hh h.ok h.short (x:Int) with ⟨_,j,_,_,_,t⟩|⟨g,_⟩
    · exact ⟨_,t⟩
    have hm:=iP.1 (h.ok.perm.mem_iff.1 (mZ.2 hp))
    obtain ⟨j,hj,e⟩:=aS.1 hm.1
    have:=g j hj e
    omega
   obtain ⟨a,pa⟩:=pq;unfold cV qS;simp only [az,aE (show (i:Int)<((agB l):Int) by omega),lw,ar l i hi,aj,aC (show¬(x:Int)<0 by omega),aC (show¬15<(x:Int) by omega),ol,aqY,hx,pa,p1,show ((0:Int)==0)=agG from rfl,t1,r0,show ((0:Int) !=0)=agK from rfl,chk R.1 hR,sc]
   exact tail R.1 hR
 obtain ⟨R,t1,r0,hR,_⟩:=h.put (by omega) hm (x:=x) (by omega) hp
 refine ⟨R.1,?_,hR⟩;have pq:lS k (x:Int)=agE (0,6):=by
  rcases Hh h.ok h.short (x:Int) with ⟨_,j,hj,e,_,_⟩|⟨_,t⟩
  · rcases pl.ids _ (aW hj) with g|g
    · omega
    rw [e] at g;exact absurd g.2 hp
  exact t
 unfold cV qS;simp only [az,aE (show (i:Int)<((agB l):Int) by omega),lw,ar l i hi,aj,aC (show¬(x:Int)<0 by omega),aC (show¬15<(x:Int) by omega),ol,aqY,hx,pq,t1,r0,show ((6:Int)==0)=agK from rfl,show ((0:Int) !=0)=agK from rfl,chk R.1 hR,sc]
 exact tail R.1 hR
theorem NM {l:List Int} (hl:(agB l)<=40): ∀(d i:Nat) (k:bz) (m:Nat),agB l-i<=d->i<=agB l->QI k 16 m->m+63*d<=900000->ay cV (qS l i k)=agE agG:=by
 intro d
 induction d with
 |zero=>
  intro i k m hd hi h _;obtain rfl:i=(agB l):=by omega
  refine aH ?_;unfold cV qS;simp only [az,aC (show¬((agB l):Int)<((agB l):Int) by omega),ol]
 |succ d ih=>
  intro i k m hd hi h hm
  by_cases e:i=agB l
  · exact ih i k m (by omega) hi h (by omega)
  rcases KR (show i<(agB l) by omega) h (by omega) hl with s|⟨k',s,h'⟩
  · exact aH s
  rw [aV s]
  exact ih (i+1) k' (m+63) (by omega) (by omega) h' (by omega)
theorem wb (l:List Int):nk l=agE agG:=by
 unfold nk;rw [aj]
 by_cases h:40<ae4 (agB l)
 · rw [aE h];rfl
 have hl:(agB l)<=40:=by rw [az] at h;omega
 obtain ⟨K,k1,k2,_⟩:=HS 16;rw [aC h,ol,F0s,ol];unfold B3
 rw [aj,k1,aj,bu rfl,ol];exact NM hl (agB l) 0 K 63 (by omega) (by omega) k2 (by omega)
theorem Wt.of {c:aM} (h1:RT.wf [.i .i64,.i .i64] c.ci) (h2: ∀a∈c.ae.bv,RT.wf [.i .i64,.i .i64,.i .i64,.i .i64,.i .i64] a):Wt c where
 ci:=⟨wf_i64 h1.1,wf_i64 h1.2⟩
 Px w hw:=by
  have:=h2 (c.ae.bv[w]!) (by rw [getElem!_pos c.ae.bv w hw];exact List.getElem_mem hw)
  exact ⟨wf_i64 this.1,wf_i64 this.2.1⟩
end Go.Proofs.YtbgoiokedpjgbaaGreat
