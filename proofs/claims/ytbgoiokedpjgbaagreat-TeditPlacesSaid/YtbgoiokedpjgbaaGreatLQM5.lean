/- Plain laws (5). -/
import Derived.Test.YtbgoiokedpjgbaaGreatLQM4
import Derived.Test.YtbgoiokedpjgbaaGreatLQS2
import Derived.Test.YtbgoiokedpjgbaaGreatLVm4
import Derived.Test.YtbgoiokedpjgbaaGreatLVm3
open List renaming replicate->ut,length_append->v6,length_singleton->ww,length_set->AC,length_replicate->Do,append_nil->If,length_take->IR,take_append_of_le_length->NE,length_map->PP,take_length->UV,mem_replicate->acl,length_filter_le->adc,filter_append->ae0,pairwise_iff_getElem->ae5,append_assoc->aem,filter_cons_of_pos->aeu,filter_cons_of_neg->aev,take_of_length_le->aew,mem_append->aex,length_drop->aeH,filter_nil->aeJ,length->af3
open Int renaming ofNat->EQ,tdiv_eq_ediv_of_nonneg->ae3,toNat_natCast->aeE,tdiv->af0
open Bool renaming not_true->F0s,not_false->M2,and_self->aeB,true->af9,false->afa
open Nat renaming le_refl->acK,lt_trichotomy->aet,pow_le_pow_right->aeA,sub_self->aeF,lt_or_ge->aeZ
open Classical renaming not_imp->aeC,not_not->aeD
open Option renaming some->af5
open Decidable renaming decide->afb
namespace Go.Proofs.YtbgoiokedpjgbaaGreat
open Go.Vm Classical
structure J2 (p w:List Int):Prop where
 one:1<=af3 p
 dH:(af3 p)<=64
 len:(af3 w)+1=af3 p
 once:za p
 FQ: ∀x∈p,-1<=x/\x<=65535
 cho:wG p w
 none_: ∀i,i<af3 w->w[i]!<0->bz p w (2*i+1)<0/\bz p w (2*i+2)<0
def J3 (p w:List Int) (i:Nat):Prop:=(w[i]! =bz p w (2*i+1)\/w[i]! =bz p w (2*i+2))/\ ¬(w[i]!<0/\(0<=bz p w (2*i+1)\/0<=bz p w (2*i+2)))
def Sz (p w:List Int) (i:Nat):Prop:=(w[i]! =bz p w (2*i+1)\/w[i]! =bz p w (2*i+2))/\ ¬(w[i]! = -1/\(bz p w (2*i+1)≠ -1\/bz p w (2*i+2)≠ -1))
def G' (p:List Int) (i:Nat):Prop:= -1<=p[i]!/\p[i]!<=65535
def Gx (p:List Int) (i:Nat):Prop:= ∀j,j<i->p[j]! =p[i]!->p[i]!<0
theorem BJ {p:List Int}:(∀i,i<af3 p->Gx p i)↔za p:=
 ⟨fun h i j k8 hj e=>by rw [e];exact h j hj i k8 e,fun h i hi j hj e=>by have:=h j i hj hi e;rw [e] at this;exact this⟩
theorem J4 {p:List Int}:(∀i,i<af3 p->G' p i)↔ ∀x∈p,-1<=x/\x<=65535:=(yg (P:=fun x=> -1<=x/\x<=65535)).symm
theorem V1 {p w:List Int} (h1:1<=af3 p) (h64:(af3 p)<=64) (hl:(af3 w)+1=af3 p):
 J2 p w↔(∀i,i<af3 p->Gx p i)/\(∀i,i<af3 p->G' p i)/\ ∀i,i<af3 w->J3 p w i:=by
 rw [BJ,J4];constructor
 · intro h
   refine ⟨h.once,h.FQ,fun i hi=>⟨h.cho i hi,fun ⟨a,b⟩=>?_⟩⟩
   have:=h.none_ i hi a
   omega
 rintro ⟨a,b,c⟩
 exact ⟨h1,h64,hl,a,b,fun i hi=>(c i hi).1,fun i hi h0=>by have:=(c i hi).2;omega⟩
theorem MT {p w:List Int} (hl:(af3 w)+1=af3 p) (hr: ∀x∈p,-1<=x/\x<=65535):(∀i,i<af3 w->J3 p w i)↔ ∀i,i<af3 w->Sz p w i:=by
 constructor<;>intro h i hi
 · have hc:wG p w:=fun i hi=>(h i hi).1
   have a1:=hr _ (jQ hl hc (i:=2*i+1) (by omega))
   have a2:=hr _ (jQ hl hc (i:=2*i+2) (by omega))
   obtain ⟨b1,b2⟩:=h i hi;exact ⟨b1,by omega⟩
 have hc:wG p w:=fun i hi=>(h i hi).1
 have a1:=hr _ (jQ hl hc (i:=2*i+1) (by omega))
 have a2:=hr _ (jQ hl hc (i:=2*i+2) (by omega))
 obtain ⟨b1,b2⟩:=h i hi;exact ⟨b1,by omega⟩
theorem al' {p q:Prop} [Decidable p] [Decidable q] [Decidable (p/\q)] {a b:Int}:(if p then (if q then a else b) else b)=if p/\q then a else b:=by
 by_cases hp:p
 · rw [pp hp];exact BH ⟨fun h=>⟨hp,h⟩,fun h=>h.2⟩
 rw [rc hp,rc (fun h=>hp h.1)]
theorem CS (p w:List Int) (hl:(af3 p)<=1000) (wl:(af3 w)<=1000):mn ⟨p,w⟩=af5 (if J2 p w then 0 else 8):=by
 unfold mn;simp only [aA]
 by_cases h1:((af3 p):Int)<1
 · rw [aF h1,lw,rc (fun h=>by have:=h.one;omega)]
 rw [aC h1,ol]
 by_cases h2:(64:Int)<((af3 p):Int)
 · rw [aF h2,lw,rc (fun h=>by have:=h.dH;omega)]
 rw [aC h2,ol,mF (by omega) (by omega)]
 by_cases h3:(af3 w)+1=af3 p
 case neg=>rw [cC (by omega),lw,rc (fun h=>h3 h.len)]
 rw [bo (by omega),ol]
 have l1:=mT (body:=ia) (fun i=>(w,((af3 w):Int),(i:Int),p,w)) (af3 w) (J3 p w) (r:= .done (.done 8)) (e:= .done (.done 0)) (fun i hi=>by
  unfold ia J3;have k1:=mU (i:=i) (by omega) 1 (by omega)
  have k2:=mU (i:=i) (by omega) 2 (by omega)
  simp only [aF (show (i:Int)<((af3 w):Int) by omega),lw,au w i hi,ar,show ae .i64 (ae .i64 (2*(i:Int))+1)=((2*i+1:Nat):Int) from k1,show ae .i64 (ae .i64 (2*(i:Int))+2)=((2*i+2:Nat):Int) from k2,
   mI (p:=p) (w:=w) (i:=2*i+1) (by omega) (by omega),mI (p:=p) (w:=w) (i:=2*i+2) (by omega) (by omega),aT (show i<1000000000 by omega)]
  generalize bz p w (2*i+1)=x;generalize bz p w (2*i+2)=y;generalize w[i]! =v
  by_cases a1:v=x
  · rw [bo a1,ol]
    by_cases a3:v<0
    · rw [aF a3,lw]
      by_cases a4:0<=(if y>x then y else x)
      · rw [aF a4,lw]
        exact ⟨fun _=>rfl,fun h=>by split at a4<;>omega⟩
      rw [aC a4,ol]
      exact ⟨fun h=>by split at a4<;>omega,fun _=>rfl⟩
    rw [aC a3,ol]
    exact ⟨fun h=>by omega,fun _=>rfl⟩
  · rw [cC a1,lw]
    by_cases a2:v=y
    · rw [bo a2,ol]
      by_cases a3:v<0
      · rw [aF a3,lw]
        by_cases a4:0<=(if y>x then y else x)
        · rw [aF a4,lw]
          exact ⟨fun _=>rfl,fun h=>by split at a4<;>omega⟩
        rw [aC a4,ol]
        exact ⟨fun h=>by split at a4<;>omega,fun _=>rfl⟩
      rw [aC a3,ol]
      exact ⟨fun h=>by omega,fun _=>rfl⟩
    rw [cC a2,lw]
    exact ⟨fun _=>rfl,fun h=>by omega⟩) (by
  unfold ia;simp only [aC (show¬((af3 w):Int)<((af3 w):Int) by omega),ol])
 have l1':ax ia (w,((af3 w):Int),0,p,w)=af5 (.done (.done (if∀i,i<af3 w->J3 p w i then 0 else 8))):=by
  refine (show _=_ from l1).trans ?_
  by_cases h: ∀i,i<af3 w->J3 p w i
  · rw [pp h,pp h]
  rw [rc h,rc h]
 have l2: ∀m,ax ib (p,((af3 p):Int),0,p,w,m)=af5 (.done (if (∀i,i<af3 p->G' p i)/\ ∀i,i<af3 w->J3 p w i then 0 else 8)):=fun m=>by
  have l2:=mT (body:=ib) (fun i=>(p,((af3 p):Int),(i:Int),p,w,m)) (af3 p) (G' p) (r:= .done 8) (e:= .done (if∀i,i<af3 w->J3 p w i then 0 else 8)) (fun i hi=>by
   unfold ib qK G';simp only [aF (show (i:Int)<((af3 p):Int) by omega),lw,au p i hi,ar,aT (show i<1000000000 by omega)]
   generalize p[i]! =v
   by_cases a1: -1<=v
   · rw [aF a1,lw,ar]
     by_cases a2:v<=65535
     · rw [aF a2];exact ⟨fun h=>absurd ⟨a1,a2⟩ h,fun _=>rfl⟩
     rw [aC a2]
     refine ⟨fun _=>?_,fun h=>absurd h.2 a2⟩
     rw [aF (show (0:Int)<=(i:Int) by omega)];rfl
   · rw [aC a1,ol,ar]
     refine ⟨fun _=>?_,fun h=>absurd h.1 a1⟩
     rw [aF (show (0:Int)<=(i:Int) by omega)];rfl) (by
   unfold ib;simp only [aC (show¬((af3 p):Int)<((af3 p):Int) by omega),ol,aA,l1'])
  refine (show _=_ from l2).trans ?_
  by_cases h: ∀i,i<af3 p->G' p i
  · rw [pp h];congr 2;exact BH ⟨fun k=>⟨h,k⟩,fun k=>k.2⟩
  rw [rc h,rc (fun k=>h k.1)]
 have l3:=mT (body:=lT) (fun i=>(p,((af3 p):Int),(i:Int),p,w,Gv p i)) (af3 p) (Gx p) (r:=8) (e:=if (∀i,i<af3 p->G' p i)/\ ∀i,i<af3 w->J3 p w i then 0 else 8) (fun i hi=>by
  unfold lT;simp only [aF (show (i:Int)<((af3 p):Int) by omega),lw,au p i hi,ar,Gw,aT (show i<1000000000 by omega)]
  by_cases a:Gx p i
  · rw [aC (show¬(0<=p[i]!/\ ∃j,j<i/\p[j]! =p[i]!) from fun ⟨h0,j,hj,e⟩=>by have:=a j hj e;omega)]
    exact ⟨fun h=>absurd a h,fun _=>rfl⟩
  · rw [aF (show 0<=p[i]!/\ ∃j,j<i/\p[j]! =p[i]! from by
     unfold Gx at a;obtain ⟨j,hj⟩:=Classical.not_forall.1 a;obtain ⟨hj,h⟩:=aeC.1 hj;obtain ⟨h,h0⟩:=aeC.1 h;exact ⟨by omega,j,hj,h⟩)]
    refine ⟨fun _=>?_,fun h=>absurd h a⟩
    rw [aF (show (0:Int)<=(i:Int) by omega)];rfl) (by
  unfold lT;simp only [aC (show¬((af3 p):Int)<((af3 p):Int) by omega),ol,aA,l2])
 refine (show _=_ from l3).trans ?_;rw [BH (V1 (by omega) (by omega) h3)]
 congr 1
 exact al'
theorem Gy (p:List Int) (hl:(af3 p)<=1000):xY p=af5 (!afb (za p)):=by
 have l2:=mT (body:=oq) (fun i=>(p,(i:Int))) (af3 p) (Gx p) (r:=af9) (e:=afa) (fun i hi=>by
  have l1:=mT (body:=oo) (fun j=>(p,(i:Int),(j:Int))) i (fun j=>p[j]! =p[i]!->p[i]!<0) (r:= .done af9) (e:= .next (p,((i+1:Nat):Int))) (fun j hj=>by
   unfold oo;simp only [aF (show (j:Int)<(i:Int) by omega),lw,au p i hi,au p j (by omega),ar,aT (show j<1000000000 by omega)]
   by_cases a:0<=p[i]!
   · rw [aF a,lw]
     by_cases b:p[j]! =p[i]!
     · rw [eu b];exact ⟨fun _=>rfl,fun h=>by have:=h b;omega⟩
     rw [dR b];exact ⟨fun h=>absurd (fun k=>absurd k b) h,fun _=>rfl⟩
   · rw [aC a,ol]
     exact ⟨fun h=>absurd (fun _=>by omega) h,fun _=>rfl⟩) (by
   unfold oo;simp only [aC (show¬(i:Int)<(i:Int) by omega),ol,aT (show i<1000000000 by omega)])
  have l1:=(show _=_ from l1);unfold oq;simp only [aA,aF (show (i:Int)<((af3 p):Int) by omega),lw]
  by_cases a:Gx p i
  · rw [pp (show∀j,j<i->p[j]! =p[i]!->p[i]!<0 from a)] at l1
    exact ⟨fun h=>absurd a h,fun _=>l1⟩
  · rw [rc (show¬ ∀j,j<i->p[j]! =p[i]!->p[i]!<0 from a)] at l1
    exact ⟨fun _=>l1,fun h=>absurd h a⟩) (by
  unfold oq;simp only [aA,aC (show¬((af3 p):Int)<((af3 p):Int) by omega),ol])
 refine (show _=_ from l2).trans ?_
 by_cases h:za p
 · rw [pp (BJ.2 h),aF h];rfl
 rw [rc (fun k=>h (BJ.1 k)),aC h];rfl
theorem Gz (p w:List Int) (hl:(af3 p)<=1000) (wl:(af3 w)<=1000):qt ⟨p,w⟩=af5 (if J2 p w then 0 else 8):=by
 unfold qt;simp only [aA]
 by_cases h1:((af3 p):Int)<1
 · rw [aF h1,lw,rc (fun h=>by have:=h.one;omega)]
 rw [aC h1,ol]
 by_cases h2:(64:Int)<((af3 p):Int)
 · rw [aF h2,lw,rc (fun h=>by have:=h.dH;omega)]
 rw [aC h2,ol,mF (by omega) (by omega)]
 by_cases h3:(af3 w)+1=af3 p
 case neg=>rw [cC (by omega),lw,rc (fun h=>h3 h.len)]
 rw [bo (by omega),ol,Gy p hl,ar]
 by_cases ho:za p
 case neg=>rw [aC ho,rc (fun h=>ho h.once)];rfl
 rw [aF ho,F0s,ol];have l1:=mT (body:=lH) (fun i=>((i:Int),p,w)) (af3 w) (Sz p w) (r:= .done 8) (e:= .done 0) (fun i hi=>by
  unfold lH Sz;have k1:=mU (i:=i) (by omega) 1 (by omega)
  have k2:=mU (i:=i) (by omega) 2 (by omega)
  simp only [aA,aF (show (i:Int)<((af3 w):Int) by omega),lw,au w i hi,ar,show ae .i64 (ae .i64 (2*(i:Int))+1)=((2*i+1:Nat):Int) from k1,show ae .i64 (ae .i64 (2*(i:Int))+2)=((2*i+2:Nat):Int) from k2,
   nD (p:=p) (w:=w) (i:=2*i+1) (by omega) (by omega),nD (p:=p) (w:=w) (i:=2*i+2) (by omega) (by omega),aT (show i<1000000000 by omega)]
  generalize bz p w (2*i+1)=x;generalize bz p w (2*i+2)=y;generalize w[i]! =v
  by_cases a1:v=x
  · rw [bo a1,ol]
    by_cases a3:v= -1
    · rw [eu a3,lw]
      by_cases a4:x= -1
      · rw [bo a4,ol]
        by_cases a5:y= -1
        · rw [bo a5,ol];exact ⟨fun h=>by omega,fun _=>rfl⟩
        rw [cC a5,lw];exact ⟨fun _=>rfl,fun h=>by omega⟩
      rw [cC a4,lw];exact ⟨fun _=>rfl,fun h=>by omega⟩
    rw [dR a3,ol];exact ⟨fun h=>by omega,fun _=>rfl⟩
  · rw [cC a1,lw]
    by_cases a2:v=y
    · rw [bo a2,ol]
      by_cases a3:v= -1
      · rw [eu a3,lw]
        by_cases a4:x= -1
        · rw [bo a4,ol]
          by_cases a5:y= -1
          · rw [bo a5,ol];exact ⟨fun h=>by omega,fun _=>rfl⟩
          rw [cC a5,lw];exact ⟨fun _=>rfl,fun h=>by omega⟩
        rw [cC a4,lw];exact ⟨fun _=>rfl,fun h=>by omega⟩
      rw [dR a3,ol];exact ⟨fun h=>by omega,fun _=>rfl⟩
    rw [cC a2,lw]
    exact ⟨fun _=>rfl,fun h=>by omega⟩) (by
  unfold lH;simp only [aA,aC (show¬((af3 w):Int)<((af3 w):Int) by omega),ol])
 have l1':ax lH (0,p,w)=af5 (.done (if∀i,i<af3 w->Sz p w i then 0 else 8)):=by
  refine (show _=_ from l1).trans ?_
  by_cases h: ∀i,i<af3 w->Sz p w i
  · rw [pp h,pp h]
  rw [rc h,rc h]
 have l2:=mT (body:=ot) (fun i=>(((af3 p):Int),(i:Int),p,w)) (af3 p) (G' p) (r:=8) (e:=if∀i,i<af3 w->Sz p w i then 0 else 8) (fun i hi=>by
  unfold ot G';simp only [aF (show (i:Int)<((af3 p):Int) by omega),lw,au p i hi,ar,aT (show i<1000000000 by omega)]
  generalize p[i]! =v
  by_cases a1:v< -1
  · rw [aF a1];exact ⟨fun _=>rfl,fun h=>by omega⟩
  · rw [aC a1,ol]
    by_cases a2:65535<v
    · rw [aF a2];exact ⟨fun _=>rfl,fun h=>by omega⟩
    rw [aC a2];exact ⟨fun h=>by omega,fun _=>rfl⟩) (by
  unfold ot;simp only [aC (show¬((af3 p):Int)<((af3 p):Int) by omega),ol,l1'])
 refine (show _=_ from l2).trans ?_;rw [BH (V1 (by omega) (by omega) h3)]
 congr 1
 by_cases hr: ∀i,i<af3 p->G' p i
 · rw [pp hr]
   exact BH ⟨fun h=>⟨BJ.2 ho,hr,(MT h3 (J4.1 hr)).2 h⟩,fun h=>(MT h3 (J4.1 hr)).1 h.2.2⟩
 rw [rc hr,rc (fun h=>hr h.2.1)]
def Due (c:aP) (to:Int×Int):Prop:=0<af3 c.aa.bv/\y9 (Ev.at c.aa.bv[0]!) to<=0
def hP (c:aP) (r:Int) (N:List Nd) (to:Int×Int) (out:List (Int×Int)):=
 (c.ci.1,c.ci.2,c.ii.am,c.ai.aL,c.ai.ce,c.aa.af.aB,c.aa.af.be,c.aa.af.bi,c.aa.bv,c.aa.aj,c.io,r,N,to.1,to.2,(0:Int),(0:Int),(0:Int),(0:Int),out)
noncomputable def sH (p w:List Int) (k:Nat):List (Int×Int):=(List.range k).filterMap (w5 p w)
theorem yl (p w:List Int) (k:Nat):sH p w (k+1)=sH p w k++(match w5 p w k with|some e=>[e]|none=>[]):=by
 unfold sH;rw [List.range_succ,List.filterMap_append];cases h:w5 p w k<;>simp [h]
theorem Aw (p w:List Int) (k:Nat):(sH p w k).length<=k:=by
 have:=List.length_filterMap_le (w5 p w) (List.range k)
 rwa [List.length_range] at this
section
variable {p w : List Int} (hl : (af3 w) + 1 = (af3 p)) (h64 : (af3 p) <= 64) (hc : wG p w)
include hl h64
theorem Du:uU ⟨p,w⟩=af5 (gZ p w):=by
 have st:=cz (body:=s9) (fun i=>((i:Int),p,w,sH p w i)) (af3 w) (fun i hi=>by
  have k1:=mU (i:=i) (by omega) 1 (by omega)
  have k2:=mU (i:=i) (by omega) 2 (by omega)
  have el:=Aw p w i;rw [yl];unfold s9;simp only [aA,aF (show (i:Int)<((af3 w):Int) by omega),lw,show ae .i64 (ae .i64 (2*(i:Int))+1)=((2*i+1:Nat):Int) from k1,show ae .i64 (ae .i64 (2*(i:Int))+2)=((2*i+2:Nat):Int) from k2,
   nD (p:=p) (w:=w) (i:=2*i+1) (by omega) (by omega),nD (p:=p) (w:=w) (i:=2*i+2) (by omega) (by omega),ar,au w i hi,aT (show i<1000000000 by omega)]
  unfold w5;generalize bz p w (2*i+1)=x;generalize bz p w (2*i+2)=y;generalize w[i]! =v
  by_cases a1:x<0
  · rw [aF a1,lw,pp (.inl a1)];simp
  rw [aC a1,ol]
  by_cases a2:y<0
  · rw [aF a2,lw,pp (.inr a2)];simp
  rw [aC a2,ol,rc (by omega)]
  by_cases a3:v=x
  · rw [eu a3,lw,pp a3,bY (by rw [ww];omega),ar]
  rw [dR a3,ol,rc a3,bY (by rw [ww];omega),ar])
 unfold uU;refine (show _=_ from st).trans (aJ ?_);unfold s9;simp only [aA,aC (show¬((af3 w):Int)<((af3 w):Int) by omega),ol]
 rfl
include hc
theorem MU (hr: ∀x∈p,-1<=x/\x<=65535):ax lF (w,((af3 w):Int),0,p,w,[])=af5 (⟨p,w⟩,gZ p w):=by
 have st:=cz (body:=lF) (fun i=>(w,((af3 w):Int),(i:Int),p,w,sH p w i)) (af3 w) (fun i hi=>by
  have k1:=mU (i:=i) (by omega) 1 (by omega)
  have k2:=mU (i:=i) (by omega) 2 (by omega)
  have el:=Aw p w i;have m1:=hr _ (jQ hl hc (i:=2*i+1) (by omega))
  have m2:=hr _ (jQ hl hc (i:=2*i+2) (by omega))
  have cv:=hc i hi;have fin: ∀(x y v:Int),(-1<=x/\x<=65535)->(-1<=y/\y<=65535)->(v=x\/v=y)->
   (bif afb (0<=x) then
    bif afb (0<=y) then (bq (sH p w i) [(ae .i64 (ae .i64 (x+y) -v),v)]).bind fun l3=>af5 (Step.next (ρ:=bu×List (Int×Int)) (w,((af3 w):Int),ae .i64 ((i:Int)+1),p,w,l3))
    else af5 (Step.next (w,((af3 w):Int),ae .i64 ((i:Int)+1),p,w,sH p w i))
   else af5 (Step.next (w,((af3 w):Int),ae .i64 ((i:Int)+1),p,w,sH p w i)))=
   af5 (Step.next (w,((af3 w):Int),((i+1:Nat):Int),p,w,sH p w i++(match (if x<0\/y<0 then none else if v=x then af5 (y,x) else af5 (x,y)) with|some e=>[e]|none=>[]))):=by
   intro x y v hx hy hv;rw [aT (show i<1000000000 by omega)]
   by_cases a1:x<0
   · rw [aC (by omega),ol,pp (.inl a1)];simp
   rw [aF (by omega),lw]
   by_cases a2:y<0
   · rw [aC (by omega),ol,pp (.inr a2)];simp
   rw [aF (by omega),lw,rc (by omega),bY (by rw [ww];omega),ar,iC (n:=x+y) ⟨by omega,by omega⟩,iC ⟨by omega,by omega⟩]
   by_cases a3:v=x
   · rw [pp a3,a3,show x+y-x=y by omega]
   rw [rc a3,show x+y-v=x by omega,show v=y by omega]
  rw [yl];unfold lF;have e1:bz p w (2*i+1)=if 2*i+1<(af3 w) then w[2*i+1]! else p[2*i+1-(af3 w)]!:=rfl
  have e2:bz p w (2*i+2)=if 2*i+2<(af3 w) then w[2*i+2]! else p[2*i+2-(af3 w)]!:=rfl
  have f1:=fin _ _ _ m1 m2 cv;simp only [aA,aF (show (i:Int)<((af3 w):Int) by omega),lw,show ae .i64 (ae .i64 (2*(i:Int))+1)=((2*i+1:Nat):Int) from k1,show ae .i64 (ae .i64 (2*(i:Int))+2)=((2*i+2:Nat):Int) from k2,au w i hi,ar,beq_self_eq_true]
  by_cases b1:2*i+1<af3 w
  · rw [pp b1] at e1
    rw [aF (show ((2*i+1:Nat):Int)<((af3 w):Int) by omega),lw,au w _ b1,ar,<- e1]
    by_cases b2:2*i+2<af3 w
    · rw [pp b2] at e2
      rw [aF (show ((2*i+2:Nat):Int)<((af3 w):Int) by omega),lw,au w _ b2,ar,<- e2]
      exact f1
    rw [rc b2] at e2
    rw [aC (show¬((2*i+2:Nat):Int)<((af3 w):Int) by omega),ol,iC ⟨by omega,by omega⟩,show ((2*i+2:Nat):Int) - ((af3 w):Int)=((2*i+2-(af3 w):Nat):Int) by omega,au p _ (by omega),ar,<- e2]
    exact f1
  rw [rc b1] at e1
  rw [rc (show¬2*i+2<(af3 w) by omega)] at e2
  rw [aC (show¬((2*i+1:Nat):Int)<((af3 w):Int) by omega),ol,iC (n:=((2*i+1:Nat):Int) - ((af3 w):Int)) ⟨by omega,by omega⟩,show ((2*i+1:Nat):Int) - ((af3 w):Int)=((2*i+1-(af3 w):Nat):Int) by omega,au p _ (by omega),ar,<- e1,
   aC (show¬((2*i+2:Nat):Int)<((af3 w):Int) by omega),ol,iC (n:=((2*i+2:Nat):Int) - ((af3 w):Int)) ⟨by omega,by omega⟩,show ((2*i+2:Nat):Int) - ((af3 w):Int)=((2*i+2-(af3 w):Nat):Int) by omega,au p _ (by omega),ar,<- e2]
  exact f1)
 refine (show _=_ from st).trans (aJ ?_);unfold lF;simp only [aC (show¬((af3 w):Int)<((af3 w):Int) by omega),ol]
 rfl
end
structure qO (f:List Pt) (p:List Int):Prop where
 one:1<=af3 p
 dH:(af3 p)<=64
 once:za p
 ids: ∀x∈p,DK f x
theorem qO.FQ {f:List Pt} (dE:bC f) {p:List Int} (h:qO f p): ∀x∈p,-1<=x/\x<=65535:=fun x hx=>by
 rcases h.ids x hx with e|⟨e,hp⟩
 · omega
 have:=(fa dE hp).1
 have e2:=(fa dE hp).2;unfold fK at this;omega
section
variable {f : List Pt} (dE : bC f) {t : Int × Int} (r : cE t) (ya : oM t) {p : List Int} (pl : qO f p)
include dE ya pl
theorem Ha:vT ⟨f⟩ t p=af5 ⟨p,bZ f t p⟩:=by
 unfold vT;rw [Gu dE ya pl.one pl.dH pl.ids];rfl
theorem oD:BG f (gZ p (bZ f t p))/\(gZ p (bZ f t p)).Nodup/\(gZ p (bZ f t p)).length<=63:=by
 have _:=ya;have R:=eQ (f:=f) (t:=t) pl.one;have m:=pl.dH
 have:=R.1
 have el:=Gk p (bZ f t p);exact ⟨Sw dE R.1 pl.dH R.ur pl.once fun x hx h0=>(pl.ids x hx).has h0,JW R.1 R.ur pl.once,by omega⟩
include r
theorem GA:tf ⟨f⟩ t p=af5 (⟨p,bZ f t p⟩,gZ p (bZ f t p)):=by
 have R:=eQ (f:=f) (t:=t) pl.one;unfold tf;rw [ve dE r ya pl.one pl.dH pl.ids pl.once,ar];exact MU R.1 pl.dH R.ur (pl.FQ dE)
end
def y4:bD:=⟨eO,⟨[],[]⟩⟩
structure V2 (c:aP) (f:List Pt) (p:List Int) (k:bD):Prop where
 zc:Gg c f (gZ p (bZ f c.ci p)) k.jp
 aq:k.kw=⟨p,bZ f c.ci p⟩
theorem J5 {c:aP} (ok:bn c) {f:List Pt} (dE:bC f) {p:List Int} (pl:qO f p):
 ∃R:aP×Int,ny c ⟨f⟩ (gZ p (bZ f c.ci p))=af5 R/\kK c ⟨f⟩ (gZ p (bZ f c.ci p))=af5 R/\(R.2=0/\Gg c f (gZ p (bZ f c.ci p)) R.1\/R=(eO,18)):=by
 obtain ⟨JV,nd,el⟩:=oD dE ok.hU (t:=c.ci) pl;obtain ⟨R,r1,r2,r3⟩:=ad5 ok dE JV;have ee:lY f (gZ p (bZ f c.ci p))=0:=by
  unfold lY;rw [rc (aeD.2 JV.cv),rc (aeD.2 nd),rc (fun h=>h JV.kn)]
 have rn:=Gn ok dE (es:=gZ p (bZ f c.ci p)) (by omega) (fun _=>r1)
 rw [pp ee] at rn;exact ⟨R,rn,r2,r3⟩
def aee (x y v:Int):List (Int×Int):=(if 0<=x/\x≠v then [(x,v)] else [])++(if 0<=y/\y≠v then [(y,v)] else [])
theorem MV {v:Int} {w N:List Int} {L i:Int} {k c:Nat} {E:List (Int×Int)} (hk:k+2<=af3 N) (he:(af3 E)+2<=1000000):
 ax iB (v,w,L,i,0+k,2,c,2,0,N,E)=af5 (.next (w,L,ae .i64 (i+1),N,E++aee N[k]! N[k+1]! v)):=by
 have hd:((N.drop (0+k)).take 2).length=2:=by rw [IR,aeH];omega
 have g0:aI ((N.drop (0+k)).take 2) 0=af5 N[k]!:=by
  have:=au ((N.drop (0+k)).take 2) 0 (by omega)
  rw [iL (by omega),kN] at this
  simpa using this
 have g1:aI ((N.drop (0+k)).take 2) 1=af5 N[k+1]!:=by
  have:=au ((N.drop (0+k)).take 2) 1 (by omega)
  rw [iL (by omega),kN] at this
  simpa using this
 have s0:iB (v,w,L,i,0+k,2,c,2,0,N,E)=af5 (.next (v,w,L,i,0+k,2,c,2,1,N,E++(if 0<=N[k]!/\N[k]!≠v then [(N[k]!,v)] else []))):=by
  unfold iB;simp only [aF (show (0:Int)<2 by decide),lw,g0,ar,show ae .i64 ((0:Int)+1)=1 from by decide]
  by_cases a:0<=N[k]!
  · rw [aF a,lw]
    by_cases b:N[k]! =v
    · rw [bo b,ol,rc (fun h=>h.2 b),If]
    rw [cC b,lw,pp ⟨a,b⟩,bY (by rw [ww];omega),ar]
  rw [aC a,ol,rc (fun h=>a h.1),If]
 obtain ⟨E1,hE⟩: ∃E1,E1=E++(if 0<=N[k]!/\N[k]!≠v then [(N[k]!,v)] else []):=⟨_,rfl⟩
 have l1:(af3 E1)<=af3 E+1:=by
  rw [hE,v6];split<;>simp
 rw [<- hE] at s0;have s1:iB (v,w,L,i,0+k,2,c,2,1,N,E1)=af5 (.next (v,w,L,i,0+k,2,c,2,2,N,E1++(if 0<=N[k+1]!/\N[k+1]!≠v then [(N[k+1]!,v)] else []))):=by
  unfold iB;simp only [aF (show (1:Int)<2 by decide),lw,g1,ar,show ae .i64 ((1:Int)+1)=2 from by decide]
  by_cases a:0<=N[k+1]!
  · rw [aF a,lw]
    by_cases b:N[k+1]! =v
    · rw [bo b,ol,rc (fun h=>h.2 b),If]
    rw [cC b,lw,pp ⟨a,b⟩,bY (by rw [ww];omega),ar]
  rw [aC a,ol,rc (fun h=>a h.1),If]
 rw [aZ s0,aZ s1];refine aJ ?_;unfold iB;simp only [aC (show¬(2:Int)<2 by decide),ol]
 unfold aee;rw [hE,aem]
section
variable {f : List Pt} {t : Int × Int} {p w : List Int} (hr : Gj f t p w) (h64 : (af3 p) <= 64) (ho : za p)
include hr ho
theorem aef {i:Nat} (hi:i<af3 w):aee (bz p w (2*i+1)) (bz p w (2*i+2)) w[i]! =(match w5 p w i with|some e=>[e]|none=>[]):=by
 have hw:=hr.2 i hi;have ne:0<=bz p w (2*i+1)->bz p w (2*i+1)≠bz p w (2*i+2):=fun h=>D8 hr.1 hr.ur ho hi h
 have Wv:=QR f t (bz p w (2*i+1)) (bz p w (2*i+2));unfold w5;rw [hw];generalize hx:bz p w (2*i+1)=x at ne Wv ⊢;generalize hy:bz p w (2*i+2)=y at ne Wv ⊢;unfold aee
 by_cases a1:x<0
 · have:vd f t x y=y:=by unfold vd;rw [pp a1]
   rw [this,rc (by omega),rc (by omega),pp (.inl a1)];rfl
 by_cases a2:y<0
 · have:vd f t x y=x:=by unfold vd;rw [rc a1,pp a2]
   rw [this,rc (by omega),rc (by omega),pp (.inr a2)];rfl
 have ne:=ne (by omega)
 rw [rc (show¬(x<0\/y<0) by omega)]
 rcases Wv with h|h
 · rw [h,rc (by omega),pp ⟨by omega,fun e=>ne e.symm⟩,pp rfl];rfl
 rw [h,pp ⟨by omega,ne⟩,rc (by omega),rc (fun e=>ne e.symm)];rfl
include h64
theorem GB:tg ⟨p,w⟩=af5 (gZ p w):=by
 have hl:=hr.1;have hN:(w++p).length=af3 w+(af3 p):=v6;have nd: ∀j,j<af3 w+af3 p->(w++p)[j]! =bz p w j:=fun j hj=>by
  unfold bz;split
  · rw [cw (by omega)]
  rw [dM (by omega)]
 have st:=cz (body:=og) (fun i=>(w,((af3 w):Int),(i:Int),w++p,sH p w i)) (af3 w) (fun i hi=>by
  have k1:=mU (i:=i) (by omega) 1 (by omega)
  have k3:ae .i64 ((ae .i64 (2*(i:Int)))+3)=((2*i+3:Nat):Int):=by
   rw [iC (n:=2*(i:Int)) ⟨by omega,by omega⟩,iC ⟨by omega,by omega⟩];omega
  have el:=Aw p w i;unfold og;simp only [aA,aF (show (i:Int)<((af3 w):Int) by omega),lw,au w i hi,ar,show ae .i64 (ae .i64 (2*(i:Int))+1)=((2*i+1:Nat):Int) from k1,k3,hN,
   aF (show (0:Int)<=((2*i+1:Nat):Int) by omega),aF (show ((2*i+1:Nat):Int)<=((2*i+3:Nat):Int) by omega),aF (show ((2*i+3:Nat):Int)<=((af3 w+(af3 p):Nat):Int) by omega),aeB,lw,aeE,
   show 2*i+3- (2*i+1)=2 by omega]
  rw [show ((2:Nat):Int)=2 from rfl,MV (by omega) (by omega),nd _ (by omega),nd _ (by omega),show 2*i+1+1=2*i+2 from rfl,aef hr ho hi,aT (show i<1000000000 by omega),yl]
  all_goals rfl)
 unfold tg;rw [show RA w p=af5 (w++p) from by unfold RA;rw [pp ⟨by omega,by omega⟩]]
 simp only [ar,aA];refine (show _=_ from st).trans (aJ ?_);unfold og;simp only [aA,aC (show¬((af3 w):Int)<((af3 w):Int) by omega),ol]
 rfl
end
theorem Ax {c:aP} (ok:bn c) {f:List Pt} (dE:bC f) {p:List Int} (pl:qO f p):
 ∃R:bD×Int,de c ⟨f⟩ p=af5 R/\mi c ⟨f⟩ p=af5 R/\(R.2=0/\V2 c f p R.1\/R=(y4,18)):=by
 have h1:=ve dE ok.qv ok.hU pl.one pl.dH pl.ids pl.once;have g1:=Ha dE (t:=c.ci) ok.hU pl;have B:=eQ (f:=f) (t:=c.ci) pl.one;have e1:=GB B pl.dH pl.once;have eo:=Du B.1 pl.dH;obtain ⟨R,r1,r2,r3⟩:=J5 ok dE pl;rcases r3 with ⟨q0,qq⟩|he
 · refine ⟨(⟨R.1,⟨p,bZ f c.ci p⟩⟩,0),?_,?_,.inl ⟨rfl,qq,rfl⟩⟩
   · unfold de
     simp only [h1,ar,e1,r1,q0,show ((0:Int) !=0)=afa from rfl,ol]
   unfold mi
   simp only [g1,ar,eo,r2,q0,show ((0:Int) !=0)=afa from rfl,ol]
 refine ⟨(y4,18),?_,?_,.inr rfl⟩
 · unfold de
   simp only [h1,ar,e1,r1,he,show ((18:Int) !=0)=af9 from rfl,lw];rfl
 unfold mi
 simp only [g1,ar,eo,r2,he,show ((18:Int) !=0)=af9 from rfl,lw];rfl
def cU (p:List Int):List Int:=p.filter fun x=>decide (0<=x)
theorem my {p:List Int} {j:Nat} (hj:j<af3 p):cU (p.take (j+1))=cU (p.take j)++if 0<=p[j]! then [p[j]!] else []:=by
 unfold cU;rw [ew hj,ae0]
 by_cases h:0<=p[j]!
 · rw [pp h,aeu (by simpa using h),aeJ]
 rw [rc h,aev (by simpa using h),aeJ]
theorem V3 (p:List Int) (j:Nat):(cU (p.take j)).length<=j:=by
 have:=adc (fun x:Int=>decide (0<=x)) (p.take j)
 rw [IR] at this;unfold cU;omega
theorem BK (p:List Int) (hl:(af3 p)<=1000):yP p=af5 (cU p):=by
 have st:=cz (body:=rA) (fun i=>(p,(i:Int),cU (p.take i))) (af3 p) (fun i hi=>by
  have el:=V3 p i;rw [my hi];unfold rA;simp only [aA,aF (show (i:Int)<((af3 p):Int) by omega),lw,au p i hi,ar,aT (show i<1000000000 by omega)]
  by_cases h:0<=p[i]!
  · rw [aF h,lw,pp h,bY (by rw [ww];omega),ar]
  rw [aC h,ol,rc h,If])
 unfold yP;refine (show _=_ from st).trans (aJ ?_);unfold rA;simp only [aA,aC (show¬((af3 p):Int)<((af3 p):Int) by omega),ol,UV]
structure Ij (p:List Int) (i j:Nat) (L:List Int):Prop where
 len:(af3 L)=af3 p
 le:i<=j
 lt:j<=af3 p
 got:L.take i=cU (p.take j)
 rest: ∀k,j<=k->k<af3 p->L[k]! =p[k]!
theorem Ij.VK {p:List Int} {i j:Nat} {L:List Int} (h:Ij p i j L):i=(cU (p.take j)).length:=by
 have:=congrArg List.length h.got
 rw [IR,h.len] at this
 have:=h.le;have:=h.lt
 omega
theorem aeg {p:List Int} {i:Nat} {L:List Int} (h:Ij p i (af3 p) L): ∃M:List Int,bg p ((i:Int),((af3 p):Int),L)=af5 (.done (.done (i,af3 p,M)))/\af3 M=af3 p/\M.take i=cU p:=by
 have hl:=h.len;have hi:=h.le;have got:=h.got;rw [UV] at got;unfold bg
 simp only [aA,hl,aC (show¬((af3 p):Int)<((af3 p):Int) by omega),ol,aF (show (0:Int)<=(i:Int) by omega),aF (show (i:Int)<=((af3 p):Int) by omega),aF (show ((af3 p):Int)<=((af3 p):Int) by omega),aeB,lw,aeE,Nat.zero_add,M2,Bool.and_true]
 by_cases h0:(af3 p)-i=0
 · have n1:Nat.beq (af3 p-i) 0=af9:=by rw [h0];rfl
   rw [n1,lw,jO L i (by omega),ar,beq_self_eq_true,lw]
   exact ⟨L,rfl,hl,got⟩
 have n1:Nat.beq (af3 p-i) 0=afa:=by
  cases hb:Nat.beq (af3 p-i) 0 with
  |false=>rfl
  |true=>have:=Nat.eq_of_beq_eq_true hb;omega
 have n2:Nat.ble (i+(af3 p-i)) (af3 p)=af9:=Nat.ble_eq_true_of_le (by omega)
 have ll:(eZ L i (ut (af3 p-i) (0:Int))).length=(af3 p):=by
  unfold eZ;simp;omega
 rw [n1,ol,n2,lw,jO _ i (by rw [ll];omega),ar,ll,beq_self_eq_true,lw]
 refine ⟨_,rfl,ll,?_⟩;rw [<- got];unfold eZ;rw [aem,NE (by rw [IR];omega),List.take_take,Nat.min_self]
theorem ama {p:List Int} (hp:(af3 p)<=1000): ∀(d i j:Nat) (L:List Int),af3 p-j<=d->Ij p i j L->
 ∃(n:Nat) (M:List Int),ax (bg p) ((i:Int),(j:Int),L)=af5 (.done (n,af3 p,M))/\n=(cU p).length/\af3 M=af3 p/\M.take n=cU p:=by
 have fin: ∀(i j:Nat) (L:List Int),af3 p<=j->Ij p i j L-> ∃(n:Nat) (M:List Int),ax (bg p) ((i:Int),(j:Int),L)=af5 (.done (n,af3 p,M))/\n=(cU p).length/\af3 M=af3 p/\M.take n=cU p:=by
  intro i j L hj h;obtain rfl:j=(af3 p):=by have:=h.lt;omega
  obtain ⟨M,m1,m2,m3⟩:=aeg h;exact ⟨i,M,aJ m1,by rw [h.VK,UV],m2,m3⟩
 intro d
 induction d with
 |zero=>exact fun i j L hd h=>fin i j L (by omega) h
 |succ d ih=>
  intro i j L hd h
  by_cases hj:(af3 p)<=j
  · exact fin i j L hj h
  have hl:=h.len;have k7:=h.le;have e:L[j]! =p[j]!:=h.rest j (acK _) (by omega)
  have st:bg p ((i:Int),(j:Int),L)=af5 (.next (((if 0<=p[j]! then i+1 else i:Nat):Int),((j+1:Nat):Int),if 0<=p[j]! then L.set i p[j]! else L)):=by
   unfold bg jG;simp only [aA,hl,aF (show (j:Int)<((af3 p):Int) by omega),lw,au L j (by omega),ar,e,aT (show i<1000000000 by omega),aT (show j<1000000000 by omega)]
   by_cases h0:0<=p[j]!
   · rw [aC (by omega),M2,lw,au L i (by omega),ar,pp h0,pp h0];rfl
   rw [aF (by omega),F0s,ol,rc h0,rc h0]
  rw [aZ st];refine ih _ _ _ (by omega) ?_
  by_cases h0:0<=p[j]!
  · rw [pp h0,pp h0]
    refine ⟨by rw [AC];exact hl,by omega,by omega,?_,fun k hk BO=>?_⟩
    · rw [my (by omega),pp h0,<- h.got,ew (by rw [AC];omega),aU,pp ⟨rfl,by omega⟩,List.take_set_of_le (acK i)]
    rw [aU,rc (by omega)];exact h.rest k (by omega) BO
  rw [rc h0,rc h0]
  refine ⟨hl,by omega,by omega,?_,fun k hk BO=>h.rest k (by omega) BO⟩
  rw [my (by omega),rc h0,If];exact h.got
theorem BL: ∀{l:List Int},(∀x∈l,0<=x)->cU l=l:=fun {l} h=>List.filter_eq_self.2 fun x hx=>by simpa using h x hx
theorem zH (p:List Int) (hp:(af3 p)<=1000): ∃(n:Nat) (M:List Int),bN p=af5 (n,af3 p,M)/\n=(cU p).length/\af3 M=af3 p/\M.take n=cU p:=by
 have key: ∀(d m:Nat),af3 p-m<=d->m<=af3 p->(∀k,k<m->0<=p[k]!)-> ∃(n:Nat) (M:List Int),ax (bj p) (((af3 p):Int),(m:Int),p)=af5 (n,af3 p,M)/\n=(cU p).length/\af3 M=af3 p/\M.take n=cU p:=by
  intro d;have fin: ∀m,m=af3 p->(∀k,k<m->0<=p[k]!)-> ∃(n:Nat) (M:List Int),ax (bj p) (((af3 p):Int),(m:Int),p)=af5 (n,af3 p,M)/\n=(cU p).length/\af3 M=af3 p/\M.take n=cU p:=by
   intro m hm h;subst hm;have e:cU p=p:=BL fun x hx=>by
    obtain ⟨i,hi,rfl⟩:=aS.1 hx;exact h i hi
   refine ⟨af3 p,p,aJ ?_,by rw [e],rfl,by rw [UV,e]⟩
   unfold bj;simp only [aC (show¬((af3 p):Int)<((af3 p):Int) by omega),ol,beq_self_eq_true,lw]
  induction d with
  |zero=>exact fun m h1 h2 h=>fin m (by omega) h
  |succ d ih=>
   intro m h1 h2 h
   by_cases hm:m=af3 p
   · exact fin m hm h
   by_cases h0:0<=p[m]!
   · have st:bj p (((af3 p):Int),(m:Int),p)=af5 (.next (((af3 p):Int),((m+1:Nat):Int),p)):=by
      unfold bj jG;simp only [aF (show (m:Int)<((af3 p):Int) by omega),lw,au p m (by omega),ar,aC (show¬p[m]!<0 by omega),ol,aT (show m<1000000000 by omega)]
     rw [aZ st];refine ih (m+1) (by omega) (by omega) fun k hk=>?_
     by_cases e:k=m
     · rw [e];exact h0
     exact h k (by omega)
   have hd:Ij p m (m+1) p:=⟨rfl,by omega,by omega,by
    rw [my (by omega),rc h0,If,BL fun x hx=>?_]
    obtain ⟨i,hi,_,rfl⟩:=cf.1 hx;exact h i hi,fun k _ _=>rfl⟩
   obtain ⟨n,M,m1,m2,m3,m4⟩:=ama hp (af3 p) m (m+1) p (by omega) hd
   refine ⟨n,M,aJ ?_,m2,m3,m4⟩;unfold bj jG;simp only [aF (show (m:Int)<((af3 p):Int) by omega),lw,au p m (by omega),ar,aF (show p[m]!<0 by omega),beq_self_eq_true,dR (show (m:Int)≠ -1 by omega),ol,aT (show m<1000000000 by omega),m1]
 unfold bN;exact key (af3 p) 0 (by omega) (Nat.zero_le _) (fun k hk=>absurd hk (Nat.not_lt_zero k))
def BM (n:Nat):Prop:= ∃i,i<7/\n=2^i
theorem MW {n:Nat} (h1:1<=n) (h2:n<=64):zY .i64 (n:Int) ((n-1:Nat):Int)=0↔BM n:=by
 have key: ∀k:Fin 65,1<=k.val->((zY .i64 (k.val:Int) ((k.val-1:Nat):Int)=0)↔ ∃i,i<7/\k.val=2^i):=by decide+kernel
 exact key ⟨n,by omega⟩ h1
theorem dbl {q:Nat} (h:q<=64):ae .i64 ((q:Int)*2)=((2*q:Nat):Int):=by rw [iC ⟨by omega,by omega⟩];omega
theorem J6 (i:Nat):2^(i+1)=2*2^i:=by rw [Nat.pow_succ];omega
theorem GC {n:Nat}:tq (n:Int)=af5 (afb (BM n)):=by
 have st:=mT (body:=ou) (fun i=>((n:Int),((2^i:Nat):Int))) 7 (fun i=>n≠2^i) (r:=af9) (e:=afa) (fun i hi=>by
  have b1:2^i<=64:=Nat.le_trans (aeA (by omega) (show i<=6 by omega)) (by decide)
  unfold ou;simp only [aF (show ((2^i:Nat):Int)<=64 by omega),lw]
  by_cases h:n=2^i
  · rw [eu (by omega)];exact ⟨fun _=>rfl,fun k=>absurd h k⟩
  · rw [dR (by omega),ol,dbl b1,J6]
    exact ⟨fun k=>absurd h k,fun _=>rfl⟩) (by
  unfold ou
  rfl)
 unfold tq;refine (show _=_ from st).trans ?_
 by_cases h:BM n
 · obtain ⟨i,hi,e⟩:=h
   rw [rc (fun k=>k i hi e),aF ⟨i,hi,e⟩]
 rw [pp (fun i hi e=>h ⟨i,hi,e⟩),aC h]
theorem kQ (f:List Pt):(kG f).length=(af3 f):=PP ..
theorem wK {f:List Pt} {i:Nat} (h:i<af3 f):(kG f)[i]! =(f[i]!).1:=by
 unfold kG;rw [getElem!_pos _ i (by rw [PP];exact h),getElem!_pos f i h,List.getElem_map]
section
variable {f : List Pt} (h64 : (af3 f) <= 64)
include h64
end
theorem O4:xT=xZ:=rfl
structure lM (k:bD):Prop where
 D6:bn k.jp
 br:J2 k.kw.aq k.kw.dJ
 pow:BM (af3 k.kw.aq)
 perm:(kG k.jp.ii.am).Perm (cU k.kw.aq)
 right:k.kw.dJ=bZ k.jp.ii.am k.jp.ci k.kw.aq
 cert:(k.jp.ai.ce.map fun x=>x.2).Perm (gZ k.kw.aq k.kw.dJ)
theorem iN {p:List Int} {x:Int}:x∈cU p↔x∈p/\0<=x:=by unfold cU;rw [List.mem_filter];simp
theorem wL {f:List Pt} {p w:List Int} (br:J2 p w) (pm:(kG f).Perm (cU p)):qO f p:=by
 refine ⟨br.one,br.dH,br.once,fun x hx=>?_⟩
 have:=br.FQ x hx
 by_cases h:0<=x
 · exact .inr ⟨h,pR.1 (pm.mem_iff.2 (iN.2 ⟨hx,h⟩))⟩
 exact .inl (by omega)
theorem Ay {p:List Int} (h:za p):(cU p).Nodup:=by
 have go: ∀(j:Nat),j<=af3 p->(cU (p.take j)).Nodup:=by
  intro j
  induction j with
  |zero=>intro _;simp [cU]
  |succ j ih=>
   intro hj;rw [my (by omega)]
   by_cases h0:0<=p[j]!
   · rw [pp h0]
     refine List.nodup_append.2 ⟨ih (by omega),by simp,fun a ha b hb e=>?_⟩
     obtain rfl:b=p[j]!:=by simpa using hb
     subst e;have hm:=(iN.1 ha).1;obtain ⟨i,hi,_,e⟩:=cf.1 hm
     have:=h i j hi (by omega) e
     omega
   rw [rc h0,If];exact ih (by omega)
 have:=go (af3 p) (acK _)
 rwa [UV] at this
theorem O5 {f:List Pt} (h:fM f):(kG f).Pairwise (· <= ·):=by
 refine ae5.2 fun i j hi hj k8=>?_
 rw [kQ] at hi hj
 have:=eH h k8 hj
 rw [<- getElem!_pos (kG f) i (by rw [kQ];exact hi),<- getElem!_pos (kG f) j (by rw [kQ];exact hj),wK hi,wK hj]
 omega
theorem MX {f:List Pt} (h:fM f) (l:List Int):lh l=kG f↔(kG f).Perm l:=by
 constructor
 · intro e;rw [<- e];exact rW l
 intro pm
 exact List.Perm.eq_of_pairwise (le:=(· <= ·)) (fun a b _ _ h1 h2=>Int.le_antisymm h1 h2) (vQ l) (O5 h) ((rW l).trans pm.symm)
theorem Hb (l:List Int) (f:List Pt) (hl:(af3 l)<=1000):cI l f ()=af5 (afb (l=kG f)):=by
 unfold cI;simp only [aA]
 by_cases h:(af3 l)=af3 f
 case neg=>rw [cC (by omega),lw,aC (fun e=>h (by rw [e,kQ]))]
 rw [bo (by omega),ol]
 have key:=mT (body:=cm) (fun i=>(f,l,((af3 l):Int),(i:Int))) (af3 l) (fun i=>l[i]! =(f[i]!).1) (r:=afa) (e:=af9) (fun i hi=>by
  unfold cm si;simp only [aF (show (i:Int)<((af3 l):Int) by omega),lw,au l i hi,au f i (by omega),ar,aT (show i<1000000000 by omega)]
  by_cases q:l[i]! =(f[i]!).1
  · rw [eu q];exact ⟨fun w=>absurd q w,fun _=>rfl⟩
  · rw [dR q];exact ⟨fun _=>rfl,fun w=>absurd w q⟩) (by
  unfold cm;simp only [aC (show¬((af3 l):Int)<((af3 l):Int) by omega),ol])
 refine (show _=_ from key).trans ?_
 by_cases q:l=kG f
 · rw [pp (fun i hi=>by rw [q,wK (by omega)]),aF q]
 rw [rc (fun w=>q (qu (by rw [kQ];exact h) fun i hi=>by rw [w i hi,wK (by omega)])),aC q]
theorem J7 (a b:List Int) (ha:(af3 a)<=1000):lW a b=af5 (afb (a=b)):=by
 unfold lW;simp only [aA]
 by_cases h:(af3 a)=af3 b
 case neg=>rw [cC (by omega),lw,aC (fun e=>h (by rw [e]))]
 rw [bo (by omega),ol]
 have key:=mT (body:=ju) (fun i=>(a,b,((af3 a):Int),(i:Int))) (af3 a) (fun i=>a[i]! =b[i]!) (r:=afa) (e:=af9) (fun i hi=>by
  unfold ju;simp only [aF (show (i:Int)<((af3 a):Int) by omega),lw,au a i hi,au b i (by omega),ar,aT (show i<1000000000 by omega)]
  by_cases q:a[i]! =b[i]!
  · rw [bo q];exact ⟨fun w=>absurd q w,fun _=>rfl⟩
  · rw [cC q];exact ⟨fun _=>rfl,fun w=>absurd w q⟩) (by
  unfold ju;simp only [aC (show¬((af3 a):Int)<((af3 a):Int) by omega),ol])
 refine (show _=_ from key).trans ?_
 by_cases q:a=b
 · rw [pp (fun i _=>by rw [q]),aF q]
 rw [rc (fun w=>q (qu h w)),aC q]
theorem MY {n:Nat} {M:List Int} (hn:n<=af3 M) (hm:(af3 M)<=1000):yB IY n M=af5 (lh (M.take n)++M.drop n):=by
 unfold yB C5 IY;rw [pp hn,pp (by rw [IR];omega)]
 simp only [rE,if_true,Option.map_some]
theorem Ik {c:aP} (ok:bn c) {es:List (Int×Int)} (_nd:es.Nodup):(af3 es=af3 c.ai.ce/\ ∀i,i<af3 c.ai.ce->(c.ai.ce[i]!).2∈es)↔(c.ai.ce.map fun x=>x.2).Perm es:=by
 have cl:(c.ai.ce.map fun x=>x.2).length=(af3 c.ai.ce):=PP ..
 constructor
 · rintro ⟨h1,h2⟩
   exact sF (yi ok.uu) (fun x hx=>by
    obtain ⟨i,hi,rfl⟩:=u9.2 hx;exact h2 i hi) (by omega)
 intro h
 exact ⟨by rw [<- h.length_eq,cl],fun i hi=>h.mem_iff.1 (u9.1 ⟨i,hi,rfl⟩)⟩
theorem DL {k:bD} (fit:qw k.jp) (hl:(af3 k.kw.aq)<=1000) (wl:(af3 k.kw.dJ)<=1000):kq k=af5 (if lM k then 0 else 8):=by
 unfold kq;rw [lL fit,ar]
 by_cases ok:bn k.jp
 case neg=>rw [rc ok,rc (fun h=>ok h.D6)];rfl
 rw [pp ok,bo rfl,ol,show mn k.kw=_ from CS k.kw.aq k.kw.dJ hl wl,ar]
 by_cases br:J2 k.kw.aq k.kw.dJ
 case neg=>rw [rc br,rc (fun h=>br h.br)];rfl
 have b1:=br.one;have b2:=br.dH;rw [pp br,bo rfl,ol,aA,mF (by omega) b1]
 by_cases pw:BM (af3 k.kw.aq)
 case neg=>rw [cC (fun h=>pw ((MW b1 b2).1 h)),lw,rc (fun h=>pw h.pow)]
 rw [bo ((MW b1 b2).2 pw),ol,ba (by omega),ar]
 obtain ⟨n,M,e1,e2,e3,e4⟩:=zH k.kw.aq hl;have nl:n<=(af3 M):=by
  have:=adc (fun x:Int=>decide (0<=x)) k.kw.aq
  rw [e2,e3];exact this
 have tk:(lh (M.take n)++M.drop n).take n=lh (cU k.kw.aq):=by
  rw [NE (by rw [rE,IR];omega),aew (by rw [rE,IR];omega),e4]
 have ll:(lh (M.take n)++M.drop n).length=(af3 M):=by rw [v6,rE,IR,aeH];omega
 have fe:k.jp.ii=⟨k.jp.ii.am⟩:=rfl;rw [e1,ar];dsimp only;rw [MY nl (by omega),ar,ll,beq_self_eq_true,lw,tk,Hb _ _ (by rw [rE];omega),ar]
 by_cases pm:(kG k.jp.ii.am).Perm (cU k.kw.aq)
 case neg=>rw [aC (fun h=>pm ((MX ok.jS.2.2 _).1 h)),rc (fun h=>pm h.perm)];rfl
 have pl:=wL br pm;rw [aF ((MX ok.jS.2.2 _).2 pm),F0s,ol,fe,GA ok.jS ok.qv ok.hU pl,ar];dsimp only;obtain ⟨_,nd,el⟩:=oD ok.jS ok.hU (t:=k.jp.ci) pl;have R:=eQ (f:=k.jp.ii.am) (t:=k.jp.ci) pl.one;rw [J7 _ _ (by have:=R.1;omega),ar]
 by_cases hw:bZ k.jp.ii.am k.jp.ci k.kw.aq=k.kw.dJ
 case neg=>rw [aC hw,rc (fun h=>hw h.right.symm)];rfl
 rw [aF hw,F0s,ol,O4,aed _ _ (by omega) (by have:=ok.bd;omega),ar]
 by_cases hc:(k.jp.ai.ce.map fun x=>x.2).Perm (gZ k.kw.aq (bZ k.jp.ii.am k.jp.ci k.kw.aq))
 · rw [aF ((Ik ok nd).2 hc),pp ⟨ok,br,pw,pm,hw.symm,by rw [<- hw];exact hc⟩];rfl
 rw [aC (fun h=>hc ((Ik ok nd).1 h)),rc (fun h=>hc (by rw [hw];exact h.cert))];rfl
theorem GD {f:List Pt} (dE:bC f) (p:List Int) (hp:(af3 p)<=1000):tu ⟨f⟩ p=af5 (afb (∀i,i<af3 p->p[i]! = -1\/fU f p[i]!)):=by
 have st:=mT (body:=ov) (fun i=>(p,(i:Int),f)) (af3 p) (fun i=>p[i]! = -1\/fU f p[i]!) (r:=afa) (e:=af9) (fun i hi=>by
  unfold ov;simp only [aA,aF (show (i:Int)<((af3 p):Int) by omega),lw,au p i hi,ar,aT (show i<1000000000 by omega)]
  by_cases h:p[i]! = -1
  · rw [bo h];exact ⟨fun k=>absurd (.inl h) k,fun _=>rfl⟩
  · rw [cC h,lw]
    by_cases h2:fU f p[i]!
    · obtain ⟨m,_,e,_⟩:=wC dE h2
      rw [e,ar,aC (by omega)];exact ⟨fun k=>absurd (.inr h2) k,fun _=>rfl⟩
    rw [CL dE h2,ar]
    exact ⟨fun _=>rfl,fun k=>by rcases k with k|k;exact absurd k h;exact absurd k h2⟩) (by
  unfold ov;simp only [aA,aC (show¬((af3 p):Int)<((af3 p):Int) by omega),ol])
 unfold tu;refine (show _=_ from st).trans ?_
 by_cases h: ∀i,i<af3 p->p[i]! = -1\/fU f p[i]!
 · rw [pp h,aF h]
 rw [rc h,aC h]
theorem Hc {f:List Pt} (dE:bC f) {t:Int×Int} (ya:oM t) {p w:List Int} (br:J2 p w) (pl:qO f p):sA ⟨p,w⟩ ⟨f⟩ t=af5 (afb (w=bZ f t p)):=by
 have b2:=br.dH;have b3:=br.len;have st:=mT (body:=pL) (fun i=>((i:Int),p,w,f,t)) (af3 w) (fun i=>w[i]! =vd f t (bz p w (2*i+1)) (bz p w (2*i+2))) (r:=afa) (e:=af9) (fun i hi=>by
  have k1:=mU (i:=i) (by omega) 1 (by omega)
  have k2:=mU (i:=i) (by omega) 2 (by omega)
  unfold pL;simp only [aA,aF (show (i:Int)<((af3 w):Int) by omega),lw,show ae .i64 (ae .i64 (2*(i:Int))+1)=((2*i+1:Nat):Int) from k1,show ae .i64 (ae .i64 (2*(i:Int))+2)=((2*i+2:Nat):Int) from k2,
   nD (p:=p) (w:=w) (i:=2*i+1) (by omega) (by omega),nD (p:=p) (w:=w) (i:=2*i+2) (by omega) (by omega),ar,au w i hi,aT (show i<1000000000 by omega),
   BI dE ya (pl.ids _ (jQ b3 br.cho (i:=2*i+1) (by omega))) (pl.ids _ (jQ b3 br.cho (i:=2*i+2) (by omega)))]
  by_cases h:w[i]! =vd f t (bz p w (2*i+1)) (bz p w (2*i+2))
  · rw [bo h];exact ⟨fun k=>absurd h k,fun _=>rfl⟩
  · rw [cC h];exact ⟨fun _=>rfl,fun k=>absurd k h⟩) (by
  unfold pL;simp only [aA,aC (show¬((af3 w):Int)<((af3 w):Int) by omega),ol])
 unfold sA;refine (show _=_ from st).trans ?_;have R:=eQ (f:=f) (t:=t) pl.one
 by_cases h:w=bZ f t p
 · rw [pp (by rw [h];exact R.2),aF h]
 rw [rc (fun k=>h (Sv ⟨b3,k⟩ R)),aC h]
theorem MZ {f:List Pt} (dE:bC f) {t:Int×Int} {p:List Int} (pl:qO f p) {e:Int×Int} (he:e∈gZ p (bZ f t p)):leads (gF f e.2) (gF f e.1) t:=by
 have R:=eQ (f:=f) (t:=t) pl.one;have R1:=R.1;obtain ⟨i,hi,h⟩:=Gl.1 he;obtain ⟨a1,a2,a3⟩:=wI h;have ne:=D8 R.1 R.ur pl.once hi a1;have hx:=(pl.ids _ (jQ R.1 R.ur (i:=2*i+1) (by omega))).has a1
 have hy:=(pl.ids _ (jQ R.1 R.ur (i:=2*i+2) (by omega))).has a2
 have wv:=R.2 i hi;unfold vd at wv;rw [rc (by omega),rc (by omega)] at wv
 by_cases ld:leads (gF f (bz p (bZ f t p) (2*i+1))) (gF f (bz p (bZ f t p) (2*i+2))) t
 · rw [pp ld] at wv
   rcases a3 with ⟨rfl,_⟩|⟨_,h⟩
   · exact ld
   exact absurd wv h
 rw [rc ld] at wv
 rcases a3 with ⟨_,h⟩|⟨rfl,_⟩
 · rw [wv] at h;exact absurd h.symm ne
 exact yj t (by rw [(fa dE hx).2,(fa dE hy).2];exact ne) ld
theorem GF {k:bD} (fit:qw k.jp) (hl:(af3 k.kw.aq)<=1000) (wl:(af3 k.kw.dJ)<=1000):tz k=af5 (if lM k then 0 else 8):=by
 unfold tz;rw [Gd fit,ar]
 by_cases ok:bn k.jp
 case neg=>rw [rc ok,rc (fun h=>ok h.D6)];rfl
 rw [pp ok,bo rfl,ol,show qt k.kw=_ from Gz k.kw.aq k.kw.dJ hl wl,ar]
 by_cases br:J2 k.kw.aq k.kw.dJ
 case neg=>rw [rc br,rc (fun h=>br h.br)];rfl
 have b1:=br.one;have b2:=br.dH;rw [pp br,bo rfl,ol,aA,GC,ar]
 by_cases pw:BM (af3 k.kw.aq)
 case neg=>rw [aC pw,rc (fun h=>pw h.pow)];rfl
 have fe:k.jp.ii=⟨k.jp.ii.am⟩:=rfl;rw [aF pw,F0s,ol,fe,GD ok.jS _ hl,ar]
 by_cases pm:(kG k.jp.ii.am).Perm (cU k.kw.aq)
 case neg=>
  by_cases kn: ∀i,i<af3 k.kw.aq->k.kw.aq[i]! = -1\/fU k.jp.ii.am k.kw.aq[i]!
  case neg=>rw [aC kn,rc (fun h=>pm h.perm)];rfl
  rw [aF kn,F0s,ol,BK _ hl,ar,aA,aA,rc (fun h=>pm h.perm)]
  rw [cC (fun h=>pm ?_)]
  · rfl
  have h:((cU k.kw.aq).length:Int)=((af3 k.jp.ii.am):Int):=h;refine (sF (Ay br.once) (fun x hx=>?_) (by rw [kQ];omega)).symm
  obtain ⟨h1,h2⟩:=iN.1 hx;obtain ⟨i,hi,rfl⟩:=aS.1 h1;rcases kn i hi with e|e
  · omega
  exact pR.2 e
 have pl:=wL br pm;have kn: ∀i,i<af3 k.kw.aq->k.kw.aq[i]! = -1\/fU k.jp.ii.am k.kw.aq[i]!:=fun i hi=>by
  rcases pl.ids _ (aY hi) with e|e
  · exact .inl e
  exact .inr e.2
 rw [aF kn,F0s,ol,BK _ hl,ar,aA,aA,bo (by rw [<- pm.length_eq,kQ]),ol,show sA k.kw ⟨k.jp.ii.am⟩ k.jp.ci=_ from Hc ok.jS ok.hU br pl,ar]
 by_cases hw:k.kw.dJ=bZ k.jp.ii.am k.jp.ci k.kw.aq
 case neg=>rw [aC hw,rc (fun h=>hw h.right)];rfl
 obtain ⟨JV,nd,el⟩:=oD ok.jS ok.hU (t:=k.jp.ci) pl;rw [aF hw,F0s,ol,show uU k.kw=_ from Du br.len b2,ar];rw [hw];rw [ad8 ok _ JV.kn,ar]
 by_cases hc:(k.jp.ai.ce.map fun x=>x.2).Perm (gZ k.kw.aq (bZ k.jp.ii.am k.jp.ci k.kw.aq))
 · rw [aF (show _/\_ from ⟨by rw [<- hc.length_eq,PP],fun i hi=>⟨u9.2 (hc.mem_iff.2 (aY hi)),MZ ok.jS pl (aY hi)⟩⟩),pp ⟨ok,br,pw,pm,hw,by rw [hw];exact hc⟩];rfl
 rw [aC (fun h=>hc ?_),rc (fun h=>hc (by have:=h.cert;rw [hw] at this;exact this))]
 · rfl
 have cl:(k.jp.ai.ce.map fun x=>x.2).length=(af3 k.jp.ai.ce):=PP ..
 refine (sF nd (fun x hx=>?_) (by omega)).symm
 obtain ⟨i,hi,rfl⟩:=aS.1 hx;exact u9.1 (h.2 i hi).1
section
variable {f : List Pt} (dE : bC f) {t : Int × Int} {p w : List Int} (pl : qO f p) (R : Gj f t p w)
include dE pl R
end
theorem O6: ∀e,e<=6->bQ [-1] ((2^e:Nat):Int)=af5 (ut (2^e) (-1)):=by
 have go: ∀(n:Nat) (m:Nat),n<1000->ae .u64 (n:Int)=(n:Int)->(2^m=n)->fb (ae .u64 (EQ ([-1]:List Int).length)) (ae .u64 (n:Int))=af5 (0,(n:Int)):=fun n m hn h _=>by
  rw [show ae .u64 (EQ ([-1]:List Int).length)=1 from by kernel_rfl,h,x5 ⟨by decide,by decide⟩ ⟨by omega,by omega⟩]
  have e1:(1*(n:Int)) / 18446744073709551616=0:=by omega
  have e2:(1*(n:Int))%18446744073709551616=(n:Int):=by omega
  rw [e1,e2]
 intro e he;have he:e=0\/e=1\/e=2\/e=3\/e=4\/e=5\/e=6:=by omega
 rcases he with rfl|rfl|rfl|rfl|rfl|rfl|rfl
 · unfold bQ fA;rw [go 1 0 (by omega) (by kernel_rfl) rfl];exact (by kernel_rfl:_=ax aH (1,-1::ut 0 0)).trans (aX.2 ⟨20,by kernel_rfl⟩)
 · unfold bQ fA;rw [go 2 1 (by omega) (by kernel_rfl) rfl];exact (by kernel_rfl:_=ax aH (1,-1::ut 1 0)).trans (aX.2 ⟨20,by kernel_rfl⟩)
 · unfold bQ fA;rw [go 4 2 (by omega) (by kernel_rfl) rfl];exact (by kernel_rfl:_=ax aH (1,-1::ut 3 0)).trans (aX.2 ⟨20,by kernel_rfl⟩)
 · unfold bQ fA;rw [go 8 3 (by omega) (by kernel_rfl) rfl];exact (by kernel_rfl:_=ax aH (1,-1::ut 7 0)).trans (aX.2 ⟨20,by kernel_rfl⟩)
 · unfold bQ fA;rw [go 16 4 (by omega) (by kernel_rfl) rfl];exact (by kernel_rfl:_=ax aH (1,-1::ut 15 0)).trans (aX.2 ⟨20,by kernel_rfl⟩)
 · unfold bQ fA;rw [go 32 5 (by omega) (by kernel_rfl) rfl];exact (by kernel_rfl:_=ax aH (1,-1::ut 31 0)).trans (aX.2 ⟨20,by kernel_rfl⟩)
 unfold bQ fA;rw [go 64 6 (by omega) (by kernel_rfl) rfl];exact (by kernel_rfl:_=ax aH (1,-1::ut 63 0)).trans (aX.2 ⟨20,by kernel_rfl⟩)
structure qP (k:bD):Prop where
 c:QQ k.jp
 p:(af3 k.kw.aq)<=1000
 w:(af3 k.kw.dJ)<=1000
theorem M0 (k:bD):qo k=af5 af9\/(qo k=af5 afa/\qP k):=by
 unfold qo xX
 rcases ML k.jp with e|⟨e,sh⟩
 · rw [e];exact .inl rfl
 rw [e,ar,ol];simp only [aA]
 by_cases h:70<af3 k.kw.aq
 · rw [aF (by omega)];exact .inl rfl
 rw [aC (by omega),ol,ar]
 by_cases h2:70<af3 k.kw.dJ
 · rw [aF (by omega)];exact .inl rfl
 rw [aC (by omega)];exact .inr ⟨rfl,sh,by omega,by omega⟩
theorem V2.short {c:aP} {f:List Pt} {p:List Int} {k:bD} (pl:qO f p) (h:V2 c f p k):qP k:=by
 have R:=eQ (f:=f) (t:=c.ci) pl.one;have b2:=pl.dH;have b3:=R.1;refine ⟨h.zc.ok.short,by rw [h.aq];show (af3 p)<=1000;omega,by rw [h.aq];show (bZ f c.ci p).length<=1000;omega⟩
theorem lM.fit (k:bD) (n:MJ k.jp) (sh:qP k):qw k.jp:=⟨n.ci,⟨sh.c.s3,sh.c.h,sh.c.w,n.OT⟩,sh.c.d⟩
structure aqL (c:aP) (l:List Int):Prop where
 ok:bn c
 pm:(kG c.ii.am).Perm l
 ct:(c.ai.ce.map fun x=>x.2).Perm (yh l)
theorem aqL.bd {c:aP} {l:List Int} (h:aqL c l):(af3 l)<=64:=by
 have:=h.ok.bd
 have:(af3 l)=(af3 c.ii.am):=by rw [<- h.pm.length_eq];exact PP ..
 omega
structure aqM (f:List Pt) (p:List Int) (to:Int×Int) (k:bD):Prop where
 D6:bn k.jp
 jS:k.jp.ii.am=f
 ci:k.jp.ci=to
 br:k.kw=⟨p,bZ f to p⟩
 cert:(k.jp.ai.ce.map fun x=>x.2).Perm (gZ p (bZ f to p))
 io: ¬Due k.jp to
theorem V4 (l:List Int) (x:Int) (hl:(af3 l)<=1000) (h1:1<=af3 l):ax mr (l,l++[x])=af5 (.done (l++[x]++ut (af3 l-1) (-1))):=by
 have key:=cz (body:=mr) (fun j=>(l,l++[x]++ut j (-1))) (af3 l-1) (fun j hj=>by
  unfold mr;have e:ae .i64 (2*((af3 l):Int))=2*((af3 l):Int):=iC ⟨by omega,by omega⟩
  simp only [aA,v6,ww,Do,e];rw [aF (show ((af3 l+1+j:Nat):Int)<2*((af3 l):Int) by omega),lw,bY (by simp;omega),ar,aem (l++[x]),<- List.replicate_succ'])
 rw [List.replicate_zero,If] at key;rw [key];refine aJ ?_;unfold mr;have e:ae .i64 (2*((af3 l):Int))=2*((af3 l):Int):=iC ⟨by omega,by omega⟩
 simp only [aA,v6,ww,Do,e];rw [aC (show¬((af3 l+1+(af3 l-1):Nat):Int)<2*((af3 l):Int) by omega),ol]
inductive Dv (l:List Int) (x:Int):List Int->Prop
 |at_ (k:Nat) (hk:k<af3 l) (e:l[k]! = -1) (h: ∀j,j<k->l[j]!≠ -1) (hi:eD l (-1)=af5 (k:Int)):Dv l x (l.set k x)
 |end_ (h: ∀j,j<af3 l->l[j]!≠ -1) (hi:eD l (-1)=af5 (-1)):Dv l x (l++[x]++ut (af3 l-1) (-1))
theorem aeh {l:List Int} (h1:1<=af3 l) (hl:(af3 l)<=1000) (hr: ∀x∈l,-1<=x) (x:Int): ∃m,FJ l x=af5 m/\Dv l x m:=by
 have neg: ∀j,j<af3 l->(l[j]!<0↔l[j]! = -1):=fun j hj=>by
  have:=hr _ (aY hj)
  omega
 unfold FJ;rw [ba (by omega),ar]
 have key:=hO (body:=pN) (fun i=>(l,x,(i:Int),l)) (af3 l) (fun i=>l[i]!<0) (fun i=>l.set i x) (e:=l++[x]++ut (af3 l-1) (-1)) (fun i hi=>by
  unfold pN;simp only [aA,aF (show (i:Int)<((af3 l):Int) by omega),lw,au l i hi,ar,aT (show i<1000000000 by omega),mu]
  refine ⟨fun h=>?_,fun h=>?_⟩
  · rw [aF h];rfl
  · rw [aC h];rfl) (by
  unfold pN;simp only [aA,aC (show¬((af3 l):Int)<((af3 l):Int) by omega),ol]
  rw [bY (by simp;omega),ar]
  exact V4 l _ (by omega) (by omega))
 have ix:=Gi l (-1) (by omega)
 by_cases h: ∃i,i<af3 l/\l[i]!<0
 · obtain ⟨k,k1,k2,k3⟩:=least h
   have k3': ∀j,j<k->l[j]!≠ -1:=fun j hj e=>k3 j hj ((neg j (by omega)).2 e)
   exact ⟨_,key.1 k k1 k2 k3,.at_ k k1 ((neg k k1).1 k2) k3' (ix.1 k k1 ((neg k k1).1 k2) k3')⟩
 have h': ∀i,i<af3 l-> ¬l[i]!<0:=fun i hi hx=>h ⟨i,hi,hx⟩
 have h2: ∀j,j<af3 l->l[j]!≠ -1:=fun j hj e=>h' j hj ((neg j hj).2 e)
 exact ⟨_,key.2 h',.end_ h2 (ix.2 h2)⟩
theorem aei {f:List Pt} {m:Nat} {p:Pt} {x:Int} (h:fU f x):fU (qy f m p) x:=by
 obtain ⟨i,hi,rfl⟩:=h;obtain ⟨j,hj,e⟩:=aS.1 (J0 (m:=m) (p:=p).2 (.inr (aY hi)));exact ⟨j,hj,by rw [e]⟩
theorem QT (f:List Pt) (m:Nat) (p:Pt):fU (qy f m p) p.1:=by
 obtain ⟨j,hj,e⟩:=aS.1 (J0 (f:=f) (m:=m) (p:=p).2 (.inl rfl));exact ⟨j,hj,by rw [e]⟩
theorem DK.ins {f:List Pt} {m:Nat} {p:Pt} {x:Int} (h:DK f x):DK (qy f m p) x:=h.imp id fun h=>⟨h.1,aei h.2⟩
theorem O7 {f:List Pt} {l:List Int} (pl:qO f l) {p:Pt} (p0:0<=p.1) (nh: ¬fU f p.1) {m:Nat} (h32:(∀j,j<af3 l->l[j]!≠ -1)->af3 l<=32) {q:List Int} (h:Dv l p.1 q):qO (qy f m p) q:=by
 have one:=pl.one;have dH:=pl.dH;have ne: ∀j,j<af3 l->l[j]!≠p.1:=fun j hj e=>by
  rcases pl.ids _ (aY hj) with h|h
  · omega
  exact nh (e▸h.2)
 cases h with
 |at_ k hk e h hi=>
  refine ⟨by rw [AC];exact one,by rw [AC];exact dH,fun i j k8 hj he=>?_,fun x hx=>?_⟩
  · rw [AC] at hj
    rw [aU,aU] at he;rw [aU]
    by_cases a:i=k
    · rw [pp ⟨a,by omega⟩,rc (by omega)] at he
      exact absurd he.symm (ne j hj)
    rw [rc (fun h=>a h.1)] at he ⊢
    by_cases b:j=k
    · rw [pp ⟨b,by omega⟩] at he
      exact absurd he (ne i (by omega))
    rw [rc (fun h=>b h.1)] at he
    exact pl.once i j k8 hj he
  rcases List.mem_or_eq_of_mem_set hx with h|h
  · exact (pl.ids x h).ins
  subst h;exact .inr ⟨p0,QT f m p⟩
 |end_ h hi=>
  have h32:=h32 h;have ll:(l++[p.1]++ut (af3 l-1) (-1:Int)).length=2*(af3 l):=by
   rw [v6,v6,ww,Do];omega
  have g1: ∀i,i<af3 l->(l++[p.1]++ut (af3 l-1) (-1:Int))[i]! =l[i]!:=fun i hi=>by
   rw [cw (by rw [v6];omega),cw hi]
  have g2:(l++[p.1]++ut (af3 l-1) (-1:Int))[af3 l]! =p.1:=by
   rw [cw (by rw [v6,ww];omega),dM (acK _),aeF];rfl
  have g3: ∀i,af3 l<i->i<2*af3 l->(l++[p.1]++ut (af3 l-1) (-1:Int))[i]! = -1:=fun i h1 h2=>by
   rw [dM (by rw [v6,ww];omega)]
   rw [v6,ww]
   have:=aY (l:=ut (af3 l-1) (-1:Int)) (i:=i- (af3 l+1)) (by rw [Do];omega)
   exact (acl.1 this).2
  refine ⟨by rw [ll];omega,by rw [ll];omega,fun i j k8 hj he=>?_,fun x hx=>?_⟩
  · rw [ll] at hj
    rcases aet i (af3 l) with a|a|a
    · rw [g1 i a] at he ⊢
      rcases aet j (af3 l) with b|b|b
      · rw [g1 j b] at he;exact pl.once i j k8 b he
      · rw [b,g2] at he;exact absurd he (ne i a)
      rw [g3 j b hj] at he;omega
    · rw [a,g2,g3 j (by omega) hj] at he;omega
    rw [g3 i a (by omega)];omega
  rcases aex.1 hx with hx|hx
  · rcases aex.1 hx with hx|hx
    · exact (pl.ids x hx).ins
    obtain rfl:=List.mem_singleton.1 hx
    exact .inr ⟨p0,QT f m p⟩
  exact .inl (acl.1 hx).2
theorem lM.aq {k:bD} (ok:lM k):qO k.jp.ii.am k.kw.aq:=wL ok.br ok.perm
theorem aej {k:bD} (ok:lM k) (dI:(af3 k.jp.ii.am)<64) (h: ∀j,j<af3 k.kw.aq->k.kw.aq[j]!≠ -1):(af3 k.kw.aq)<=32:=by
 have all:cU k.kw.aq=k.kw.aq:=BL fun x hx=>by
  obtain ⟨j,hj,rfl⟩:=aS.1 hx
  have:=h j hj
  rcases ok.aq.ids _ (aY hj) with e|e
  · exact absurd e this
  exact e.1
 have e:=ok.perm.length_eq;rw [all,kQ] at e;obtain ⟨i,hi,hp⟩:=ok.pow
 have:i<=5:=by
  rcases aeZ i 6 with h|h
  · omega
  obtain rfl:i=6:=by omega
  omega
 have:=aeA (show 0<2 by omega) this
 omega
section
variable {k : bD} (n : MJ k.jp) (sh : qP k)
include n sh
end
def sI (l:List Int) (k:Nat):List Int:=
 if 1<af3 l/\4*(cU (l.set k (-1))).length<=(af3 l) then cU (l.set k (-1))++ut ((af3 l) / 2- (cU (l.set k (-1))).length) (-1) else l.set k (-1)
theorem SA: ∀m:Nat,1<=m->m<=32->bQ [-1] (m:Int)=af5 (ut m (-1)):=by
 intro m h1 h2;have go:ae .u64 (m:Int)=(m:Int)->fb (ae .u64 (EQ ([-1]:List Int).length)) (ae .u64 (m:Int))=af5 (0,(m:Int)):=fun h=>by
  rw [show ae .u64 (EQ ([-1]:List Int).length)=1 from by kernel_rfl,h,x5 ⟨by decide,by decide⟩ ⟨by omega,by omega⟩]
  have e1:(1*(m:Int)) / 18446744073709551616=0:=by omega
  have e2:(1*(m:Int))%18446744073709551616=(m:Int):=by omega
  rw [e1,e2]
 have cs: ∀j,j<32->m=j+1->bQ [-1] (m:Int)=af5 (ut m (-1)):=by
  intro j hj e;subst e
  have:j=0\/j=1\/j=2\/j=3\/j=4\/j=5\/j=6\/j=7\/j=8\/j=9\/j=10\/j=11\/j=12\/j=13\/j=14\/j=15\/j=16\/j=17\/j=18\/j=19\/j=20\/j=21\/j=22\/j=23\/j=24\/j=25\/j=26\/j=27\/j=28\/j=29\/j=30\/j=31:=by omega
  rcases this with rfl|rfl|rfl|rfl|rfl|rfl|rfl|rfl|rfl|rfl|rfl|rfl|rfl|rfl|rfl|rfl|rfl|rfl|rfl|rfl|rfl|rfl|rfl|rfl|rfl|rfl|rfl|rfl|rfl|rfl|rfl|rfl
  all_goals (unfold bQ fA;rw [go (by kernel_rfl)])
  · exact (by kernel_rfl:_=ax aH (1,-1::ut 0 0)).trans (aX.2 ⟨20,by kernel_rfl⟩)
  · exact (by kernel_rfl:_=ax aH (1,-1::ut 1 0)).trans (aX.2 ⟨20,by kernel_rfl⟩)
  · exact (by kernel_rfl:_=ax aH (1,-1::ut 2 0)).trans (aX.2 ⟨20,by kernel_rfl⟩)
  · exact (by kernel_rfl:_=ax aH (1,-1::ut 3 0)).trans (aX.2 ⟨20,by kernel_rfl⟩)
  · exact (by kernel_rfl:_=ax aH (1,-1::ut 4 0)).trans (aX.2 ⟨20,by kernel_rfl⟩)
  · exact (by kernel_rfl:_=ax aH (1,-1::ut 5 0)).trans (aX.2 ⟨20,by kernel_rfl⟩)
  · exact (by kernel_rfl:_=ax aH (1,-1::ut 6 0)).trans (aX.2 ⟨20,by kernel_rfl⟩)
  · exact (by kernel_rfl:_=ax aH (1,-1::ut 7 0)).trans (aX.2 ⟨20,by kernel_rfl⟩)
  · exact (by kernel_rfl:_=ax aH (1,-1::ut 8 0)).trans (aX.2 ⟨20,by kernel_rfl⟩)
  · exact (by kernel_rfl:_=ax aH (1,-1::ut 9 0)).trans (aX.2 ⟨20,by kernel_rfl⟩)
  · exact (by kernel_rfl:_=ax aH (1,-1::ut 10 0)).trans (aX.2 ⟨20,by kernel_rfl⟩)
  · exact (by kernel_rfl:_=ax aH (1,-1::ut 11 0)).trans (aX.2 ⟨20,by kernel_rfl⟩)
  · exact (by kernel_rfl:_=ax aH (1,-1::ut 12 0)).trans (aX.2 ⟨20,by kernel_rfl⟩)
  · exact (by kernel_rfl:_=ax aH (1,-1::ut 13 0)).trans (aX.2 ⟨20,by kernel_rfl⟩)
  · exact (by kernel_rfl:_=ax aH (1,-1::ut 14 0)).trans (aX.2 ⟨20,by kernel_rfl⟩)
  · exact (by kernel_rfl:_=ax aH (1,-1::ut 15 0)).trans (aX.2 ⟨20,by kernel_rfl⟩)
  · exact (by kernel_rfl:_=ax aH (1,-1::ut 16 0)).trans (aX.2 ⟨20,by kernel_rfl⟩)
  · exact (by kernel_rfl:_=ax aH (1,-1::ut 17 0)).trans (aX.2 ⟨20,by kernel_rfl⟩)
  · exact (by kernel_rfl:_=ax aH (1,-1::ut 18 0)).trans (aX.2 ⟨20,by kernel_rfl⟩)
  · exact (by kernel_rfl:_=ax aH (1,-1::ut 19 0)).trans (aX.2 ⟨20,by kernel_rfl⟩)
  · exact (by kernel_rfl:_=ax aH (1,-1::ut 20 0)).trans (aX.2 ⟨20,by kernel_rfl⟩)
  · exact (by kernel_rfl:_=ax aH (1,-1::ut 21 0)).trans (aX.2 ⟨20,by kernel_rfl⟩)
  · exact (by kernel_rfl:_=ax aH (1,-1::ut 22 0)).trans (aX.2 ⟨20,by kernel_rfl⟩)
  · exact (by kernel_rfl:_=ax aH (1,-1::ut 23 0)).trans (aX.2 ⟨20,by kernel_rfl⟩)
  · exact (by kernel_rfl:_=ax aH (1,-1::ut 24 0)).trans (aX.2 ⟨20,by kernel_rfl⟩)
  · exact (by kernel_rfl:_=ax aH (1,-1::ut 25 0)).trans (aX.2 ⟨20,by kernel_rfl⟩)
  · exact (by kernel_rfl:_=ax aH (1,-1::ut 26 0)).trans (aX.2 ⟨20,by kernel_rfl⟩)
  · exact (by kernel_rfl:_=ax aH (1,-1::ut 27 0)).trans (aX.2 ⟨20,by kernel_rfl⟩)
  · exact (by kernel_rfl:_=ax aH (1,-1::ut 28 0)).trans (aX.2 ⟨20,by kernel_rfl⟩)
  · exact (by kernel_rfl:_=ax aH (1,-1::ut 29 0)).trans (aX.2 ⟨20,by kernel_rfl⟩)
  · exact (by kernel_rfl:_=ax aH (1,-1::ut 30 0)).trans (aX.2 ⟨20,by kernel_rfl⟩)
  exact (by kernel_rfl:_=ax aH (1,-1::ut 31 0)).trans (aX.2 ⟨20,by kernel_rfl⟩)
 exact cs (m-1) (by omega) (by omega)
theorem SC {l:List Int} {k:Nat} (hk:k<af3 l) (h0:0<=l[k]!):(cU (l.set k (-1))).length+1=(cU l).length:=by
 have e1:l=l.take k++l[k]!::l.drop (k+1):=by
  conv=>lhs;rw [<- List.take_append_drop k l,List.drop_eq_getElem_cons hk]
  rw [getElem!_pos l k hk]
 have e2:l.set k (-1)=l.take k++(-1)::l.drop (k+1):=by
  rw [List.set_eq_take_append_cons_drop,pp hk]
 have f1:(cU l).length=((l.take k).filter fun x=>decide (0<=x)).length+(((l.drop (k+1)).filter fun x=>decide (0<=x)).length+1):=by
  unfold cU
  conv=>lhs;rw [e1]
  rw [ae0,v6,aeu (by simpa using h0),List.length_cons]
 have f2:(cU (l.set k (-1))).length=((l.take k).filter fun x=>decide (0<=x)).length+((l.drop (k+1)).filter fun x=>decide (0<=x)).length:=by
  unfold cU;rw [e2,ae0,v6,aev (by decide)]
 omega
theorem SD {f:List Pt} (hs:fM f) {q:Nat} (hq:q<af3 f) {x:Int} (h:fU f x) (dS:x≠(f[q]!).1):fU (f.eraseIdx q) x:=by
 obtain ⟨i,hi,rfl⟩:=h;obtain ⟨j,hj,e⟩:=aS.1 ((CP hs hq).2 ⟨aY hi,dS⟩);exact ⟨j,hj,by rw [e]⟩
theorem O8 {f f':List Pt} {l:List Int} (pl:qO f l) {k:Nat} (hk:k<af3 l) (h0:0<=l[k]!) (has: ∀x,fU f x->x≠l[k]!->fU f' x):qO f' (l.set k (-1)):=by
 refine ⟨by rw [AC];exact pl.one,by rw [AC];exact pl.dH,fun i j k8 hj he=>?_,fun x hx=>?_⟩
 · rw [AC] at hj
   rw [aU,aU] at he;rw [aU]
   by_cases a:i=k
   · rw [pp ⟨a,by omega⟩];omega
   rw [rc (fun h=>a h.1)] at he ⊢
   by_cases b:j=k
   · rw [pp ⟨b,by omega⟩] at he;omega
   rw [rc (fun h=>b h.1)] at he;exact pl.once i j k8 hj he
 obtain ⟨i,hi,rfl⟩:=aS.1 hx
 rw [AC] at hi;rw [aU]
 by_cases a:i=k
 · rw [pp ⟨a,by omega⟩];exact .inl rfl
 rw [rc (fun h=>a h.1)]
 refine (pl.ids _ (aY hi)).imp id fun h=>⟨h.1,has _ h.2 fun e=>a (pl.once.inj hi hk e h.1)⟩
theorem M1 {f f':List Pt} {l:List Int} (pl:qO f l) {k:Nat} (hk:k<af3 l) (h0:0<=l[k]!) (has: ∀x,fU f x->x≠l[k]!->fU f' x):qO f' (sI l k):=by
 have sp:=O8 pl hk h0 has;unfold sI;split
 · rename_i h
   have nd:=Ay sp.once;have dH:=pl.dH;obtain ⟨A,hA⟩: ∃A,A=cU (l.set k (-1)):=⟨_,rfl⟩;rw [<- hA] at h nd ⊢;have An: ∀x∈A,0<=x:=fun x hx=>(iN.1 (hA▸hx)).2
   have ll:(A++ut ((af3 l) / 2-(af3 A)) (-1:Int)).length=(af3 l) / 2:=by
    rw [v6,Do];omega
   have g3: ∀i,af3 A<=i->i<(af3 l) / 2->(A++ut ((af3 l) / 2-(af3 A)) (-1:Int))[i]! = -1:=fun i h1 h2=>by
    rw [dM h1]
    have:=aY (l:=ut ((af3 l) / 2-(af3 A)) (-1:Int)) (i:=i-(af3 A)) (by rw [Do];omega)
    exact (acl.1 this).2
   refine ⟨by rw [ll];omega,by rw [ll];omega,fun i j k8 hj he=>?_,fun x hx=>?_⟩
   · rw [ll] at hj
     by_cases a:i<af3 A
     · rw [cw a] at he ⊢
       by_cases b:j<af3 A
       · rw [cw b] at he
         have:=(ae5.1 nd) i j a b k8
         rw [getElem!_pos A i a,getElem!_pos A j b] at he;exact absurd he this
       rw [g3 j (by omega) hj] at he
       have:=An _ (aY a);omega
     rw [g3 i (by omega) (by omega)];omega
   rcases aex.1 hx with hx|hx
   · exact sp.ids x (iN.1 (hA▸hx)).1
   exact .inl (acl.1 hx).2
 exact sp
theorem M3:dL=bN:=rfl
section
variable {k : bD} (n : MJ k.jp) (sh : qP k)
include n sh
end
section
variable {α : Type} [Inhabited α] {P : α -> α -> Prop} {S : α -> Prop}
end
section
variable {f : List Pt} {t : Int × Int}
end
theorem M4 {f:List Pt} (dE:bC f) {t:Int×Int} {p:List Int} (pl:qO f p):J2 p (bZ f t p):=by
 have R:=eQ (f:=f) (t:=t) pl.one;refine ⟨pl.one,pl.dH,R.1,pl.once,pl.FQ dE,R.ur,fun i hi h=>?_⟩
 rw [R.2 i hi] at h;unfold vd at h;split at h
 · rename_i h1;exact ⟨h1,h⟩
 rename_i h1
 split at h
 · omega
 split at h<;>omega
theorem aqM.ok {k:bD} (ok:lM k) {to:Int×Int} {r:bD} (h:aqM k.jp.ii.am k.kw.aq to r):lM r:=by
 have pl:=wL ok.br ok.perm;refine ⟨h.D6,?_,?_,?_,?_,?_⟩
 · rw [h.br];exact M4 ok.D6.jS pl
 · rw [h.br];exact ok.pow
 · rw [h.br,h.jS];exact ok.perm
 · rw [h.br,h.jS,h.ci]
 rw [h.br];exact h.cert
structure aek (R:bD) (F:List Pt) (P:List Int) (t:Int×Int):Prop where
 ok:lM R
 jS:R.jp.ii.am=F
 ci:R.jp.ci=t
 pls:R.kw.aq=P
theorem QU {f:List Pt} {p:List Int} (dE:bC f) (pl:qO f p) (h: ∀x,fU f x->x∈p):(kG f).Perm (cU p):=
 (List.perm_ext_iff_of_nodup (CO dE.2.2) (Ay pl.once)).2 fun x=>⟨fun hx=>by
  have hp:=pR.1 hx;obtain ⟨i,hi,e⟩:=hp
  have:=dE.2.1 _ (aY hi)
  unfold fK at this;exact iN.2 ⟨h x ⟨i,hi,e⟩,by omega⟩,fun hx=>by
  obtain ⟨h1,h2⟩:=iN.1 hx;exact pR.2 ((pl.ids x h1).has h2)⟩
theorem V2.auJ {c:aP} (ok:bn c) {f:List Pt} (dE:bC f) {p:List Int} (pl:qO f p) (pw:BM (af3 p)) (pm:(kG f).Perm (cU p)) {k:bD} (h:V2 c f p k):aek k f p c.ci:=by
 have q:=h.zc;have b:=h.aq;obtain ⟨_,nd,_⟩:=oD dE ok.hU (t:=c.ci) pl;refine ⟨⟨q.ok,by rw [b];exact M4 dE pl,by rw [b];exact pw,by rw [q.jS,b];exact pm,by rw [b,q.jS,q.ci],?_⟩,q.jS,q.ci,by rw [b]⟩
 rw [b];exact Dt (yi q.ok.uu) nd (fun z hz=>by obtain ⟨y,hy,rfl⟩:=List.mem_map.1 hz;exact q.sub y hy) (fun z hz=>u9.1 (q.has z hz))
theorem M5 {c:aP} (ok:bn c) {f:List Pt} (dE:bC f) {p:List Int} (pl:qO f p) (pw:BM (af3 p)) (pm:(kG f).Perm (cU p)):
 ∃R:bD×Int,de c ⟨f⟩ p=af5 R/\(R=(y4,18)\/R.2=0/\aek R.1 f p c.ci):=by
 obtain ⟨R,r1,_,r3⟩:=Ax ok dE pl;refine ⟨R,r1,?_⟩;rcases r3 with ⟨a,b⟩|h
 · exact .inr ⟨a,b.auJ ok dE pl pw pm⟩
 exact .inl h
theorem Dv.mem {l q:List Int} {x:Int} (h:Dv l x q):x∈q/\ ∀y∈l,0<=y->y∈q:=by
 cases h with
 |at_ k hk e _ _=>
  refine ⟨List.mem_set hk x,fun y hy h0=>?_⟩
  obtain ⟨i,hi,rfl⟩:=aS.1 hy
  have:i≠k:=fun a=>by rw [a,e] at h0;exact absurd h0 (by decide)
  have g:=aU l k i x;rw [rc (fun h=>this h.1)] at g
  rw [<- g];exact aY (by rw [AC];exact hi)
 |end_ _ _=>exact ⟨by simp,fun y hy _=>by simp [hy]⟩
theorem V5 {n:Nat} (h:BM n) (h1:1<n):BM (n / 2):=by
 obtain ⟨i,hi,rfl⟩:=h;cases i with
 |zero=>exact absurd h1 (by decide)
 |succ i=>exact ⟨i,by omega,by rw [J6];omega⟩
theorem ael {n:Nat} (h:BM n) (h1:n<=32):BM (2*n):=by
 obtain ⟨i,hi,rfl⟩:=h;refine ⟨i+1,?_,(J6 i).symm⟩;rcases aeZ i 6 with a|a
 · omega
 obtain rfl:i=6:=by omega
 exact absurd h1 (by decide)
theorem V6 {l q:List Int} {x:Int} (h1:1<=af3 l) (h:Dv l x q):(af3 q=af3 l/\ ∃k,k<af3 l/\l[k]! = -1)\/(af3 q=2*af3 l/\ ∀j,j<af3 l->l[j]!≠ -1):=by
 cases h with
 |at_ k hk e _ _=>exact .inl ⟨AC,k,hk,e⟩
 |end_ h _=>exact .inr ⟨by rw [v6,v6,ww,Do];omega,h⟩
theorem M6 {l:List Int} {j:Nat}:(sI l j).length=if 1<af3 l/\4*(cU (l.set j (-1))).length<=(af3 l) then (af3 l) / 2 else (af3 l):=by
 unfold sI;split
 · rw [v6,Do];omega
 rw [AC]
theorem V7 {l:List Int} {j:Nat} {x:Int} (hx:x∈l) (h0:0<=x) (dS:x≠l[j]!):x∈sI l j:=by
 have a:x∈l.set j (-1):=by
  obtain ⟨i,hi,rfl⟩:=aS.1 hx;have g:=aU l j i (-1);rw [rc (fun h=>dS (by rw [h.1]))] at g
  rw [<- g];exact aY (by rw [AC];exact hi)
 unfold sI;split
 · exact List.mem_append_left _ (iN.2 ⟨a,h0⟩)
 exact a
section
variable {k : bD} (ok : lM k) (sh : qP k)
include ok sh
theorem J8:kq k=af5 0:=by rw [DL ok.D6.fit sh.p sh.w,pp ok]
theorem V8 (p:Pt):(∃e:Int,e≠0/\iK k.jp.ii p=af5 (⟨[]⟩,e)/\o6 k p=af5 (y4,e))\/
 ∃(m:Nat) (q:List Int),MQ k.jp.ii.am p m/\ ¬fU k.jp.ii.am p.1/\fK p/\iK k.jp.ii p=af5 (⟨qy k.jp.ii.am m p⟩,0)/\bC (qy k.jp.ii.am m p)/\
  Dv k.kw.aq p.1 q/\qO (qy k.jp.ii.am m p) q/\BM (af3 q)/\(kG (qy k.jp.ii.am m p)).Perm (cU q)/\
  ∀R,de k.jp ⟨qy k.jp.ii.am m p⟩ q=af5 R->o6 k p=af5 R:=by
 have c1:=J8 ok sh;have dE:=ok.D6.jS;have pl:=ok.aq;rcases Gm dE p with ⟨e,e0,t1,_⟩|⟨m,hm,hp,po,dI,t1,_⟩
 · have t1:iK k.jp.ii p=af5 (⟨[]⟩,e):=t1
   refine .inl ⟨e,e0,t1,?_⟩;unfold o6;rw [c1,ar,bo rfl,ol,t1,ar,cC e0,lw];rfl
 have t1:iK k.jp.ii p=af5 (⟨qy k.jp.ii.am m p⟩,0):=t1;have J9:=ad9 dE po hm dI;have dH:=pl.dH;have one:=pl.one;have full:=aej ok dI;obtain ⟨q,_,w2⟩:=aeh one (by omega) (fun x hx=>(pl.FQ dE x hx).1) p.1
 have p0:0<=p.1:=by have:=po;unfold fK at this;omega
 have pl':qO (qy k.jp.ii.am m p) q:=O7 pl p0 hp full w2;refine .inr ⟨m,q,hm,hp,po,t1,J9,w2,pl',?_,QU J9 pl' fun x hx=>?_,fun R s1=>?_⟩
 · rcases V6 one w2 with ⟨a,_⟩|⟨a,b⟩
   · rw [a];exact ok.pow
   rw [a];exact ael ok.pow (full b)
 · obtain ⟨i,hi,rfl⟩:=hx
   rcases J0.1 (aY hi) with h|h
   · rw [h];exact w2.mem.1
   obtain ⟨j,hj,e⟩:=aS.1 h
   have:=dE.2.1 _ h
   unfold fK at this;have hx:((qy k.jp.ii.am m p)[i]!).1∈cU k.kw.aq:=ok.perm.mem_iff.1 (pR.2 ⟨j,hj,by rw [e]⟩)
   exact w2.mem.2 _ (iN.1 hx).1 (by omega)
 unfold o6
 rw [c1,ar,bo rfl,ol,t1,ar,bo rfl,ol,ba (by omega),ar]
 cases w2 with
 |at_ j hj e h hi=>
  rw [hi,ar,aC (show¬(j:Int)<0 by omega),ol,au _ j hj,ar,mu,s1,ar]
 |end_ h hi=>
  obtain ⟨i,hi7,hpw⟩:=ok.pow;have rep:=O6 i (by omega)
  rw [<- hpw] at rep;rw [hi,ar,aF (show (-1:Int)<0 by decide),lw,aA,rep,ar]
  have em:(ut (af3 k.kw.aq) (-1:Int)).isEmpty=afa:=by
   cases hh:(af3 k.kw.aq) with
   |zero=>omega
   |succ _=>rfl
  rw [em,ol,bY (by rw [Do];omega),ar,au _ _ (by rw [v6,Do];omega),ar,mu]
  have:(k.kw.aq++ut (af3 k.kw.aq) (-1:Int)).set (af3 k.kw.aq) p.1=k.kw.aq++[p.1]++ut (af3 k.kw.aq-1) (-1):=by
   rw [List.set_append_right _ _ (acK _),aeF];cases hh:(af3 k.kw.aq) with
   |zero=>omega
   |succ n=>simp [List.replicate_succ]
  rw [this,s1,ar]
theorem SF (id:Int):(¬fU k.jp.ii.am id/\jf k.jp.ii id=af5 (⟨[]⟩,6)/\jg k id=af5 (y4,6))\/
 ∃q j:Nat,q<af3 k.jp.ii.am/\(k.jp.ii.am[q]!).1=id/\j<af3 k.kw.aq/\k.kw.aq[j]! =id/\0<=id/\jf k.jp.ii id=af5 (⟨k.jp.ii.am.eraseIdx q⟩,0)/\
  bC (k.jp.ii.am.eraseIdx q)/\qO (k.jp.ii.am.eraseIdx q) (sI k.kw.aq j)/\BM (sI k.kw.aq j).length/\(kG (k.jp.ii.am.eraseIdx q)).Perm (cU (sI k.kw.aq j))/\
  (cU (k.kw.aq.set j (-1))).length=af3 k.jp.ii.am-1/\
  ∀R,de k.jp ⟨k.jp.ii.am.eraseIdx q⟩ (sI k.kw.aq j)=af5 R->jg k id=af5 R:=by
 have c1:=J8 ok sh;have dE:=ok.D6.jS;have pl:=ok.aq;have dH:=pl.dH;have one:=pl.one
 by_cases hid:fU k.jp.ii.am id
 case neg=>
  have t1:jf k.jp.ii id=af5 (⟨[]⟩,6):=(JZ dE hid).1;refine .inl ⟨hid,t1,?_⟩;unfold jg;rw [c1,ar,bo rfl,ol,t1,ar,cC (by decide),lw]
  rfl
 have hm:=iN.1 (ok.perm.mem_iff.1 (pR.2 hid));obtain ⟨q,hq,hqe⟩:=hid;have t1:=(OZ dE hq).1;rw [hqe] at t1;have t1:jf k.jp.ii id=af5 (⟨k.jp.ii.am.eraseIdx q⟩,0):=t1;have J9:=VV dE q;obtain ⟨j,hj,e,ix,_⟩:=Sx (l:=k.kw.aq) (by omega) hm.1
 have h0:0<=k.kw.aq[j]!:=by rw [e];exact hm.2
 have pl':qO (k.jp.ii.am.eraseIdx q) (sI k.kw.aq j):=M1 pl hj h0 fun x hx dS=>SD dE.2.2 hq hx (by rw [hqe,<- e];exact dS)
 have fl:(k.jp.ii.am.eraseIdx q).length=(cU (k.kw.aq.set j (-1))).length:=by
  have a:=SC hj h0;have b:=ok.perm.length_eq;rw [kQ] at b
  have:=BA hq
  omega
 refine .inr ⟨q,j,hq,hqe,hj,e,hm.2,t1,J9,pl',?_,QU J9 pl' fun x hx=>?_,by have:=BA hq;omega,fun R s1=>?_⟩
 · rw [M6]
   split
   · rename_i h;exact V5 ok.pow h.1
   exact ok.pow
 · obtain ⟨i,hi,rfl⟩:=hx
   obtain ⟨a,b⟩:=(CP dE.2.2 hq).1 (aY hi);obtain ⟨i',sJ,e'⟩:=aS.1 a;have hx:=iN.1 (ok.perm.mem_iff.1 (pR.2 ⟨i',sJ,by rw [e']⟩))
   exact V7 hx.1 hx.2 (by rw [e,<- hqe];exact b)
 unfold jg
 rw [c1,ar,bo rfl,ol,t1,ar,bo rfl,ol,ba (by omega),ar,ix,ar,au _ j hj,ar]
 simp only [mu,aA,AC,fl];have il:(cU (k.kw.aq.set j (-1))).length<=(af3 k.kw.aq):=by
  have:=adc (fun x:Int=>decide (0<=x)) (k.kw.aq.set j (-1))
  rw [AC] at this;unfold cU;omega
 rw [iC (n:=4*((cU (k.kw.aq.set j (-1))).length:Int)) ⟨by omega,by omega⟩]
 unfold sI at s1
 by_cases a:1<af3 k.kw.aq
 · rw [aF (by omega),lw]
   by_cases b:4*(cU (k.kw.aq.set j (-1))).length<=af3 k.kw.aq
   · rw [aF (by omega),lw,M3]
     rw [pp ⟨a,b⟩] at s1;obtain ⟨N,M,m1,m2,m3,m4⟩:=zH (k.kw.aq.set j (-1)) (by rw [AC];omega)
     rw [AC] at m1 m3;have w2:ae .i64 (ae .i64 (af0 ((af3 k.kw.aq):Int) 2) - (N:Int))=(((af3 k.kw.aq) / 2-N:Nat):Int):=by
      rw [ae3 (by omega),iC (n:=((af3 k.kw.aq):Int) / 2) ⟨by omega,by omega⟩,iC ⟨by omega,by omega⟩];omega
     rw [m1,ar];simp only [];rw [w2,SA _ (by omega) (by omega),ar]
     have em:(ut ((af3 k.kw.aq) / 2-N) (-1:Int)).isEmpty=afa:=by
      cases hh:(af3 k.kw.aq) / 2-N with
      |zero=>omega
      |succ _=>rfl
     have b1:Nat.ble (N+((af3 k.kw.aq) / 2-N)) (af3 k.kw.aq)=af9:=by rw [Nat.ble_eq];omega
     have lay:(eZ M N (ut ((af3 k.kw.aq) / 2-N) (-1:Int))).take (N+((af3 k.kw.aq) / 2-N))=cU (k.kw.aq.set j (-1))++ut ((af3 k.kw.aq) / 2-N) (-1):=by
      unfold eZ;rw [m4,NE (by rw [v6,Do];omega),aew (by rw [v6,Do];omega)]
     rw [em,ol,Do,b1,lw,m3,b1];simp only [M2,aeB,lw];rw [lay,m2,s1,ar]
   rw [aC (by omega),ol]
   rw [rc (fun h=>b h.2)] at s1
   rw [s1,ar]
 rw [aC (by omega),ol]
 rw [rc (fun h=>a h.1)] at s1
 rw [s1,ar]
end
theorem aek.short {R:bD} {F:List Pt} {P:List Int} {t:Int×Int} (h:aek R F P t):qP R:=by
 have a:=h.ok.br.len;have b:=h.ok.br.dH;exact ⟨h.ok.D6.short,by omega,by omega⟩
theorem V9 (k:bD) (n:MJ k.jp):uX k=af5 afa\/(uX k=af5 af9/\qP k/\af3 k.jp.ii.am<=10/\lM k):=by
 unfold uX;rcases M0 k with e|⟨e,sh⟩
 · rw [e];exact .inl rfl
 rw [e,ar,M2,lw];unfold Ao;rw [ar,aA]
 by_cases h:10<af3 k.jp.ii.am
 · rw [aF (by omega)];exact .inl rfl
 rw [aC (by omega),M2,lw,GF (lM.fit k n sh) sh.p sh.w,ar]
 by_cases ok:lM k
 · rw [pp ok];exact .inr ⟨rfl,sh,by omega,ok⟩
 rw [rc ok];exact .inl rfl
theorem GG {k:bD} (ok:lM k) (sh:qP k) (id:Int):(0<=id/\ ∃j,j<af3 k.kw.aq/\k.kw.aq[j]! =id/\(∀i,i<j->k.kw.aq[i]!≠id)/\iY k id=af5 ((j:Int),0))\/
 ((∀j,j<af3 k.kw.aq->k.kw.aq[j]! =id->id<0)/\iY k id=af5 (0,6)):=by
 have c1:=J8 ok sh;have dH:=ok.aq.dH;obtain ⟨i1,i2⟩:=Gi k.kw.aq id (by omega)
 unfold iY;rw [c1,ar,bo rfl,ol]
 by_cases h: ∃i,i<af3 k.kw.aq/\k.kw.aq[i]! =id
 · obtain ⟨j,j1,j2,j3⟩:=least h
   have j3: ∀i,i<j->k.kw.aq[i]!≠id:=j3;rw [i1 j j1 j2 j3,ar]
   by_cases a:id<0
   · rw [aF a,lw]
     exact .inr ⟨fun _ _ _=>a,rfl⟩
   rw [aC a,ol,aC (by omega),ol]
   exact .inl ⟨by omega,j,j1,j2,j3,rfl⟩
 have h': ∀i,i<af3 k.kw.aq->k.kw.aq[i]!≠id:=fun i hi e=>h ⟨i,hi,e⟩
 rw [i2 h',ar];refine .inr ⟨fun j hj e=>absurd e (h' j hj),?_⟩
 by_cases a:id<0
 · rw [aF a,lw]
 rw [aC a,ol,aF (by decide),lw]
def O9 (k x:bD) (id n:Int) (h:Bool) (i:Int):=
 (id,af9,n,h,i,k.jp.ci.1,k.jp.ci.2,k.jp.ii.am,k.jp.ai.aL,k.jp.ai.ce,k.jp.aa.af.aB,k.jp.aa.af.be,k.jp.aa.af.bi,k.jp.aa.bv,k.jp.aa.aj,k.jp.io,k.kw.aq,k.kw.dJ,x.jp.ci.1,x.jp.ci.2,x.jp.ii.am,x.jp.ai.aL,x.jp.ai.ce,x.jp.aa.af.aB,x.jp.aa.af.be,x.jp.aa.af.bi,x.jp.aa.bv,x.jp.aa.aj,x.jp.io,x.kw.aq,x.kw.dJ)
def t2S (k x:bD) (id n m a i:Int):=
 (id,af9,n,m,a,i,k.jp.ci.1,k.jp.ci.2,k.jp.ii.am,k.jp.ai.aL,k.jp.ai.ce,k.jp.aa.af.aB,k.jp.aa.af.be,k.jp.aa.af.bi,k.jp.aa.bv,k.jp.aa.aj,k.jp.io,k.kw.aq,k.kw.dJ,x.jp.ci.1,x.jp.ci.2,x.jp.ii.am,x.jp.ai.aL,x.jp.ai.ce,x.jp.aa.af.aB,x.jp.aa.af.be,x.jp.aa.af.bi,x.jp.aa.bv,x.jp.aa.aj,x.jp.io,x.kw.aq,x.kw.dJ)
structure V' (l r:List Int) (id:Int) (h:Bool):Prop where
 same:h=afa->af3 r=af3 l/\ ∀i,i<af3 l->l[i]!≠id->r[i]! =l[i]!
 dH:(af3 l)<=64
theorem O' {k x:bD} {id:Int} {h:Bool} (s:V' k.kw.aq x.kw.aq id h):ax bw (O9 k x id ((af3 k.kw.aq):Int) h 0)=af5 af9:=by
 cases h with
 |true=>
  refine aJ ?_;unfold bw O9;simp only [F0s,ol];cases afb ((0:Int)<((af3 k.kw.aq):Int))<;>rfl
 |false=>
  obtain ⟨hl,hs⟩:=s.same rfl;have hm:=s.dH;have st:=cz (body:=bw) (fun i=>O9 k x id ((af3 k.kw.aq):Int) afa (i:Int)) (af3 k.kw.aq) (fun i hi=>by
   unfold bw O9;simp only [aF (show (i:Int)<((af3 k.kw.aq):Int) by omega),lw,M2,au k.kw.aq i hi,ar,aT (show i<1000000000 by omega)]
   by_cases e:k.kw.aq[i]! =id
   · rw [bo e,ol]
   rw [cC e,lw,au x.kw.aq i (by omega),ar,bo (hs i hi e),ol])
  refine (show _=_ from st).trans (aJ ?_);unfold bw O9;simp only [aC (show¬((af3 k.kw.aq):Int)<((af3 k.kw.aq):Int) by omega),ol]
theorem Pa {k x:bD} {id:Int} {h:Bool} (s:V' k.kw.aq x.kw.aq id h):ax cN (O9 k x id ((af3 k.kw.aq):Int) h 0)=af5 (.done af9):=by
 cases h with
 |true=>
  refine aJ ?_;unfold cN O9;simp only [F0s,ol];cases afb ((0:Int)<((af3 k.kw.aq):Int))<;>rfl
 |false=>
  obtain ⟨hl,hs⟩:=s.same rfl;have hm:=s.dH;have st:=cz (body:=cN) (fun i=>O9 k x id ((af3 k.kw.aq):Int) afa (i:Int)) (af3 k.kw.aq) (fun i hi=>by
   unfold cN O9;simp only [aF (show (i:Int)<((af3 k.kw.aq):Int) by omega),lw,M2,au k.kw.aq i hi,ar,aT (show i<1000000000 by omega)]
   by_cases e:k.kw.aq[i]! =id
   · rw [bo e,ol]
   rw [cC e,lw,au x.kw.aq i (by omega),ar,bo (hs i hi e),ol])
  refine (show _=_ from st).trans (aJ ?_);unfold cN O9;simp only [aC (show¬((af3 k.kw.aq):Int)<((af3 k.kw.aq):Int) by omega),ol]
structure aqP (k:bD) (id:Int) (R:bD):Prop where
 pl:iY R id=af5 (0,6)
 len:(af3 R.kw.aq)=if 1<af3 k.kw.aq/\4*(af3 k.jp.ii.am-1)<=(af3 k.kw.aq) then (af3 k.kw.aq) / 2 else (af3 k.kw.aq)
 stay:V' k.kw.aq R.kw.aq id (afb (1<af3 k.kw.aq/\4*(af3 k.jp.ii.am-1)<=af3 k.kw.aq))
 pos:0<af3 k.jp.ii.am
theorem Il {k:bD} (ok:lM k) (sh:qP k) (id:Int): ∃R:bD×Int,jg k id=af5 R/\(R.2≠0\/R.2=0/\aqP k id R.1):=by
 have pl:=ok.aq;rcases SF ok sh id with ⟨_,_,t⟩|⟨q,j,hq,he,hj,hje,h0,_,J9,pl',pw,pm,VK,go⟩
 · exact ⟨_,t,.inl (by decide)⟩
 obtain ⟨R,s1,s2⟩:=M5 ok.D6 J9 pl' pw pm;refine ⟨R,go R s1,?_⟩;rcases s2 with rfl|⟨r0,tn⟩
 · exact .inl (by decide)
 refine .inr ⟨r0,?_,?_,⟨fun hf=>?_,pl.dH⟩,by omega⟩
 · rcases GG tn.ok tn.short id with ⟨_,i,i1,i2,_⟩|⟨_,h⟩
   · rw [tn.pls] at i1 i2
     have hx:id∈cU (sI k.kw.aq j):=iN.2 ⟨by rw [<- i2];exact aY i1,h0⟩
     obtain ⟨a,ha,e⟩:=pR.1 (pm.mem_iff.2 hx)
     have:=(CP ok.D6.jS.2.2 hq).1 (aY ha)
     exact absurd (by rw [e,he]) this.2
   exact h
 · rw [tn.pls,M6,VK]
 have hf: ¬(1<af3 k.kw.aq/\4*(af3 k.jp.ii.am-1)<=af3 k.kw.aq):=by simpa using hf
 have e:sI k.kw.aq j=k.kw.aq.set j (-1):=by
  unfold sI;rw [rc (by rw [VK];exact hf)]
 rw [tn.pls,e];refine ⟨AC,fun i hi dS=>?_⟩
 rw [aU,rc (fun h=>dS (by rw [h.1];exact hje))]
theorem M7 {n m:Nat} (hn:n<=64) (hm:0<m) (h:m<=64):ae .i64 (4*(ae .i64 ((m:Int) -1)))=((4*(m-1):Nat):Int)/\ae .i64 (af0 (n:Int) 2)=((n / 2:Nat):Int):=by
 refine ⟨?_,?_⟩
 · rw [iC (n:=(m:Int) -1) ⟨by omega,by omega⟩,iC ⟨by omega,by omega⟩];omega
 rw [ae3 (by omega),iC ⟨by omega,by omega⟩];omega
section
variable {k : bD} (ok : lM k) (sh : qP k) (id : Int)
include ok sh
theorem Pb (x:bD) (a:Int):bL (t2S k x id ((af3 k.kw.aq):Int) ((af3 k.jp.ii.am):Int) a ((af3 k.kw.aq):Int))=af5 (.done af9):=by
 have dH:=ok.aq.dH;have f64:=ok.D6.jS.1;obtain ⟨R,r1,r2⟩:=Il ok sh id
 have auK:(bD.mk (aP.mk (k.jp.ci.1,k.jp.ci.2) (Field.mk k.jp.ii.am) (bG.mk k.jp.ai.aL k.jp.ai.ce) (aM.mk (bc.mk k.jp.aa.af.aB k.jp.aa.af.be k.jp.aa.af.bi) k.jp.aa.bv k.jp.aa.aj) k.jp.io) (bu.mk k.kw.aq k.kw.dJ))=k:=rfl;unfold bL t2S
 simp only [aC (show¬((af3 k.kw.aq):Int)<((af3 k.kw.aq):Int) by omega),ol,auK,r1,ar]
 rcases r2 with h|⟨r0,g⟩
 · rw [cC h,lw]
 rw [bo r0,ol,g.pl,ar,bo rfl,ol];obtain ⟨w1,w2⟩:=M7 dH g.pos f64;have gl:=g.len;have gs:=g.stay;simp only [aA,w1,w2]
 by_cases h1:1<af3 k.kw.aq
 · rw [aF (show (1:Int)<((af3 k.kw.aq):Int) by omega),lw]
   by_cases h2:4*(af3 k.jp.ii.am-1)<=af3 k.kw.aq
   · rw [pp ⟨h1,h2⟩] at gl
     rw [aF (show _/\_ from ⟨h1,h2⟩)] at gs;rw [aF (show ((4*(af3 k.jp.ii.am-1):Nat):Int)<=((af3 k.kw.aq):Int) by omega),lw,bo (by rw [gl]),ol,F0s,ol]
     exact Pa gs
   rw [rc (fun h=>h2 h.2)] at gl
   rw [aC (show¬(_/\_) from fun h=>h2 h.2)] at gs
   rw [aC (show¬((4*(af3 k.jp.ii.am-1):Nat):Int)<=((af3 k.kw.aq):Int) by omega),ol,M2,lw,bo (by rw [gl]),ol]
   exact Pa gs
 rw [rc (fun h=>h1 h.1)] at gl
 rw [aC (show¬(_/\_) from fun h=>h1 h.1)] at gs
 rw [aC (show¬(1:Int)<((af3 k.kw.aq):Int) by omega),ol,bo (by rw [gl]),ol]
 exact Pa gs
end
structure Wa (l q:List Int) (a:Nat):Prop where
 ql:(af3 l)<=af3 q
 dH:(af3 l)<=64
 FQ: ∀x∈l,-1<=x
 stay: ∀i,i<af3 l->0<=l[i]!->q[i]! =l[i]!
 first: ∀i,i<af3 l->l[i]!<0->a<=i
theorem M8 {k:bD} (ok:lM k) (sh:qP k) (id:Int) {x:bD} {a:Nat} (c:Wa k.kw.aq x.kw.aq a):
 ax bL (t2S k x id ((af3 k.kw.aq):Int) ((af3 k.jp.ii.am):Int) (a:Int) 0)=af5 af9:=by
 have hm:=c.dH;have hq:=c.ql;have st:=cz (body:=bL) (fun i=>t2S k x id ((af3 k.kw.aq):Int) ((af3 k.jp.ii.am):Int) (a:Int) (i:Int)) (af3 k.kw.aq) (fun i hi=>by
  unfold bL t2S;simp only [aF (show (i:Int)<((af3 k.kw.aq):Int) by omega),lw,au k.kw.aq i hi,au x.kw.aq i (by omega),ar,aT (show i<1000000000 by omega)]
  by_cases e:0<=k.kw.aq[i]!
  · rw [aF e,lw,bo (c.stay i hi e),ol,aC (by omega),ol]
  have:=c.first i hi (by omega)
  rw [aC e,ol,aF (by omega),lw,aC (by omega),ol])
 exact (show _=_ from st).trans (aJ (Pb ok sh id x a))
theorem Wb {l:List Int} {k:Nat} (hk:k<af3 l) (e:l[k]! = -1):(cU l).length<(af3 l):=by
 unfold cU;rw [List.length_filter_lt_length_iff_exists];exact ⟨l[k]!,aY hk,by rw [e];decide⟩
theorem wM (k:bD) (p:Pt) (id:Int) (n:MJ k.jp):ox k p id=af5 af9:=by
 unfold ox;rw [ar];rcases V9 k n with e|⟨e,sh,_,ok⟩
 · rw [e];rfl
 rw [e,ar,F0s,ol,ol];have pl:=ok.aq;have dH:=pl.dH;have f64:=ok.D6.jS.1;have cn:=ok.perm.length_eq;rw [kQ] at cn;obtain ⟨Q,q1,q2⟩:=Il ok sh id;have fin:((jg k id).bind fun a8=>bif a8.2 !=0 then af5 af9 else (iY a8.1 id).bind fun a9=>bif a9.2 !=6 then af5 afa else
  bif afb (1<(EQ (af3 k.kw.aq))) then
   bif afb ((ae .i64 (4*(ae .i64 ((EQ (af3 k.jp.ii.am)) -1))))<=(EQ (af3 k.kw.aq))) then
    bif (EQ (af3 a8.1.kw.aq)) !=(ae .i64 (af0 (EQ (af3 k.kw.aq)) 2)) then af5 afa
    else
     bif !(afb ((ae .i64 (4*(ae .i64 ((EQ (af3 k.jp.ii.am)) -1))))<=(EQ (af3 k.kw.aq)))) then
      bif (EQ (af3 a8.1.kw.aq)) !=(EQ (af3 k.kw.aq)) then af5 afa
      else ax bw (O9 k a8.1 id (EQ (af3 k.kw.aq)) (afb ((ae .i64 (4*(ae .i64 ((EQ (af3 k.jp.ii.am)) -1))))<=(EQ (af3 k.kw.aq)))) 0)
     else ax bw (O9 k a8.1 id (EQ (af3 k.kw.aq)) (afb ((ae .i64 (4*(ae .i64 ((EQ (af3 k.jp.ii.am)) -1))))<=(EQ (af3 k.kw.aq)))) 0)
   else
    bif !(afb ((ae .i64 (4*(ae .i64 ((EQ (af3 k.jp.ii.am)) -1))))<=(EQ (af3 k.kw.aq)))) then
     bif (EQ (af3 a8.1.kw.aq)) !=(EQ (af3 k.kw.aq)) then af5 afa
     else ax bw (O9 k a8.1 id (EQ (af3 k.kw.aq)) (afb ((ae .i64 (4*(ae .i64 ((EQ (af3 k.jp.ii.am)) -1))))<=(EQ (af3 k.kw.aq)))) 0)
    else ax bw (O9 k a8.1 id (EQ (af3 k.kw.aq)) (afb ((ae .i64 (4*(ae .i64 ((EQ (af3 k.jp.ii.am)) -1))))<=(EQ (af3 k.kw.aq)))) 0)
  else
   bif (EQ (af3 a8.1.kw.aq)) !=(EQ (af3 k.kw.aq)) then af5 afa
   else ax bw (O9 k a8.1 id (EQ (af3 k.kw.aq)) afa 0))=af5 af9:=by
  rw [q1,ar];rcases q2 with h|⟨r0,g⟩
  · rw [cC h,lw]
  rw [bo r0,ol,g.pl,ar,bo rfl,ol];obtain ⟨w1,w2⟩:=M7 dH g.pos f64;have gl:=g.len;have gs:=g.stay;simp only [aA,w1,w2]
  by_cases h1:1<af3 k.kw.aq
  · rw [aF (show (1:Int)<((af3 k.kw.aq):Int) by omega),lw]
    by_cases h2:4*(af3 k.jp.ii.am-1)<=af3 k.kw.aq
    · rw [pp ⟨h1,h2⟩] at gl
      rw [aF (show _/\_ from ⟨h1,h2⟩)] at gs;rw [aF (show ((4*(af3 k.jp.ii.am-1):Nat):Int)<=((af3 k.kw.aq):Int) by omega),lw,bo (by rw [gl]),ol,F0s,ol]
      exact O' gs
    rw [rc (fun h=>h2 h.2)] at gl
    rw [aC (show¬(_/\_) from fun h=>h2 h.2)] at gs
    rw [aC (show¬((4*(af3 k.jp.ii.am-1):Nat):Int)<=((af3 k.kw.aq):Int) by omega),ol,M2,lw,bo (by rw [gl]),ol]
    exact O' gs
  rw [rc (fun h=>h1 h.1)] at gl
  rw [aC (show¬(_/\_) from fun h=>h1 h.1)] at gs
  rw [aC (show¬(1:Int)<((af3 k.kw.aq):Int) by omega),ol,bo (by rw [gl]),ol]
  exact O' gs
 rcases V8 ok sh p with ⟨e,e0,_,t⟩|⟨m,q,hm,nh,po,_,J9,w,pl',pw,pm,go⟩
 · rw [t,ar,show (((y4,e):bD×Int).2==0)=afa by simpa using e0,ol]
   exact fin
 obtain ⟨R,s1,r2⟩:=M5 ok.D6 J9 pl' pw pm;rw [go R s1,ar];rcases r2 with rfl|⟨r0,tn⟩
 · exact fin
 rw [r0,show ((0:Int)==0)=af9 from rfl,lw];have p0:0<=p.1:=by have:=po;unfold fK at this;omega
 have ne: ∀j,j<af3 k.kw.aq->k.kw.aq[j]!≠p.1:=fun j hj e=>by
  rcases pl.ids _ (aY hj) with h|h
  · omega
  exact nh (e▸h.2)
 have FQ: ∀x∈k.kw.aq,-1<=x:=fun x hx=>(pl.FQ ok.D6.jS x hx).1
 rcases GG tn.ok tn.short p.1 with ⟨_,j,j1,j2,j3,j4⟩|⟨h,_⟩
 case inr=>
  obtain ⟨i,hi,e⟩:=aS.1 w.mem.1;rw [tn.pls] at h
  have:=h i hi e
  omega
 rw [j4,ar,bo rfl,ol];have rp:=tn.pls;have k0: ∀a:Int,(0:Int)<=a->decide (0<=a)=af9:=fun a h=>aF h
 cases w with
 |at_ i hi e h hx=>
  have ji:j=i:=Classical.byContradiction fun dS=>by
   rw [rp,AC] at j1;rw [rp,aU,rc (fun h=>dS h.1)] at j2
   exact ne j j1 j2
  subst ji;have lt:=Wb hi e;have cp:Wa k.kw.aq R.1.kw.aq j:=by
   rw [rp];refine ⟨by rw [AC];exact acK _,dH,FQ,fun i sJ h0=>?_,fun i sJ hn=>Nat.le_of_not_lt fun dI=>?_⟩
   · rw [aU,rc (fun h=>?_)]
     rw [h.1,e] at h0;exact absurd h0 (by decide)
   have:=FQ _ (aY sJ)
   exact h i dI (by omega)
  rw [aF (by rw [aA,aA];omega),lw,bo (by rw [rp,AC]),ol,dR (by rw [aA,aA];omega),ol,aF (by rw [aA];omega),lw,au _ j hi,ar,e,aC (by decide),ol]
  exact M8 ok sh id cp
 |end_ h hx=>
  have all:cU k.kw.aq=k.kw.aq:=BL fun x hx=>by
   obtain ⟨i,hi,rfl⟩:=aS.1 hx;have a:=h i hi;have b:=FQ _ hx;omega
  rw [all] at cn;have one:=pl.one;have ll:(k.kw.aq++[p.1]++ut (af3 k.kw.aq-1) (-1:Int)).length=2*(af3 k.kw.aq):=by
   rw [v6,v6,ww,Do];omega
  have gq: ∀i,i<af3 k.kw.aq->R.1.kw.aq[i]! =k.kw.aq[i]!:=fun i hi=>by
   rw [rp,cw (by rw [v6];omega),cw hi]
  have g2:R.1.kw.aq[af3 k.kw.aq]! =p.1:=by
   rw [rp,cw (by rw [v6,ww];omega),dM (acK _),aeF];rfl
  have ji:j=(af3 k.kw.aq):=by
   rcases aet j (af3 k.kw.aq) with a|a|a
   · rw [gq j a] at j2;exact absurd j2 (ne j a)
   · exact a
   exact absurd g2 (j3 _ a)
  subst ji;have cp:Wa k.kw.aq R.1.kw.aq (af3 k.kw.aq):=⟨by rw [rp,ll];omega,dH,FQ,fun i hi _=>gq i hi,fun i hi hn=>by
   have a:=h i hi;have b:=FQ _ (aY hi)
   omega⟩
  rw [aC (by rw [aA,aA];omega),ol,eu (by rw [aA,aA];omega),lw,bo (by rw [rp,ll,aA,aA,iC ⟨by omega,by omega⟩];omega),ol]
  dsimp only;rw [aA,bo rfl,ol,aC (Int.lt_irrefl _),ol];exact M8 ok sh id cp
theorem MJ.of {c:aP} (h1:RT.wf [.i .i64,.i .i64] c.ci) (h2: ∀a∈c.aa.bv,RT.wf [.i .i64,.i .i64,.i .i64,.i .i64,.i .i64] a):MJ c where
 ci:=⟨wf_i64 h1.1,wf_i64 h1.2⟩
 OT w hw:=by
  have:=h2 (c.aa.bv[w]!) (by rw [getElem!_pos c.aa.bv w hw];exact List.getElem_mem hw)
  exact ⟨wf_i64 this.1,wf_i64 this.2.1⟩
end Go.Proofs.YtbgoiokedpjgbaaGreat
