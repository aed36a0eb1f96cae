/- Plain laws (5). -/
import Derived.Test.YtbgoiokedpjgbaaGreatBQM4
import Derived.Test.YtbgoiokedpjgbaaGreatBQS2
import Derived.Test.YtbgoiokedpjgbaaGreatBVm4
import Derived.Test.YtbgoiokedpjgbaaGreatBVm3
open List renaming replicate->ut,length_append->v6,length_singleton->ww,length_replicate->AC,length_set->Do,append_nil->EQ,length_take->F0s,take_append_of_le_length->IR,length_map->M2,take_length->NE,mem_replicate->PP,length_filter_le->ae9,filter_append->af2,pairwise_iff_getElem->af4,append_assoc->af5,filter_cons_of_pos->af7,filter_cons_of_neg->afa,take_of_length_le->afc,mem_append->aff,length_drop->afk,filter_nil->afm,length->afF
open Bool renaming not_true->If,not_false->acl,and_self->afh,true->afK,false->afQ
open Classical renaming not_not->UV,not_imp->afi
open Nat renaming lt_trichotomy->adc,le_refl->af6,pow_le_pow_right->afg,sub_self->afo,lt_or_ge->afE
open Int renaming ofNat->afb,toNat_natCast->afj
open Option renaming some->afI
open Decidable renaming decide->afR
namespace Go.Proofs.YtbgoiokedpjgbaaGreat
open Go.Vm Classical
structure Kp (p w:List Int):Prop where
 one:1<=afF p
 eN:(afF p)<=64
 len:(afF w)+1=afF p
 once:zF p
 Pc: ∀x∈p,-1<=x/\x<=65535
 cho:wX p w
 none_: ∀i,i<afF w->w[i]!<0->bA p w (2*i+1)<0/\bA p w (2*i+2)<0
def Kq (p w:List Int) (i:Nat):Prop:=(w[i]! =bA p w (2*i+1)\/w[i]! =bA p w (2*i+2))/\ ¬(w[i]!<0/\(0<=bA p w (2*i+1)\/0<=bA p w (2*i+2)))
def Ta (p w:List Int) (i:Nat):Prop:=(w[i]! =bA p w (2*i+1)\/w[i]! =bA p w (2*i+2))/\ ¬(w[i]! = -1/\(bA p w (2*i+1)≠ -1\/bA p w (2*i+2)≠ -1))
def Hw (p:List Int) (i:Nat):Prop:= -1<=p[i]!/\p[i]!<=65535
def GY (p:List Int) (i:Nat):Prop:= ∀j,j<i->p[j]! =p[i]!->p[i]!<0
theorem Cg {p:List Int}:(∀i,i<afF p->GY p i)↔zF p:=
 ⟨fun h i j lg hj e=>by rw [e];exact h j hj i lg e,fun h i hi j hj e=>by have:=h j i hj hi e;rw [e] at this;exact this⟩
theorem Kr {p:List Int}:(∀i,i<afF p->Hw p i)↔ ∀x∈p,-1<=x/\x<=65535:=(yD (P:=fun x=> -1<=x/\x<=65535)).symm
theorem Wz {p w:List Int} (h1:1<=afF p) (h64:(afF p)<=64) (hl:(afF w)+1=afF p):
 Kp p w↔(∀i,i<afF p->GY p i)/\(∀i,i<afF p->Hw p i)/\ ∀i,i<afF w->Kq p w i:=by
 rw [Cg,Kr];constructor
 · intro h
   refine ⟨h.once,h.Pc,fun i hi=>⟨h.cho i hi,fun ⟨a,b⟩=>?_⟩⟩
   have:=h.none_ i hi a
   omega
 rintro ⟨a,b,c⟩
 exact ⟨h1,h64,hl,a,b,fun i hi=>(c i hi).1,fun i hi h0=>by have:=(c i hi).2;omega⟩
theorem Nj {p w:List Int} (hl:(afF w)+1=afF p) (hr: ∀x∈p,-1<=x/\x<=65535):(∀i,i<afF w->Kq p w i)↔ ∀i,i<afF w->Ta p w i:=by
 constructor<;>intro h i hi
 · have hc:wX p w:=fun i hi=>(h i hi).1
   have a1:=hr _ (jV hl hc (i:=2*i+1) (by omega))
   have a2:=hr _ (jV hl hc (i:=2*i+2) (by omega))
   obtain ⟨b1,b2⟩:=h i hi;exact ⟨b1,by omega⟩
 have hc:wX p w:=fun i hi=>(h i hi).1
 have a1:=hr _ (jV hl hc (i:=2*i+1) (by omega))
 have a2:=hr _ (jV hl hc (i:=2*i+2) (by omega))
 obtain ⟨b1,b2⟩:=h i hi;exact ⟨b1,by omega⟩
theorem ana {p q:Prop} [Decidable p] [Decidable q] [Decidable (p/\q)] {a b:Int}:(if p then (if q then a else b) else b)=if p/\q then a else b:=by
 by_cases hp:p
 · rw [pp hp];exact zx ⟨fun h=>⟨hp,h⟩,fun h=>h.2⟩
 rw [rc hp,rc (fun h=>hp h.1)]
theorem Dg (p w:List Int) (hl:(afF p)<=1000) (wl:(afF w)<=1000):mG ⟨p,w⟩=afI (if Kp p w then 0 else 8):=by
 unfold mG;simp only [ay]
 by_cases h1:((afF p):Int)<1
 · rw [aD h1,lw,rc (fun h=>by have:=h.one;omega)]
 rw [aC h1,ol]
 by_cases h2:(64:Int)<((afF p):Int)
 · rw [aD h2,lw,rc (fun h=>by have:=h.eN;omega)]
 rw [aC h2,ol,mT (by omega) (by omega)]
 by_cases h3:(afF w)+1=afF p
 case neg=>rw [cK (by omega),lw,rc (fun h=>h3 h.len)]
 rw [bn (by omega),ol]
 have l1:=lX (body:=hY) (fun i=>(w,((afF w):Int),(i:Int),p,w)) (afF w) (Kq p w) (r:= .done (.done 8)) (e:= .done (.done 0)) (fun i hi=>by
  unfold hY Kq;have k1:=nj (i:=i) (by omega) 1 (by omega)
  have k2:=nj (i:=i) (by omega) 2 (by omega)
  simp only [aD (show (i:Int)<((afF w):Int) by omega),lw,ar w i hi,aj,show aa .i64 (aa .i64 (2*(i:Int))+1)=((2*i+1:Nat):Int) from k1,show aa .i64 (aa .i64 (2*(i:Int))+2)=((2*i+2:Nat):Int) from k2,
   mW (p:=p) (w:=w) (i:=2*i+1) (by omega) (by omega),mW (p:=p) (w:=w) (i:=2*i+2) (by omega) (by omega),aR (show i<1000000000 by omega)]
  generalize bA p w (2*i+1)=x;generalize bA p w (2*i+2)=y;generalize w[i]! =v
  by_cases a1:v=x
  · rw [bn a1,ol]
    by_cases a3:v<0
    · rw [aD a3,lw]
      by_cases a4:0<=(if y>x then y else x)
      · rw [aD a4,lw]
        exact ⟨fun _=>rfl,fun h=>by split at a4<;>omega⟩
      rw [aC a4,ol]
      exact ⟨fun h=>by split at a4<;>omega,fun _=>rfl⟩
    rw [aC a3,ol]
    exact ⟨fun h=>by omega,fun _=>rfl⟩
  · rw [cK a1,lw]
    by_cases a2:v=y
    · rw [bn a2,ol]
      by_cases a3:v<0
      · rw [aD a3,lw]
        by_cases a4:0<=(if y>x then y else x)
        · rw [aD a4,lw]
          exact ⟨fun _=>rfl,fun h=>by split at a4<;>omega⟩
        rw [aC a4,ol]
        exact ⟨fun h=>by split at a4<;>omega,fun _=>rfl⟩
      rw [aC a3,ol]
      exact ⟨fun h=>by omega,fun _=>rfl⟩
    rw [cK a2,lw]
    exact ⟨fun _=>rfl,fun h=>by omega⟩) (by
  unfold hY;simp only [aC (show¬((afF w):Int)<((afF w):Int) by omega),ol])
 have l1':az hY (w,((afF w):Int),0,p,w)=afI (.done (.done (if∀i,i<afF w->Kq p w i then 0 else 8))):=by
  refine (show _=_ from l1).trans ?_
  by_cases h: ∀i,i<afF w->Kq p w i
  · rw [pp h,pp h]
  rw [rc h,rc h]
 have l2: ∀m,az hZ (p,((afF p):Int),0,p,w,m)=afI (.done (if (∀i,i<afF p->Hw p i)/\ ∀i,i<afF w->Kq p w i then 0 else 8)):=fun m=>by
  have l2:=lX (body:=hZ) (fun i=>(p,((afF p):Int),(i:Int),p,w,m)) (afF p) (Hw p) (r:= .done 8) (e:= .done (if∀i,i<afF w->Kq p w i then 0 else 8)) (fun i hi=>by
   unfold hZ rf Hw;simp only [aD (show (i:Int)<((afF p):Int) by omega),lw,ar p i hi,aj,aR (show i<1000000000 by omega)]
   generalize p[i]! =v
   by_cases a1: -1<=v
   · rw [aD a1,lw,aj]
     by_cases a2:v<=65535
     · rw [aD a2];exact ⟨fun h=>absurd ⟨a1,a2⟩ h,fun _=>rfl⟩
     rw [aC a2]
     refine ⟨fun _=>?_,fun h=>absurd h.2 a2⟩
     rw [aD (show (0:Int)<=(i:Int) by omega)];rfl
   · rw [aC a1,ol,aj]
     refine ⟨fun _=>?_,fun h=>absurd h.1 a1⟩
     rw [aD (show (0:Int)<=(i:Int) by omega)];rfl) (by
   unfold hZ;simp only [aC (show¬((afF p):Int)<((afF p):Int) by omega),ol,ay,l1'])
  refine (show _=_ from l2).trans ?_
  by_cases h: ∀i,i<afF p->Hw p i
  · rw [pp h];congr 2;exact zx ⟨fun k=>⟨h,k⟩,fun k=>k.2⟩
  rw [rc h,rc (fun k=>h k.1)]
 have l3:=lX (body:=mg) (fun i=>(p,((afF p):Int),(i:Int),p,w,GW p i)) (afF p) (GY p) (r:=8) (e:=if (∀i,i<afF p->Hw p i)/\ ∀i,i<afF w->Kq p w i then 0 else 8) (fun i hi=>by
  unfold mg;simp only [aD (show (i:Int)<((afF p):Int) by omega),lw,ar p i hi,aj,GX,aR (show i<1000000000 by omega)]
  by_cases a:GY p i
  · rw [aC (show¬(0<=p[i]!/\ ∃j,j<i/\p[j]! =p[i]!) from fun ⟨h0,j,hj,e⟩=>by have:=a j hj e;omega)]
    exact ⟨fun h=>absurd a h,fun _=>rfl⟩
  · rw [aD (show 0<=p[i]!/\ ∃j,j<i/\p[j]! =p[i]! from by
     unfold GY at a;obtain ⟨j,hj⟩:=Classical.not_forall.1 a;obtain ⟨hj,h⟩:=afi.1 hj;obtain ⟨h,h0⟩:=afi.1 h;exact ⟨by omega,j,hj,h⟩)]
    refine ⟨fun _=>?_,fun h=>absurd h a⟩
    rw [aD (show (0:Int)<=(i:Int) by omega)];rfl) (by
  unfold mg;simp only [aC (show¬((afF p):Int)<((afF p):Int) by omega),ol,ay,l2])
 refine (show _=_ from l3).trans ?_;rw [zx (Wz (by omega) (by omega) h3)]
 congr 1
 exact ana
theorem GZ (p:List Int) (hl:(afF p)<=1000):yl p=afI (!afR (zF p)):=by
 have l2:=lX (body:=oF) (fun i=>(p,(i:Int))) (afF p) (GY p) (r:=afK) (e:=afQ) (fun i hi=>by
  have l1:=lX (body:=oE) (fun j=>(p,(i:Int),(j:Int))) i (fun j=>p[j]! =p[i]!->p[i]!<0) (r:= .done afK) (e:= .next (p,((i+1:Nat):Int))) (fun j hj=>by
   unfold oE;simp only [aD (show (j:Int)<(i:Int) by omega),lw,ar p i hi,ar p j (by omega),aj,aR (show j<1000000000 by omega)]
   by_cases a:0<=p[i]!
   · rw [aD a,lw]
     by_cases b:p[j]! =p[i]!
     · rw [ei b];exact ⟨fun _=>rfl,fun h=>by have:=h b;omega⟩
     rw [dO b];exact ⟨fun h=>absurd (fun k=>absurd k b) h,fun _=>rfl⟩
   · rw [aC a,ol]
     exact ⟨fun h=>absurd (fun _=>by omega) h,fun _=>rfl⟩) (by
   unfold oE;simp only [aC (show¬(i:Int)<(i:Int) by omega),ol,aR (show i<1000000000 by omega)])
  have l1:=(show _=_ from l1);unfold oF;simp only [ay,aD (show (i:Int)<((afF p):Int) by omega),lw]
  by_cases a:GY p i
  · rw [pp (show∀j,j<i->p[j]! =p[i]!->p[i]!<0 from a)] at l1
    exact ⟨fun h=>absurd a h,fun _=>l1⟩
  · rw [rc (show¬ ∀j,j<i->p[j]! =p[i]!->p[i]!<0 from a)] at l1
    exact ⟨fun _=>l1,fun h=>absurd h a⟩) (by
  unfold oF;simp only [ay,aC (show¬((afF p):Int)<((afF p):Int) by omega),ol])
 refine (show _=_ from l2).trans ?_
 by_cases h:zF p
 · rw [pp (Cg.2 h),aD h];rfl
 rw [rc (fun k=>h (Cg.1 k)),aC h];rfl
theorem G0 (p w:List Int) (hl:(afF p)<=1000) (wl:(afF w)<=1000):qN ⟨p,w⟩=afI (if Kp p w then 0 else 8):=by
 unfold qN;simp only [ay]
 by_cases h1:((afF p):Int)<1
 · rw [aD h1,lw,rc (fun h=>by have:=h.one;omega)]
 rw [aC h1,ol]
 by_cases h2:(64:Int)<((afF p):Int)
 · rw [aD h2,lw,rc (fun h=>by have:=h.eN;omega)]
 rw [aC h2,ol,mT (by omega) (by omega)]
 by_cases h3:(afF w)+1=afF p
 case neg=>rw [cK (by omega),lw,rc (fun h=>h3 h.len)]
 rw [bn (by omega),ol,GZ p hl,aj]
 by_cases ho:zF p
 case neg=>rw [aC ho,rc (fun h=>ho h.once)];rfl
 rw [aD ho,If,ol];have l1:=lX (body:=lT) (fun i=>((i:Int),p,w)) (afF w) (Ta p w) (r:= .done 8) (e:= .done 0) (fun i hi=>by
  unfold lT Ta;have k1:=nj (i:=i) (by omega) 1 (by omega)
  have k2:=nj (i:=i) (by omega) 2 (by omega)
  simp only [ay,aD (show (i:Int)<((afF w):Int) by omega),lw,ar w i hi,aj,show aa .i64 (aa .i64 (2*(i:Int))+1)=((2*i+1:Nat):Int) from k1,show aa .i64 (aa .i64 (2*(i:Int))+2)=((2*i+2:Nat):Int) from k2,
   nP (p:=p) (w:=w) (i:=2*i+1) (by omega) (by omega),nP (p:=p) (w:=w) (i:=2*i+2) (by omega) (by omega),aR (show i<1000000000 by omega)]
  generalize bA p w (2*i+1)=x;generalize bA p w (2*i+2)=y;generalize w[i]! =v
  by_cases a1:v=x
  · rw [bn a1,ol]
    by_cases a3:v= -1
    · rw [ei a3,lw]
      by_cases a4:x= -1
      · rw [bn a4,ol]
        by_cases a5:y= -1
        · rw [bn a5,ol];exact ⟨fun h=>by omega,fun _=>rfl⟩
        rw [cK a5,lw];exact ⟨fun _=>rfl,fun h=>by omega⟩
      rw [cK a4,lw];exact ⟨fun _=>rfl,fun h=>by omega⟩
    rw [dO a3,ol];exact ⟨fun h=>by omega,fun _=>rfl⟩
  · rw [cK a1,lw]
    by_cases a2:v=y
    · rw [bn a2,ol]
      by_cases a3:v= -1
      · rw [ei a3,lw]
        by_cases a4:x= -1
        · rw [bn a4,ol]
          by_cases a5:y= -1
          · rw [bn a5,ol];exact ⟨fun h=>by omega,fun _=>rfl⟩
          rw [cK a5,lw];exact ⟨fun _=>rfl,fun h=>by omega⟩
        rw [cK a4,lw];exact ⟨fun _=>rfl,fun h=>by omega⟩
      rw [dO a3,ol];exact ⟨fun h=>by omega,fun _=>rfl⟩
    rw [cK a2,lw]
    exact ⟨fun _=>rfl,fun h=>by omega⟩) (by
  unfold lT;simp only [ay,aC (show¬((afF w):Int)<((afF w):Int) by omega),ol])
 have l1':az lT (0,p,w)=afI (.done (if∀i,i<afF w->Ta p w i then 0 else 8)):=by
  refine (show _=_ from l1).trans ?_
  by_cases h: ∀i,i<afF w->Ta p w i
  · rw [pp h,pp h]
  rw [rc h,rc h]
 have l2:=lX (body:=oG) (fun i=>(((afF p):Int),(i:Int),p,w)) (afF p) (Hw p) (r:=8) (e:=if∀i,i<afF w->Ta p w i then 0 else 8) (fun i hi=>by
  unfold oG Hw;simp only [aD (show (i:Int)<((afF p):Int) by omega),lw,ar p i hi,aj,aR (show i<1000000000 by omega)]
  generalize p[i]! =v
  by_cases a1:v< -1
  · rw [aD a1];exact ⟨fun _=>rfl,fun h=>by omega⟩
  · rw [aC a1,ol]
    by_cases a2:65535<v
    · rw [aD a2];exact ⟨fun _=>rfl,fun h=>by omega⟩
    rw [aC a2];exact ⟨fun h=>by omega,fun _=>rfl⟩) (by
  unfold oG;simp only [aC (show¬((afF p):Int)<((afF p):Int) by omega),ol,l1'])
 refine (show _=_ from l2).trans ?_;rw [zx (Wz (by omega) (by omega) h3)]
 congr 1
 by_cases hr: ∀i,i<afF p->Hw p i
 · rw [pp hr]
   exact zx ⟨fun h=>⟨Cg.2 ho,hr,(Nj h3 (Kr.1 hr)).2 h⟩,fun h=>(Nj h3 (Kr.1 hr)).1 h.2.2⟩
 rw [rc hr,rc (fun h=>hr h.2.1)]
def Due (c:aP) (to:Int×Int):Prop:=0<afF c.ae.bv/\zE (Ev.at c.ae.bv[0]!) to<=0
def hP (c:aP) (r:Int) (N:List Nd) (to:Int×Int) (out:List (Int×Int)):=
 (c.ci.1,c.ci.2,c.ii.am,c.ai.aM,c.ai.ce,c.ae.af.aA,c.ae.af.be,c.ae.af.bi,c.ae.bv,c.ae.aq,c.io,r,N,to.1,to.2,(0:Int),(0:Int),(0:Int),(0:Int),out)
noncomputable def s5 (p w:List Int) (k:Nat):List (Int×Int):=(List.range k).filterMap (xp p w)
theorem yJ (p w:List Int) (k:Nat):s5 p w (k+1)=s5 p w k++(match xp p w k with|some e=>[e]|none=>[]):=by
 unfold s5;rw [List.range_succ,List.filterMap_append];cases h:xp p w k<;>simp [h]
theorem A3 (p w:List Int) (k:Nat):(s5 p w k).length<=k:=by
 have:=List.length_filterMap_le (xp p w) (List.range k)
 rwa [List.length_range] at this
section
variable {p w : List Int} (hl : (afF w) + 1 = (afF p)) (h64 : (afF p) <= 64) (hc : wX p w)
include hl h64
theorem DX:vt ⟨p,w⟩=afI (gd p w):=by
 have st:=bF (body:=tH) (fun i=>((i:Int),p,w,s5 p w i)) (afF w) (fun i hi=>by
  have k1:=nj (i:=i) (by omega) 1 (by omega)
  have k2:=nj (i:=i) (by omega) 2 (by omega)
  have el:=A3 p w i;rw [yJ];unfold tH;simp only [ay,aD (show (i:Int)<((afF w):Int) by omega),lw,show aa .i64 (aa .i64 (2*(i:Int))+1)=((2*i+1:Nat):Int) from k1,show aa .i64 (aa .i64 (2*(i:Int))+2)=((2*i+2:Nat):Int) from k2,
   nP (p:=p) (w:=w) (i:=2*i+1) (by omega) (by omega),nP (p:=p) (w:=w) (i:=2*i+2) (by omega) (by omega),aj,ar w i hi,aR (show i<1000000000 by omega)]
  unfold xp;generalize bA p w (2*i+1)=x;generalize bA p w (2*i+2)=y;generalize w[i]! =v
  by_cases a1:x<0
  · rw [aD a1,lw,pp (.inl a1)];simp
  rw [aC a1,ol]
  by_cases a2:y<0
  · rw [aD a2,lw,pp (.inr a2)];simp
  rw [aC a2,ol,rc (by omega)]
  by_cases a3:v=x
  · rw [ei a3,lw,pp a3,bT (by rw [ww];omega),aj]
  rw [dO a3,ol,rc a3,bT (by rw [ww];omega),aj])
 unfold vt;refine (show _=_ from st).trans (aH ?_);unfold tH;simp only [ay,aC (show¬((afF w):Int)<((afF w):Int) by omega),ol]
 rfl
include hc
theorem Nk (hr: ∀x∈p,-1<=x/\x<=65535):az lO (w,((afF w):Int),0,p,w,[])=afI (⟨p,w⟩,gd p w):=by
 have st:=bF (body:=lO) (fun i=>(w,((afF w):Int),(i:Int),p,w,s5 p w i)) (afF w) (fun i hi=>by
  have k1:=nj (i:=i) (by omega) 1 (by omega)
  have k2:=nj (i:=i) (by omega) 2 (by omega)
  have el:=A3 p w i;have m1:=hr _ (jV hl hc (i:=2*i+1) (by omega))
  have m2:=hr _ (jV hl hc (i:=2*i+2) (by omega))
  have cv:=hc i hi;have fin: ∀(x y v:Int),(-1<=x/\x<=65535)->(-1<=y/\y<=65535)->(v=x\/v=y)->
   (bif afR (0<=x) then
    bif afR (0<=y) then (bq (s5 p w i) [(aa .i64 (aa .i64 (x+y) -v),v)]).bind fun l3=>afI (Step.next (ρ:=bu×List (Int×Int)) (w,((afF w):Int),aa .i64 ((i:Int)+1),p,w,l3))
    else afI (Step.next (w,((afF w):Int),aa .i64 ((i:Int)+1),p,w,s5 p w i))
   else afI (Step.next (w,((afF w):Int),aa .i64 ((i:Int)+1),p,w,s5 p w i)))=
   afI (Step.next (w,((afF w):Int),((i+1:Nat):Int),p,w,s5 p w i++(match (if x<0\/y<0 then none else if v=x then afI (y,x) else afI (x,y)) with|some e=>[e]|none=>[]))):=by
   intro x y v hx hy hv;rw [aR (show i<1000000000 by omega)]
   by_cases a1:x<0
   · rw [aC (by omega),ol,pp (.inl a1)];simp
   rw [aD (by omega),lw]
   by_cases a2:y<0
   · rw [aC (by omega),ol,pp (.inr a2)];simp
   rw [aD (by omega),lw,rc (by omega),bT (by rw [ww];omega),aj,jb (n:=x+y) ⟨by omega,by omega⟩,jb ⟨by omega,by omega⟩]
   by_cases a3:v=x
   · rw [pp a3,a3,show x+y-x=y by omega]
   rw [rc a3,show x+y-v=x by omega,show v=y by omega]
  rw [yJ];unfold lO;have e1:bA p w (2*i+1)=if 2*i+1<(afF w) then w[2*i+1]! else p[2*i+1-(afF w)]!:=rfl
  have e2:bA p w (2*i+2)=if 2*i+2<(afF w) then w[2*i+2]! else p[2*i+2-(afF w)]!:=rfl
  have f1:=fin _ _ _ m1 m2 cv;simp only [ay,aD (show (i:Int)<((afF w):Int) by omega),lw,show aa .i64 (aa .i64 (2*(i:Int))+1)=((2*i+1:Nat):Int) from k1,show aa .i64 (aa .i64 (2*(i:Int))+2)=((2*i+2:Nat):Int) from k2,ar w i hi,aj,beq_self_eq_true]
  by_cases b1:2*i+1<afF w
  · rw [pp b1] at e1
    rw [aD (show ((2*i+1:Nat):Int)<((afF w):Int) by omega),lw,ar w _ b1,aj,<- e1]
    by_cases b2:2*i+2<afF w
    · rw [pp b2] at e2
      rw [aD (show ((2*i+2:Nat):Int)<((afF w):Int) by omega),lw,ar w _ b2,aj,<- e2]
      exact f1
    rw [rc b2] at e2
    rw [aC (show¬((2*i+2:Nat):Int)<((afF w):Int) by omega),ol,jb ⟨by omega,by omega⟩,show ((2*i+2:Nat):Int) - ((afF w):Int)=((2*i+2-(afF w):Nat):Int) by omega,ar p _ (by omega),aj,<- e2]
    exact f1
  rw [rc b1] at e1
  rw [rc (show¬2*i+2<(afF w) by omega)] at e2
  rw [aC (show¬((2*i+1:Nat):Int)<((afF w):Int) by omega),ol,jb (n:=((2*i+1:Nat):Int) - ((afF w):Int)) ⟨by omega,by omega⟩,show ((2*i+1:Nat):Int) - ((afF w):Int)=((2*i+1-(afF w):Nat):Int) by omega,ar p _ (by omega),aj,<- e1,
   aC (show¬((2*i+2:Nat):Int)<((afF w):Int) by omega),ol,jb (n:=((2*i+2:Nat):Int) - ((afF w):Int)) ⟨by omega,by omega⟩,show ((2*i+2:Nat):Int) - ((afF w):Int)=((2*i+2-(afF w):Nat):Int) by omega,ar p _ (by omega),aj,<- e2]
  exact f1)
 refine (show _=_ from st).trans (aH ?_);unfold lO;simp only [aC (show¬((afF w):Int)<((afF w):Int) by omega),ol]
 rfl
end
structure oX (f:List Pt) (p:List Int):Prop where
 one:1<=afF p
 eN:(afF p)<=64
 once:zF p
 ids: ∀x∈p,Ec f x
theorem oX.Pc {f:List Pt} (cS:bw f) {p:List Int} (h:oX f p): ∀x∈p,-1<=x/\x<=65535:=fun x hx=>by
 rcases h.ids x hx with e|⟨e,hp⟩
 · omega
 have:=(eY cS hp).1
 have e2:=(eY cS hp).2;unfold fw at this;omega
section
variable {f : List Pt} (cS : bw f) {t : Int × Int} (r : cC t) (yu : o4 t) {p : List Int} (pl : oX f p)
include cS yu pl
theorem Hx:wq ⟨f⟩ t p=afI ⟨p,bR f t p⟩:=by
 unfold wq;rw [GV cS yu pl.one pl.eN pl.ids];rfl
theorem lY:zu f (gd p (bR f t p))/\(gd p (bR f t p)).Nodup/\(gd p (bR f t p)).length<=63:=by
 have _:=yu;have R:=ew (f:=f) (t:=t) pl.one;have m:=pl.eN
 have:=R.1
 have el:=GM p (bR f t p);exact ⟨S6 cS R.1 pl.eN R.uN pl.once fun x hx h0=>(pl.ids x hx).has h0,Kj R.1 R.uN pl.once,by omega⟩
include r
theorem G1:tK ⟨f⟩ t p=afI (⟨p,bR f t p⟩,gd p (bR f t p)):=by
 have R:=ew (f:=f) (t:=t) pl.one;unfold tK;rw [pK cS r yu pl.one pl.eN pl.ids pl.once,aj];exact Nk R.1 pl.eN R.uN (pl.Pc cS)
end
def tZ:bJ:=⟨eM,⟨[],[]⟩⟩
structure WA (c:aP) (f:List Pt) (p:List Int) (k:bJ):Prop where
 zH:GI c f (gd p (bR f c.ci p)) k.jp
 aL:k.kw=⟨p,bR f c.ci p⟩
theorem Kt {c:aP} (ok:bk c) {f:List Pt} (cS:bw f) {p:List Int} (pl:oX f p):
 ∃R:aP×Int,lR c ⟨f⟩ (gd p (bR f c.ci p))=afI R/\kT c ⟨f⟩ (gd p (bR f c.ci p))=afI R/\(R.2=0/\GI c f (gd p (bR f c.ci p)) R.1\/R=(eM,18)):=by
 obtain ⟨DS,nd,el⟩:=lY cS ok.gF (t:=c.ci) pl;obtain ⟨R,r1,r2,r3⟩:=aeL ok cS DS;have ee:kE f (gd p (bR f c.ci p))=0:=by
  unfold kE;rw [rc (UV.2 DS.cv),rc (UV.2 nd),rc (fun h=>h DS.kn)]
 have rn:=yH ok cS (es:=gd p (bR f c.ci p)) (by omega) (fun _=>r1)
 rw [pp ee] at rn;exact ⟨R,rn,r2,r3⟩
def aeV (x y v:Int):List (Int×Int):=(if 0<=x/\x≠v then [(x,v)] else [])++(if 0<=y/\y≠v then [(y,v)] else [])
theorem Nl {v:Int} {w N:List Int} {L i:Int} {k c:Nat} {E:List (Int×Int)} (hk:k+2<=afF N) (he:(afF E)+2<=1000000):
 az iB (v,w,L,i,0+k,2,c,2,0,N,E)=afI (.next (w,L,aa .i64 (i+1),N,E++aeV N[k]! N[k+1]! v)):=by
 have hd:((N.drop (0+k)).take 2).length=2:=by rw [F0s,afk];omega
 have g0:aI ((N.drop (0+k)).take 2) 0=afI N[k]!:=by
  have:=ar ((N.drop (0+k)).take 2) 0 (by omega)
  rw [iN (by omega),kX] at this
  simpa using this
 have g1:aI ((N.drop (0+k)).take 2) 1=afI N[k+1]!:=by
  have:=ar ((N.drop (0+k)).take 2) 1 (by omega)
  rw [iN (by omega),kX] at this
  simpa using this
 have s0:iB (v,w,L,i,0+k,2,c,2,0,N,E)=afI (.next (v,w,L,i,0+k,2,c,2,1,N,E++(if 0<=N[k]!/\N[k]!≠v then [(N[k]!,v)] else []))):=by
  unfold iB;simp only [aD (show (0:Int)<2 by decide),lw,g0,aj,show aa .i64 ((0:Int)+1)=1 from by decide]
  by_cases a:0<=N[k]!
  · rw [aD a,lw]
    by_cases b:N[k]! =v
    · rw [bn b,ol,rc (fun h=>h.2 b),EQ]
    rw [cK b,lw,pp ⟨a,b⟩,bT (by rw [ww];omega),aj]
  rw [aC a,ol,rc (fun h=>a h.1),EQ]
 obtain ⟨E1,hE⟩: ∃E1,E1=E++(if 0<=N[k]!/\N[k]!≠v then [(N[k]!,v)] else []):=⟨_,rfl⟩
 have l1:(afF E1)<=afF E+1:=by
  rw [hE,v6];split<;>simp
 rw [<- hE] at s0;have s1:iB (v,w,L,i,0+k,2,c,2,1,N,E1)=afI (.next (v,w,L,i,0+k,2,c,2,2,N,E1++(if 0<=N[k+1]!/\N[k+1]!≠v then [(N[k+1]!,v)] else []))):=by
  unfold iB;simp only [aD (show (1:Int)<2 by decide),lw,g1,aj,show aa .i64 ((1:Int)+1)=2 from by decide]
  by_cases a:0<=N[k+1]!
  · rw [aD a,lw]
    by_cases b:N[k+1]! =v
    · rw [bn b,ol,rc (fun h=>h.2 b),EQ]
    rw [cK b,lw,pp ⟨a,b⟩,bT (by rw [ww];omega),aj]
  rw [aC a,ol,rc (fun h=>a h.1),EQ]
 rw [ba s0,ba s1];refine aH ?_;unfold iB;simp only [aC (show¬(2:Int)<2 by decide),ol]
 unfold aeV;rw [hE,af5]
section
variable {f : List Pt} {t : Int × Int} {p w : List Int} (hr : GL f t p w) (h64 : (afF p) <= 64) (ho : zF p)
include hr ho
theorem aeW {i:Nat} (hi:i<afF w):aeV (bA p w (2*i+1)) (bA p w (2*i+2)) w[i]! =(match xp p w i with|some e=>[e]|none=>[]):=by
 have hw:=hr.2 i hi;have ne:0<=bA p w (2*i+1)->bA p w (2*i+1)≠bA p w (2*i+2):=fun h=>EC hr.1 hr.uN ho hi h
 have W9:=Rk f t (bA p w (2*i+1)) (bA p w (2*i+2));unfold xp;rw [hw];generalize hx:bA p w (2*i+1)=x at ne W9 ⊢;generalize hy:bA p w (2*i+2)=y at ne W9 ⊢;unfold aeV
 by_cases a1:x<0
 · have:vG f t x y=y:=by unfold vG;rw [pp a1]
   rw [this,rc (by omega),rc (by omega),pp (.inl a1)];rfl
 by_cases a2:y<0
 · have:vG f t x y=x:=by unfold vG;rw [rc a1,pp a2]
   rw [this,rc (by omega),rc (by omega),pp (.inr a2)];rfl
 have ne:=ne (by omega)
 rw [rc (show¬(x<0\/y<0) by omega)]
 rcases W9 with h|h
 · rw [h,rc (by omega),pp ⟨by omega,fun e=>ne e.symm⟩,pp rfl];rfl
 rw [h,pp ⟨by omega,ne⟩,rc (by omega),rc (fun e=>ne e.symm)];rfl
include h64
theorem yK:tL ⟨p,w⟩=afI (gd p w):=by
 have hl:=hr.1;have hN:(w++p).length=afF w+(afF p):=v6;have nd: ∀j,j<afF w+afF p->(w++p)[j]! =bA p w j:=fun j hj=>by
  unfold bA;split
  · rw [de (by omega)]
  rw [ej (by omega)]
 have st:=bF (body:=oz) (fun i=>(w,((afF w):Int),(i:Int),w++p,s5 p w i)) (afF w) (fun i hi=>by
  have k1:=nj (i:=i) (by omega) 1 (by omega)
  have k3:aa .i64 ((aa .i64 (2*(i:Int)))+3)=((2*i+3:Nat):Int):=by
   rw [jb (n:=2*(i:Int)) ⟨by omega,by omega⟩,jb ⟨by omega,by omega⟩];omega
  have el:=A3 p w i;unfold oz;simp only [ay,aD (show (i:Int)<((afF w):Int) by omega),lw,ar w i hi,aj,show aa .i64 (aa .i64 (2*(i:Int))+1)=((2*i+1:Nat):Int) from k1,k3,hN,
   aD (show (0:Int)<=((2*i+1:Nat):Int) by omega),aD (show ((2*i+1:Nat):Int)<=((2*i+3:Nat):Int) by omega),aD (show ((2*i+3:Nat):Int)<=((afF w+(afF p):Nat):Int) by omega),afh,lw,afj,
   show 2*i+3- (2*i+1)=2 by omega]
  rw [show ((2:Nat):Int)=2 from rfl,Nl (by omega) (by omega),nd _ (by omega),nd _ (by omega),show 2*i+1+1=2*i+2 from rfl,aeW hr ho hi,aR (show i<1000000000 by omega),yJ]
  all_goals rfl)
 unfold tL;rw [show R8 w p=afI (w++p) from by unfold R8;rw [pp ⟨by omega,by omega⟩]]
 simp only [aj,ay];refine (show _=_ from st).trans (aH ?_);unfold oz;simp only [ay,aC (show¬((afF w):Int)<((afF w):Int) by omega),ol]
 rfl
end
theorem A4 {c:aP} (ok:bk c) {f:List Pt} (cS:bw f) {p:List Int} (pl:oX f p):
 ∃R:bJ×Int,cd c ⟨f⟩ p=afI R/\mE c ⟨f⟩ p=afI R/\(R.2=0/\WA c f p R.1\/R=(tZ,18)):=by
 have h1:=pK cS ok.pG ok.gF pl.one pl.eN pl.ids pl.once;have g1:=Hx cS (t:=c.ci) ok.gF pl;have B:=ew (f:=f) (t:=c.ci) pl.one;have e1:=yK B pl.eN pl.once;have eo:=DX B.1 pl.eN;obtain ⟨R,r1,r2,r3⟩:=Kt ok cS pl;rcases r3 with ⟨q0,qq⟩|he
 · refine ⟨(⟨R.1,⟨p,bR f c.ci p⟩⟩,0),?_,?_,.inl ⟨rfl,qq,rfl⟩⟩
   · unfold cd
     simp only [h1,aj,e1,r1,q0,show ((0:Int) !=0)=afQ from rfl,ol]
   unfold mE
   simp only [g1,aj,eo,r2,q0,show ((0:Int) !=0)=afQ from rfl,ol]
 refine ⟨(tZ,18),?_,?_,.inr rfl⟩
 · unfold cd
   simp only [h1,aj,e1,r1,he,show ((18:Int) !=0)=afK from rfl,lw];rfl
 unfold mE
 simp only [g1,aj,eo,r2,he,show ((18:Int) !=0)=afK from rfl,lw];rfl
def c9 (p:List Int):List Int:=p.filter fun x=>decide (0<=x)
theorem mK {p:List Int} {j:Nat} (hj:j<afF p):c9 (p.take (j+1))=c9 (p.take j)++if 0<=p[j]! then [p[j]!] else []:=by
 unfold c9;rw [ek hj,af2]
 by_cases h:0<=p[j]!
 · rw [pp h,af7 (by simpa using h),afm]
 rw [rc h,afa (by simpa using h),afm]
theorem WB (p:List Int) (j:Nat):(c9 (p.take j)).length<=j:=by
 have:=ae9 (fun x:Int=>decide (0<=x)) (p.take j)
 rw [F0s] at this;unfold c9;omega
theorem Ch (p:List Int) (hl:(afF p)<=1000):zh p=afI (c9 p):=by
 have st:=bF (body:=rT) (fun i=>(p,(i:Int),c9 (p.take i))) (afF p) (fun i hi=>by
  have el:=WB p i;rw [mK hi];unfold rT;simp only [ay,aD (show (i:Int)<((afF p):Int) by omega),lw,ar p i hi,aj,aR (show i<1000000000 by omega)]
  by_cases h:0<=p[i]!
  · rw [aD h,lw,pp h,bT (by rw [ww];omega),aj]
  rw [aC h,ol,rc h,EQ])
 unfold zh;refine (show _=_ from st).trans (aH ?_);unfold rT;simp only [ay,aC (show¬((afF p):Int)<((afF p):Int) by omega),ol,NE]
structure II (p:List Int) (i j:Nat) (L:List Int):Prop where
 len:(afF L)=afF p
 le:i<=j
 lt:j<=afF p
 got:L.take i=c9 (p.take j)
 rest: ∀k,j<=k->k<afF p->L[k]! =p[k]!
theorem II.cnt {p:List Int} {i j:Nat} {L:List Int} (h:II p i j L):i=(c9 (p.take j)).length:=by
 have:=congrArg List.length h.got
 rw [F0s,h.len] at this
 have:=h.le;have:=h.lt
 omega
theorem aeX {p:List Int} {i:Nat} {L:List Int} (h:II p i (afF p) L): ∃M:List Int,bg p ((i:Int),((afF p):Int),L)=afI (.done (.done (i,afF p,M)))/\afF M=afF p/\M.take i=c9 p:=by
 have hl:=h.len;have hi:=h.le;have got:=h.got;rw [NE] at got;unfold bg
 simp only [ay,hl,aC (show¬((afF p):Int)<((afF p):Int) by omega),ol,aD (show (0:Int)<=(i:Int) by omega),aD (show (i:Int)<=((afF p):Int) by omega),aD (show ((afF p):Int)<=((afF p):Int) by omega),afh,lw,afj,Nat.zero_add,acl,Bool.and_true]
 by_cases h0:(afF p)-i=0
 · have n1:Nat.beq (afF p-i) 0=afK:=by rw [h0];rfl
   rw [n1,lw,jT L i (by omega),aj,beq_self_eq_true,lw]
   exact ⟨L,rfl,hl,got⟩
 have n1:Nat.beq (afF p-i) 0=afQ:=by
  cases hb:Nat.beq (afF p-i) 0 with
  |false=>rfl
  |true=>have:=Nat.eq_of_beq_eq_true hb;omega
 have n2:Nat.ble (i+(afF p-i)) (afF p)=afK:=Nat.ble_eq_true_of_le (by omega)
 have ll:(eX L i (ut (afF p-i) (0:Int))).length=(afF p):=by
  unfold eX;simp;omega
 rw [n1,ol,n2,lw,jT _ i (by rw [ll];omega),aj,ll,beq_self_eq_true,lw]
 refine ⟨_,rfl,ll,?_⟩;rw [<- got];unfold eX;rw [af5,IR (by rw [F0s];omega),List.take_take,Nat.min_self]
theorem anb {p:List Int} (hp:(afF p)<=1000): ∀(d i j:Nat) (L:List Int),afF p-j<=d->II p i j L->
 ∃(n:Nat) (M:List Int),az (bg p) ((i:Int),(j:Int),L)=afI (.done (n,afF p,M))/\n=(c9 p).length/\afF M=afF p/\M.take n=c9 p:=by
 have fin: ∀(i j:Nat) (L:List Int),afF p<=j->II p i j L-> ∃(n:Nat) (M:List Int),az (bg p) ((i:Int),(j:Int),L)=afI (.done (n,afF p,M))/\n=(c9 p).length/\afF M=afF p/\M.take n=c9 p:=by
  intro i j L hj h;obtain rfl:j=(afF p):=by have:=h.lt;omega
  obtain ⟨M,m1,m2,m3⟩:=aeX h;exact ⟨i,M,aH m1,by rw [h.cnt,NE],m2,m3⟩
 intro d
 induction d with
 |zero=>exact fun i j L hd h=>fin i j L (by omega) h
 |succ d ih=>
  intro i j L hd h
  by_cases hj:(afF p)<=j
  · exact fin i j L hj h
  have hl:=h.len;have ly:=h.le;have e:L[j]! =p[j]!:=h.rest j (af6 _) (by omega)
  have st:bg p ((i:Int),(j:Int),L)=afI (.next (((if 0<=p[j]! then i+1 else i:Nat):Int),((j+1:Nat):Int),if 0<=p[j]! then L.set i p[j]! else L)):=by
   unfold bg jJ;simp only [ay,hl,aD (show (j:Int)<((afF p):Int) by omega),lw,ar L j (by omega),aj,e,aR (show i<1000000000 by omega),aR (show j<1000000000 by omega)]
   by_cases h0:0<=p[j]!
   · rw [aC (by omega),acl,lw,ar L i (by omega),aj,pp h0,pp h0];rfl
   rw [aD (by omega),If,ol,rc h0,rc h0]
  rw [ba st];refine ih _ _ _ (by omega) ?_
  by_cases h0:0<=p[j]!
  · rw [pp h0,pp h0]
    refine ⟨by rw [Do];exact hl,by omega,by omega,?_,fun k hk Ck=>?_⟩
    · rw [mK (by omega),pp h0,<- h.got,ek (by rw [Do];omega),aU,pp ⟨rfl,by omega⟩,List.take_set_of_le (af6 i)]
    rw [aU,rc (by omega)];exact h.rest k (by omega) Ck
  rw [rc h0,rc h0]
  refine ⟨hl,by omega,by omega,?_,fun k hk Ck=>h.rest k (by omega) Ck⟩
  rw [mK (by omega),rc h0,EQ];exact h.got
theorem G2: ∀{l:List Int},(∀x∈l,0<=x)->c9 l=l:=fun {l} h=>List.filter_eq_self.2 fun x hx=>by simpa using h x hx
theorem Ag (p:List Int) (hp:(afF p)<=1000): ∃(n:Nat) (M:List Int),bM p=afI (n,afF p,M)/\n=(c9 p).length/\afF M=afF p/\M.take n=c9 p:=by
 have key: ∀(d m:Nat),afF p-m<=d->m<=afF p->(∀k,k<m->0<=p[k]!)-> ∃(n:Nat) (M:List Int),az (bj p) (((afF p):Int),(m:Int),p)=afI (n,afF p,M)/\n=(c9 p).length/\afF M=afF p/\M.take n=c9 p:=by
  intro d;have fin: ∀m,m=afF p->(∀k,k<m->0<=p[k]!)-> ∃(n:Nat) (M:List Int),az (bj p) (((afF p):Int),(m:Int),p)=afI (n,afF p,M)/\n=(c9 p).length/\afF M=afF p/\M.take n=c9 p:=by
   intro m hm h;subst hm;have e:c9 p=p:=G2 fun x hx=>by
    obtain ⟨i,hi,rfl⟩:=aS.1 hx;exact h i hi
   refine ⟨afF p,p,aH ?_,by rw [e],rfl,by rw [NE,e]⟩
   unfold bj;simp only [aC (show¬((afF p):Int)<((afF p):Int) by omega),ol,beq_self_eq_true,lw]
  induction d with
  |zero=>exact fun m h1 h2 h=>fin m (by omega) h
  |succ d ih=>
   intro m h1 h2 h
   by_cases hm:m=afF p
   · exact fin m hm h
   by_cases h0:0<=p[m]!
   · have st:bj p (((afF p):Int),(m:Int),p)=afI (.next (((afF p):Int),((m+1:Nat):Int),p)):=by
      unfold bj jJ;simp only [aD (show (m:Int)<((afF p):Int) by omega),lw,ar p m (by omega),aj,aC (show¬p[m]!<0 by omega),ol,aR (show m<1000000000 by omega)]
     rw [ba st];refine ih (m+1) (by omega) (by omega) fun k hk=>?_
     by_cases e:k=m
     · rw [e];exact h0
     exact h k (by omega)
   have hd:II p m (m+1) p:=⟨rfl,by omega,by omega,by
    rw [mK (by omega),rc h0,EQ,G2 fun x hx=>?_]
    obtain ⟨i,hi,_,rfl⟩:=cf.1 hx;exact h i hi,fun k _ _=>rfl⟩
   obtain ⟨n,M,m1,m2,m3,m4⟩:=anb hp (afF p) m (m+1) p (by omega) hd
   refine ⟨n,M,aH ?_,m2,m3,m4⟩;unfold bj jJ;simp only [aD (show (m:Int)<((afF p):Int) by omega),lw,ar p m (by omega),aj,aD (show p[m]!<0 by omega),beq_self_eq_true,dO (show (m:Int)≠ -1 by omega),ol,aR (show m<1000000000 by omega),m1]
 unfold bM;exact key (afF p) 0 (by omega) (Nat.zero_le _) (fun k hk=>absurd hk (Nat.not_lt_zero k))
def Ci (n:Nat):Prop:= ∃i,i<7/\n=2^i
theorem Nn {n:Nat} (h1:1<=n) (h2:n<=64):Az .i64 (n:Int) ((n-1:Nat):Int)=0↔Ci n:=by
 have key: ∀k:Fin 65,1<=k.val->((Az .i64 (k.val:Int) ((k.val-1:Nat):Int)=0)↔ ∃i,i<7/\k.val=2^i):=by decide+kernel
 exact key ⟨n,by omega⟩ h1
theorem dbl {q:Nat} (h:q<=64):aa .i64 ((q:Int)*2)=((2*q:Nat):Int):=by rw [jb ⟨by omega,by omega⟩];omega
theorem Ku (i:Nat):2^(i+1)=2*2^i:=by rw [Nat.pow_succ];omega
theorem G3 {n:Nat}:tP (n:Int)=afI (afR (Ci n)):=by
 have st:=lX (body:=oH) (fun i=>((n:Int),((2^i:Nat):Int))) 7 (fun i=>n≠2^i) (r:=afK) (e:=afQ) (fun i hi=>by
  have b1:2^i<=64:=Nat.le_trans (afg (by omega) (show i<=6 by omega)) (by decide)
  unfold oH;simp only [aD (show ((2^i:Nat):Int)<=64 by omega),lw]
  by_cases h:n=2^i
  · rw [ei (by omega)];exact ⟨fun _=>rfl,fun k=>absurd h k⟩
  · rw [dO (by omega),ol,dbl b1,Ku]
    exact ⟨fun k=>absurd h k,fun _=>rfl⟩) (by
  unfold oH
  rfl)
 unfold tP;refine (show _=_ from st).trans ?_
 by_cases h:Ci n
 · obtain ⟨i,hi,e⟩:=h
   rw [rc (fun k=>k i hi e),aD ⟨i,hi,e⟩]
 rw [pp (fun i hi e=>h ⟨i,hi,e⟩),aC h]
theorem mu (f:List Pt):(iF f).length=(afF f):=M2 ..
theorem w8 {f:List Pt} {i:Nat} (h:i<afF f):(iF f)[i]! =(f[i]!).1:=by
 unfold iF;rw [getElem!_pos _ i (by rw [M2];exact h),getElem!_pos f i h,List.getElem_map]
section
variable {f : List Pt} (h64 : (afF f) <= 64)
include h64
end
theorem Pz:yg=yn:=rfl
structure pL (k:bJ):Prop where
 A9:bk k.jp
 br:Kp k.kw.aL k.kw.iU
 pow:Ci (afF k.kw.aL)
 perm:(iF k.jp.ii.am).Perm (c9 k.kw.aL)
 right:k.kw.iU=bR k.jp.ii.am k.jp.ci k.kw.aL
 cert:(k.jp.ai.ce.map fun x=>x.2).Perm (gd k.kw.aL k.kw.iU)
theorem jW {p:List Int} {x:Int}:x∈c9 p↔x∈p/\0<=x:=by unfold c9;rw [List.mem_filter];simp
theorem w9 {f:List Pt} {p w:List Int} (br:Kp p w) (pm:(iF f).Perm (c9 p)):oX f p:=by
 refine ⟨br.one,br.eN,br.once,fun x hx=>?_⟩
 have:=br.Pc x hx
 by_cases h:0<=x
 · exact .inr ⟨h,oP.1 (pm.mem_iff.2 (jW.2 ⟨hx,h⟩))⟩
 exact .inl (by omega)
theorem A5 {p:List Int} (h:zF p):(c9 p).Nodup:=by
 have go: ∀(j:Nat),j<=afF p->(c9 (p.take j)).Nodup:=by
  intro j
  induction j with
  |zero=>intro _;simp [c9]
  |succ j ih=>
   intro hj;rw [mK (by omega)]
   by_cases h0:0<=p[j]!
   · rw [pp h0]
     refine List.nodup_append.2 ⟨ih (by omega),by simp,fun a ha b hb e=>?_⟩
     obtain rfl:b=p[j]!:=by simpa using hb
     subst e;have hm:=(jW.1 ha).1;obtain ⟨i,hi,_,e⟩:=cf.1 hm
     have:=h i j hi (by omega) e
     omega
   rw [rc h0,EQ];exact ih (by omega)
 have:=go (afF p) (af6 _)
 rwa [NE] at this
theorem PA {f:List Pt} (h:fT f):(iF f).Pairwise (· <= ·):=by
 refine af4.2 fun i j hi hj lg=>?_
 rw [mu] at hi hj
 have:=dH h lg hj
 rw [<- getElem!_pos (iF f) i (by rw [mu];exact hi),<- getElem!_pos (iF f) j (by rw [mu];exact hj),w8 hi,w8 hj]
 omega
theorem No {f:List Pt} (h:fT f) (l:List Int):lD l=iF f↔(iF f).Perm l:=by
 constructor
 · intro e;rw [<- e];exact sE l
 intro pm
 exact List.Perm.eq_of_pairwise (le:=(· <= ·)) (fun a b _ _ h1 h2=>Int.le_antisymm h1 h2) (wk l) (PA h) ((sE l).trans pm.symm)
theorem Hy (l:List Int) (f:List Pt) (hl:(afF l)<=1000):cD l f ()=afI (afR (l=iF f)):=by
 unfold cD;simp only [ay]
 by_cases h:(afF l)=afF f
 case neg=>rw [cK (by omega),lw,aC (fun e=>h (by rw [e,mu]))]
 rw [bn (by omega),ol]
 have key:=lX (body:=cm) (fun i=>(f,l,((afF l):Int),(i:Int))) (afF l) (fun i=>l[i]! =(f[i]!).1) (r:=afQ) (e:=afK) (fun i hi=>by
  unfold cm sL;simp only [aD (show (i:Int)<((afF l):Int) by omega),lw,ar l i hi,ar f i (by omega),aj,aR (show i<1000000000 by omega)]
  by_cases q:l[i]! =(f[i]!).1
  · rw [ei q];exact ⟨fun w=>absurd q w,fun _=>rfl⟩
  · rw [dO q];exact ⟨fun _=>rfl,fun w=>absurd w q⟩) (by
  unfold cm;simp only [aC (show¬((afF l):Int)<((afF l):Int) by omega),ol])
 refine (show _=_ from key).trans ?_
 by_cases q:l=iF f
 · rw [pp (fun i hi=>by rw [q,w8 (by omega)]),aD q]
 rw [rc (fun w=>q (qP (by rw [mu];exact h) fun i hi=>by rw [w i hi,w8 (by omega)])),aC q]
theorem Kv (a b:List Int) (ha:(afF a)<=1000):mj a b=afI (afR (a=b)):=by
 unfold mj;simp only [ay]
 by_cases h:(afF a)=afF b
 case neg=>rw [cK (by omega),lw,aC (fun e=>h (by rw [e]))]
 rw [bn (by omega),ol]
 have key:=lX (body:=jx) (fun i=>(a,b,((afF a):Int),(i:Int))) (afF a) (fun i=>a[i]! =b[i]!) (r:=afQ) (e:=afK) (fun i hi=>by
  unfold jx;simp only [aD (show (i:Int)<((afF a):Int) by omega),lw,ar a i hi,ar b i (by omega),aj,aR (show i<1000000000 by omega)]
  by_cases q:a[i]! =b[i]!
  · rw [bn q];exact ⟨fun w=>absurd q w,fun _=>rfl⟩
  · rw [cK q];exact ⟨fun _=>rfl,fun w=>absurd w q⟩) (by
  unfold jx;simp only [aC (show¬((afF a):Int)<((afF a):Int) by omega),ol])
 refine (show _=_ from key).trans ?_
 by_cases q:a=b
 · rw [pp (fun i _=>by rw [q]),aD q]
 rw [rc (fun w=>q (qP h w)),aC q]
theorem Np {n:Nat} {M:List Int} (hn:n<=afF M) (hm:(afF M)<=1000):y4 Jk n M=afI (lD (M.take n)++M.drop n):=by
 unfold y4 Dv Jk;rw [pp hn,pp (by rw [F0s];omega)]
 simp only [rY,if_true,Option.map_some]
theorem IJ {c:aP} (ok:bk c) {es:List (Int×Int)} (_nd:es.Nodup):(afF es=afF c.ai.ce/\ ∀i,i<afF c.ai.ce->(c.ai.ce[i]!).2∈es)↔(c.ai.ce.map fun x=>x.2).Perm es:=by
 have cl:(c.ai.ce.map fun x=>x.2).length=(afF c.ai.ce):=M2 ..
 constructor
 · rintro ⟨h1,h2⟩
   exact ni (yF ok.uO) (fun x hx=>by
    obtain ⟨i,hi,rfl⟩:=mJ.2 hx;exact h2 i hi) (by omega)
 intro h
 exact ⟨by rw [<- h.length_eq,cl],fun i hi=>h.mem_iff.1 (mJ.1 ⟨i,hi,rfl⟩)⟩
theorem Ed {k:bJ} (fit:oO k.jp) (hl:(afF k.kw.aL)<=1000) (wl:(afF k.kw.iU)<=1000):ky k=afI (if pL k then 0 else 8):=by
 unfold ky;rw [lW fit,aj]
 by_cases ok:bk k.jp
 case neg=>rw [rc ok,rc (fun h=>ok h.A9)];rfl
 rw [pp ok,bn rfl,ol,show mG k.kw=_ from Dg k.kw.aL k.kw.iU hl wl,aj]
 by_cases br:Kp k.kw.aL k.kw.iU
 case neg=>rw [rc br,rc (fun h=>br h.br)];rfl
 have b1:=br.one;have b2:=br.eN;rw [pp br,bn rfl,ol,ay,mT (by omega) b1]
 by_cases pw:Ci (afF k.kw.aL)
 case neg=>rw [cK (fun h=>pw ((Nn b1 b2).1 h)),lw,rc (fun h=>pw h.pow)]
 rw [bn ((Nn b1 b2).2 pw),ol,aZ (by omega),aj]
 obtain ⟨n,M,e1,e2,e3,e4⟩:=Ag k.kw.aL hl;have nl:n<=(afF M):=by
  have:=ae9 (fun x:Int=>decide (0<=x)) k.kw.aL
  rw [e2,e3];exact this
 have tk:(lD (M.take n)++M.drop n).take n=lD (c9 k.kw.aL):=by
  rw [IR (by rw [rY,F0s];omega),afc (by rw [rY,F0s];omega),e4]
 have ll:(lD (M.take n)++M.drop n).length=(afF M):=by rw [v6,rY,F0s,afk];omega
 have fe:k.jp.ii=⟨k.jp.ii.am⟩:=rfl;rw [e1,aj];dsimp only;rw [Np nl (by omega),aj,ll,beq_self_eq_true,lw,tk,Hy _ _ (by rw [rY];omega),aj]
 by_cases pm:(iF k.jp.ii.am).Perm (c9 k.kw.aL)
 case neg=>rw [aC (fun h=>pm ((No ok.ie.2.2 _).1 h)),rc (fun h=>pm h.perm)];rfl
 have pl:=w9 br pm;rw [aD ((No ok.ie.2.2 _).2 pm),If,ol,fe,G1 ok.ie ok.pG ok.gF pl,aj];dsimp only;obtain ⟨_,nd,el⟩:=lY ok.ie ok.gF (t:=k.jp.ci) pl;have R:=ew (f:=k.jp.ii.am) (t:=k.jp.ci) pl.one;rw [Kv _ _ (by have:=R.1;omega),aj]
 by_cases hw:bR k.jp.ii.am k.jp.ci k.kw.aL=k.kw.iU
 case neg=>rw [aC hw,rc (fun h=>hw h.right.symm)];rfl
 rw [aD hw,If,ol,Pz,aeT _ _ (by omega) (by have:=ok.bd;omega),aj]
 by_cases hc:(k.jp.ai.ce.map fun x=>x.2).Perm (gd k.kw.aL (bR k.jp.ii.am k.jp.ci k.kw.aL))
 · rw [aD ((IJ ok nd).2 hc),pp ⟨ok,br,pw,pm,hw.symm,by rw [<- hw];exact hc⟩];rfl
 rw [aC (fun h=>hc ((IJ ok nd).1 h)),rc (fun h=>hc (by rw [hw];exact h.cert))];rfl
theorem G4 {f:List Pt} (cS:bw f) (p:List Int) (hp:(afF p)<=1000):tQ ⟨f⟩ p=afI (afR (∀i,i<afF p->p[i]! = -1\/fh f p[i]!)):=by
 have st:=lX (body:=oI) (fun i=>(p,(i:Int),f)) (afF p) (fun i=>p[i]! = -1\/fh f p[i]!) (r:=afQ) (e:=afK) (fun i hi=>by
  unfold oI;simp only [ay,aD (show (i:Int)<((afF p):Int) by omega),lw,ar p i hi,aj,aR (show i<1000000000 by omega)]
  by_cases h:p[i]! = -1
  · rw [bn h];exact ⟨fun k=>absurd (.inl h) k,fun _=>rfl⟩
  · rw [cK h,lw]
    by_cases h2:fh f p[i]!
    · obtain ⟨m,_,e,_⟩:=uK cS h2
      rw [e,aj,aC (by omega)];exact ⟨fun k=>absurd (.inr h2) k,fun _=>rfl⟩
    rw [yB cS h2,aj]
    exact ⟨fun _=>rfl,fun k=>by rcases k with k|k;exact absurd k h;exact absurd k h2⟩) (by
  unfold oI;simp only [ay,aC (show¬((afF p):Int)<((afF p):Int) by omega),ol])
 unfold tQ;refine (show _=_ from st).trans ?_
 by_cases h: ∀i,i<afF p->p[i]! = -1\/fh f p[i]!
 · rw [pp h,aD h]
 rw [rc h,aC h]
theorem Hz {f:List Pt} (cS:bw f) {t:Int×Int} (yu:o4 t) {p w:List Int} (br:Kp p w) (pl:oX f p):sS ⟨p,w⟩ ⟨f⟩ t=afI (afR (w=bR f t p)):=by
 have b2:=br.eN;have b3:=br.len;have st:=lX (body:=p8) (fun i=>((i:Int),p,w,f,t)) (afF w) (fun i=>w[i]! =vG f t (bA p w (2*i+1)) (bA p w (2*i+2))) (r:=afQ) (e:=afK) (fun i hi=>by
  have k1:=nj (i:=i) (by omega) 1 (by omega)
  have k2:=nj (i:=i) (by omega) 2 (by omega)
  unfold p8;simp only [ay,aD (show (i:Int)<((afF w):Int) by omega),lw,show aa .i64 (aa .i64 (2*(i:Int))+1)=((2*i+1:Nat):Int) from k1,show aa .i64 (aa .i64 (2*(i:Int))+2)=((2*i+2:Nat):Int) from k2,
   nP (p:=p) (w:=w) (i:=2*i+1) (by omega) (by omega),nP (p:=p) (w:=w) (i:=2*i+2) (by omega) (by omega),aj,ar w i hi,aR (show i<1000000000 by omega),
   Cf cS yu (pl.ids _ (jV b3 br.cho (i:=2*i+1) (by omega))) (pl.ids _ (jV b3 br.cho (i:=2*i+2) (by omega)))]
  by_cases h:w[i]! =vG f t (bA p w (2*i+1)) (bA p w (2*i+2))
  · rw [bn h];exact ⟨fun k=>absurd h k,fun _=>rfl⟩
  · rw [cK h];exact ⟨fun _=>rfl,fun k=>absurd k h⟩) (by
  unfold p8;simp only [ay,aC (show¬((afF w):Int)<((afF w):Int) by omega),ol])
 unfold sS;refine (show _=_ from st).trans ?_;have R:=ew (f:=f) (t:=t) pl.one
 by_cases h:w=bR f t p
 · rw [pp (by rw [h];exact R.2),aD h]
 rw [rc (fun k=>h (S5 ⟨b3,k⟩ R)),aC h]
theorem Nq {f:List Pt} (cS:bw f) {t:Int×Int} {p:List Int} (pl:oX f p) {e:Int×Int} (he:e∈gd p (bR f t p)):leads (fX f e.2) (fX f e.1) t:=by
 have R:=ew (f:=f) (t:=t) pl.one;have R1:=R.1;obtain ⟨i,hi,h⟩:=GN.1 he;obtain ⟨a1,a2,a3⟩:=wZ h;have ne:=EC R.1 R.uN pl.once hi a1;have hx:=(pl.ids _ (jV R.1 R.uN (i:=2*i+1) (by omega))).has a1
 have hy:=(pl.ids _ (jV R.1 R.uN (i:=2*i+2) (by omega))).has a2
 have wv:=R.2 i hi;unfold vG at wv;rw [rc (by omega),rc (by omega)] at wv
 by_cases ld:leads (fX f (bA p (bR f t p) (2*i+1))) (fX f (bA p (bR f t p) (2*i+2))) t
 · rw [pp ld] at wv
   rcases a3 with ⟨rfl,_⟩|⟨_,h⟩
   · exact ld
   exact absurd wv h
 rw [rc ld] at wv
 rcases a3 with ⟨_,h⟩|⟨rfl,_⟩
 · rw [wv] at h;exact absurd h.symm ne
 exact yG t (by rw [(eY cS hx).2,(eY cS hy).2];exact ne) ld
theorem yL {k:bJ} (fit:oO k.jp) (hl:(afF k.kw.aL)<=1000) (wl:(afF k.kw.iU)<=1000):ke k=afI (if pL k then 0 else 8):=by
 unfold ke;rw [yC fit,aj]
 by_cases ok:bk k.jp
 case neg=>rw [rc ok,rc (fun h=>ok h.A9)];rfl
 rw [pp ok,bn rfl,ol,show qN k.kw=_ from G0 k.kw.aL k.kw.iU hl wl,aj]
 by_cases br:Kp k.kw.aL k.kw.iU
 case neg=>rw [rc br,rc (fun h=>br h.br)];rfl
 have b1:=br.one;have b2:=br.eN;rw [pp br,bn rfl,ol,ay,G3,aj]
 by_cases pw:Ci (afF k.kw.aL)
 case neg=>rw [aC pw,rc (fun h=>pw h.pow)];rfl
 have fe:k.jp.ii=⟨k.jp.ii.am⟩:=rfl;rw [aD pw,If,ol,fe,G4 ok.ie _ hl,aj]
 by_cases pm:(iF k.jp.ii.am).Perm (c9 k.kw.aL)
 case neg=>
  by_cases kn: ∀i,i<afF k.kw.aL->k.kw.aL[i]! = -1\/fh k.jp.ii.am k.kw.aL[i]!
  case neg=>rw [aC kn,rc (fun h=>pm h.perm)];rfl
  rw [aD kn,If,ol,Ch _ hl,aj,ay,ay,rc (fun h=>pm h.perm)]
  rw [cK (fun h=>pm ?_)]
  · rfl
  have h:((c9 k.kw.aL).length:Int)=((afF k.jp.ii.am):Int):=h;refine (ni (A5 br.once) (fun x hx=>?_) (by rw [mu];omega)).symm
  obtain ⟨h1,h2⟩:=jW.1 hx;obtain ⟨i,hi,rfl⟩:=aS.1 h1;rcases kn i hi with e|e
  · omega
  exact oP.2 e
 have pl:=w9 br pm;have kn: ∀i,i<afF k.kw.aL->k.kw.aL[i]! = -1\/fh k.jp.ii.am k.kw.aL[i]!:=fun i hi=>by
  rcases pl.ids _ (aX hi) with e|e
  · exact .inl e
  exact .inr e.2
 rw [aD kn,If,ol,Ch _ hl,aj,ay,ay,bn (by rw [<- pm.length_eq,mu]),ol,show sS k.kw ⟨k.jp.ii.am⟩ k.jp.ci=_ from Hz ok.ie ok.gF br pl,aj]
 by_cases hw:k.kw.iU=bR k.jp.ii.am k.jp.ci k.kw.aL
 case neg=>rw [aC hw,rc (fun h=>hw h.right)];rfl
 obtain ⟨DS,nd,el⟩:=lY ok.ie ok.gF (t:=k.jp.ci) pl;rw [aD hw,If,ol,show vt k.kw=_ from DX br.len b2,aj];rw [hw];rw [Rj ok _ DS.kn,aj]
 by_cases hc:(k.jp.ai.ce.map fun x=>x.2).Perm (gd k.kw.aL (bR k.jp.ii.am k.jp.ci k.kw.aL))
 · rw [aD (show _/\_ from ⟨by rw [<- hc.length_eq,M2],fun i hi=>⟨mJ.2 (hc.mem_iff.2 (aX hi)),Nq ok.ie pl (aX hi)⟩⟩),pp ⟨ok,br,pw,pm,hw,by rw [hw];exact hc⟩];rfl
 rw [aC (fun h=>hc ?_),rc (fun h=>hc (by have:=h.cert;rw [hw] at this;exact this))]
 · rfl
 have cl:(k.jp.ai.ce.map fun x=>x.2).length=(afF k.jp.ai.ce):=M2 ..
 refine (ni nd (fun x hx=>?_) (by omega)).symm
 obtain ⟨i,hi,rfl⟩:=aS.1 hx;exact mJ.1 (h.2 i hi).1
section
variable {f : List Pt} (cS : bw f) {t : Int × Int} {p w : List Int} (pl : oX f p) (R : GL f t p w)
include cS pl R
end
theorem PB: ∀e,e<=6->bQ [-1] ((2^e:Nat):Int)=afI (ut (2^e) (-1)):=by
 have go: ∀(n:Nat) (m:Nat),n<1000->aa .u64 (n:Int)=(n:Int)->(2^m=n)->eZ (aa .u64 (afb ([-1]:List Int).length)) (aa .u64 (n:Int))=afI (0,(n:Int)):=fun n m hn h _=>by
  rw [show aa .u64 (afb ([-1]:List Int).length)=1 from by kernel_rfl,h,yp ⟨by decide,by decide⟩ ⟨by omega,by omega⟩]
  have e1:(1*(n:Int)) / 18446744073709551616=0:=by omega
  have e2:(1*(n:Int))%18446744073709551616=(n:Int):=by omega
  rw [e1,e2]
 intro e he;have he:e=0\/e=1\/e=2\/e=3\/e=4\/e=5\/e=6:=by omega
 rcases he with rfl|rfl|rfl|rfl|rfl|rfl|rfl
 · unfold bQ fF;rw [go 1 0 (by omega) (by kernel_rfl) rfl];exact (by kernel_rfl:_=az aG (1,-1::ut 0 0)).trans (aY.2 ⟨20,by kernel_rfl⟩)
 · unfold bQ fF;rw [go 2 1 (by omega) (by kernel_rfl) rfl];exact (by kernel_rfl:_=az aG (1,-1::ut 1 0)).trans (aY.2 ⟨20,by kernel_rfl⟩)
 · unfold bQ fF;rw [go 4 2 (by omega) (by kernel_rfl) rfl];exact (by kernel_rfl:_=az aG (1,-1::ut 3 0)).trans (aY.2 ⟨20,by kernel_rfl⟩)
 · unfold bQ fF;rw [go 8 3 (by omega) (by kernel_rfl) rfl];exact (by kernel_rfl:_=az aG (1,-1::ut 7 0)).trans (aY.2 ⟨20,by kernel_rfl⟩)
 · unfold bQ fF;rw [go 16 4 (by omega) (by kernel_rfl) rfl];exact (by kernel_rfl:_=az aG (1,-1::ut 15 0)).trans (aY.2 ⟨20,by kernel_rfl⟩)
 · unfold bQ fF;rw [go 32 5 (by omega) (by kernel_rfl) rfl];exact (by kernel_rfl:_=az aG (1,-1::ut 31 0)).trans (aY.2 ⟨20,by kernel_rfl⟩)
 unfold bQ fF;rw [go 64 6 (by omega) (by kernel_rfl) rfl];exact (by kernel_rfl:_=az aG (1,-1::ut 63 0)).trans (aY.2 ⟨20,by kernel_rfl⟩)
structure xa (k:bJ):Prop where
 c:M6 k.jp
 p:(afF k.kw.aL)<=1000
 w:(afF k.kw.iU)<=1000
theorem PC {k:bJ} (h:xa k):kB k k=afI afK:=by
 have h1:=h.p;have h2:=h.w;unfold kB AW;rw [Pr h.c,aj,lw,Ng _ (by omega),aj,lw,Ng _ (by omega),aj,aj]
theorem Nr (k:bJ):qK k=afI afK\/(qK k=afI afQ/\xa k):=by
 unfold qK yk
 rcases M' k.jp with e|⟨e,sh⟩
 · rw [e];exact .inl rfl
 rw [e,aj,ol];simp only [ay]
 by_cases h:70<afF k.kw.aL
 · rw [aD (by omega)];exact .inl rfl
 rw [aC (by omega),ol,aj]
 by_cases h2:70<afF k.kw.iU
 · rw [aD (by omega)];exact .inl rfl
 rw [aC (by omega)];exact .inr ⟨rfl,sh,by omega,by omega⟩
theorem WA.short {c:aP} {f:List Pt} {p:List Int} {k:bJ} (pl:oX f p) (h:WA c f p k):xa k:=by
 have R:=ew (f:=f) (t:=c.ci) pl.one;have b2:=pl.eN;have b3:=R.1;refine ⟨h.zH.ok.short,by rw [h.aL];show (afF p)<=1000;omega,by rw [h.aL];show (bR f c.ci p).length<=1000;omega⟩
theorem pL.fit (k:bJ) (n:M8 k.jp) (sh:xa k):oO k.jp:=⟨n.ci,⟨sh.c.s3,sh.c.h,sh.c.w,n.Ph⟩,sh.c.d⟩
structure arT (c:aP) (l:List Int):Prop where
 ok:bk c
 pm:(iF c.ii.am).Perm l
 ct:(c.ai.ce.map fun x=>x.2).Perm (iE l)
theorem arT.bd {c:aP} {l:List Int} (h:arT c l):(afF l)<=64:=by
 have:=h.ok.bd
 have:(afF l)=(afF c.ii.am):=by rw [<- h.pm.length_eq];exact M2 ..
 omega
structure arU (f:List Pt) (p:List Int) (to:Int×Int) (k:bJ):Prop where
 A9:bk k.jp
 ie:k.jp.ii.am=f
 ci:k.jp.ci=to
 br:k.kw=⟨p,bR f to p⟩
 cert:(k.jp.ai.ce.map fun x=>x.2).Perm (gd p (bR f to p))
 io: ¬Due k.jp to
theorem WC (l:List Int) (x:Int) (hl:(afF l)<=1000) (h1:1<=afF l):az mH (l,l++[x])=afI (.done (l++[x]++ut (afF l-1) (-1))):=by
 have key:=bF (body:=mH) (fun j=>(l,l++[x]++ut j (-1))) (afF l-1) (fun j hj=>by
  unfold mH;have e:aa .i64 (2*((afF l):Int))=2*((afF l):Int):=jb ⟨by omega,by omega⟩
  simp only [ay,v6,ww,AC,e];rw [aD (show ((afF l+1+j:Nat):Int)<2*((afF l):Int) by omega),lw,bT (by simp;omega),aj,af5 (l++[x]),<- List.replicate_succ'])
 rw [List.replicate_zero,EQ] at key;rw [key];refine aH ?_;unfold mH;have e:aa .i64 (2*((afF l):Int))=2*((afF l):Int):=jb ⟨by omega,by omega⟩
 simp only [ay,v6,ww,AC,e];rw [aC (show¬((afF l+1+(afF l-1):Nat):Int)<2*((afF l):Int) by omega),ol]
inductive DY (l:List Int) (x:Int):List Int->Prop
 |at_ (k:Nat) (hk:k<afF l) (e:l[k]! = -1) (h: ∀j,j<k->l[j]!≠ -1) (hi:fv l (-1)=afI (k:Int)):DY l x (l.set k x)
 |end_ (h: ∀j,j<afF l->l[j]!≠ -1) (hi:fv l (-1)=afI (-1)):DY l x (l++[x]++ut (afF l-1) (-1))
theorem aeY {l:List Int} (h1:1<=afF l) (hl:(afF l)<=1000) (hr: ∀x∈l,-1<=x) (x:Int): ∃m,Gc l x=afI m/\DY l x m:=by
 have neg: ∀j,j<afF l->(l[j]!<0↔l[j]! = -1):=fun j hj=>by
  have:=hr _ (aX hj)
  omega
 unfold Gc;rw [aZ (by omega),aj]
 have key:=hO (body:=qf) (fun i=>(l,x,(i:Int),l)) (afF l) (fun i=>l[i]!<0) (fun i=>l.set i x) (e:=l++[x]++ut (afF l-1) (-1)) (fun i hi=>by
  unfold qf;simp only [ay,aD (show (i:Int)<((afF l):Int) by omega),lw,ar l i hi,aj,aR (show i<1000000000 by omega),kM]
  refine ⟨fun h=>?_,fun h=>?_⟩
  · rw [aD h];rfl
  · rw [aC h];rfl) (by
  unfold qf;simp only [ay,aC (show¬((afF l):Int)<((afF l):Int) by omega),ol]
  rw [bT (by simp;omega),aj]
  exact WC l _ (by omega) (by omega))
 have ix:=Nb l (-1) (by omega)
 by_cases h: ∃i,i<afF l/\l[i]!<0
 · obtain ⟨k,k1,k2,k3⟩:=least h
   have k3': ∀j,j<k->l[j]!≠ -1:=fun j hj e=>k3 j hj ((neg j (by omega)).2 e)
   exact ⟨_,key.1 k k1 k2 k3,.at_ k k1 ((neg k k1).1 k2) k3' (ix.1 k k1 ((neg k k1).1 k2) k3')⟩
 have h': ∀i,i<afF l-> ¬l[i]!<0:=fun i hi hx=>h ⟨i,hi,hx⟩
 have h2: ∀j,j<afF l->l[j]!≠ -1:=fun j hj e=>h' j hj ((neg j hj).2 e)
 exact ⟨_,key.2 h',.end_ h2 (ix.2 h2)⟩
theorem aeZ {f:List Pt} {m:Nat} {p:Pt} {x:Int} (h:fh f x):fh (oQ f m p) x:=by
 obtain ⟨i,hi,rfl⟩:=h;obtain ⟨j,hj,e⟩:=aS.1 (Kn (m:=m) (p:=p).2 (.inr (aX hi)));exact ⟨j,hj,by rw [e]⟩
theorem Rm (f:List Pt) (m:Nat) (p:Pt):fh (oQ f m p) p.1:=by
 obtain ⟨j,hj,e⟩:=aS.1 (Kn (f:=f) (m:=m) (p:=p).2 (.inl rfl));exact ⟨j,hj,by rw [e]⟩
theorem Ec.ins {f:List Pt} {m:Nat} {p:Pt} {x:Int} (h:Ec f x):Ec (oQ f m p) x:=h.imp id fun h=>⟨h.1,aeZ h.2⟩
theorem PD {f:List Pt} {l:List Int} (pl:oX f l) {p:Pt} (p0:0<=p.1) (nh: ¬fh f p.1) {m:Nat} (h32:(∀j,j<afF l->l[j]!≠ -1)->afF l<=32) {q:List Int} (h:DY l p.1 q):oX (oQ f m p) q:=by
 have one:=pl.one;have eN:=pl.eN;have ne: ∀j,j<afF l->l[j]!≠p.1:=fun j hj e=>by
  rcases pl.ids _ (aX hj) with h|h
  · omega
  exact nh (e▸h.2)
 cases h with
 |at_ k hk e h hi=>
  refine ⟨by rw [Do];exact one,by rw [Do];exact eN,fun i j lg hj he=>?_,fun x hx=>?_⟩
  · rw [Do] at hj
    rw [aU,aU] at he;rw [aU]
    by_cases a:i=k
    · rw [pp ⟨a,by omega⟩,rc (by omega)] at he
      exact absurd he.symm (ne j hj)
    rw [rc (fun h=>a h.1)] at he ⊢
    by_cases b:j=k
    · rw [pp ⟨b,by omega⟩] at he
      exact absurd he (ne i (by omega))
    rw [rc (fun h=>b h.1)] at he
    exact pl.once i j lg hj he
  rcases List.mem_or_eq_of_mem_set hx with h|h
  · exact (pl.ids x h).ins
  subst h;exact .inr ⟨p0,Rm f m p⟩
 |end_ h hi=>
  have h32:=h32 h;have ll:(l++[p.1]++ut (afF l-1) (-1:Int)).length=2*(afF l):=by
   rw [v6,v6,ww,AC];omega
  have g1: ∀i,i<afF l->(l++[p.1]++ut (afF l-1) (-1:Int))[i]! =l[i]!:=fun i hi=>by
   rw [de (by rw [v6];omega),de hi]
  have g2:(l++[p.1]++ut (afF l-1) (-1:Int))[afF l]! =p.1:=by
   rw [de (by rw [v6,ww];omega),ej (af6 _),afo];rfl
  have g3: ∀i,afF l<i->i<2*afF l->(l++[p.1]++ut (afF l-1) (-1:Int))[i]! = -1:=fun i h1 h2=>by
   rw [ej (by rw [v6,ww];omega)]
   rw [v6,ww]
   have:=aX (l:=ut (afF l-1) (-1:Int)) (i:=i- (afF l+1)) (by rw [AC];omega)
   exact (PP.1 this).2
  refine ⟨by rw [ll];omega,by rw [ll];omega,fun i j lg hj he=>?_,fun x hx=>?_⟩
  · rw [ll] at hj
    rcases adc i (afF l) with a|a|a
    · rw [g1 i a] at he ⊢
      rcases adc j (afF l) with b|b|b
      · rw [g1 j b] at he;exact pl.once i j lg b he
      · rw [b,g2] at he;exact absurd he (ne i a)
      rw [g3 j b hj] at he;omega
    · rw [a,g2,g3 j (by omega) hj] at he;omega
    rw [g3 i a (by omega)];omega
  rcases aff.1 hx with hx|hx
  · rcases aff.1 hx with hx|hx
    · exact (pl.ids x hx).ins
    obtain rfl:=List.mem_singleton.1 hx
    exact .inr ⟨p0,Rm f m p⟩
  exact .inl (PP.1 hx).2
theorem pL.aL {k:bJ} (ok:pL k):oX k.jp.ii.am k.kw.aL:=w9 ok.br ok.perm
theorem ae0 {k:bJ} (ok:pL k) (dI:(afF k.jp.ii.am)<64) (h: ∀j,j<afF k.kw.aL->k.kw.aL[j]!≠ -1):(afF k.kw.aL)<=32:=by
 have all:c9 k.kw.aL=k.kw.aL:=G2 fun x hx=>by
  obtain ⟨j,hj,rfl⟩:=aS.1 hx
  have:=h j hj
  rcases ok.aL.ids _ (aX hj) with e|e
  · exact absurd e this
  exact e.1
 have e:=ok.perm.length_eq;rw [all,mu] at e;obtain ⟨i,hi,hp⟩:=ok.pow
 have:i<=5:=by
  rcases afE i 6 with h|h
  · omega
  obtain rfl:i=6:=by omega
  omega
 have:=afg (show 0<2 by omega) this
 omega
section
variable {k : bJ} (n : M8 k.jp) (sh : xa k)
include n sh
end
def xt (l:List Int) (k:Nat):List Int:=
 if 1<afF l/\4*(c9 (l.set k (-1))).length<=(afF l) then c9 (l.set k (-1))++ut ((afF l) / 2- (c9 (l.set k (-1))).length) (-1) else l.set k (-1)
theorem Tb: ∀m:Nat,1<=m->m<=32->bQ [-1] (m:Int)=afI (ut m (-1)):=by
 intro m h1 h2;have go:aa .u64 (m:Int)=(m:Int)->eZ (aa .u64 (afb ([-1]:List Int).length)) (aa .u64 (m:Int))=afI (0,(m:Int)):=fun h=>by
  rw [show aa .u64 (afb ([-1]:List Int).length)=1 from by kernel_rfl,h,yp ⟨by decide,by decide⟩ ⟨by omega,by omega⟩]
  have e1:(1*(m:Int)) / 18446744073709551616=0:=by omega
  have e2:(1*(m:Int))%18446744073709551616=(m:Int):=by omega
  rw [e1,e2]
 have cs: ∀j,j<32->m=j+1->bQ [-1] (m:Int)=afI (ut m (-1)):=by
  intro j hj e;subst e
  have:j=0\/j=1\/j=2\/j=3\/j=4\/j=5\/j=6\/j=7\/j=8\/j=9\/j=10\/j=11\/j=12\/j=13\/j=14\/j=15\/j=16\/j=17\/j=18\/j=19\/j=20\/j=21\/j=22\/j=23\/j=24\/j=25\/j=26\/j=27\/j=28\/j=29\/j=30\/j=31:=by omega
  rcases this with rfl|rfl|rfl|rfl|rfl|rfl|rfl|rfl|rfl|rfl|rfl|rfl|rfl|rfl|rfl|rfl|rfl|rfl|rfl|rfl|rfl|rfl|rfl|rfl|rfl|rfl|rfl|rfl|rfl|rfl|rfl|rfl
  all_goals (unfold bQ fF;rw [go (by kernel_rfl)])
  · exact (by kernel_rfl:_=az aG (1,-1::ut 0 0)).trans (aY.2 ⟨20,by kernel_rfl⟩)
  · exact (by kernel_rfl:_=az aG (1,-1::ut 1 0)).trans (aY.2 ⟨20,by kernel_rfl⟩)
  · exact (by kernel_rfl:_=az aG (1,-1::ut 2 0)).trans (aY.2 ⟨20,by kernel_rfl⟩)
  · exact (by kernel_rfl:_=az aG (1,-1::ut 3 0)).trans (aY.2 ⟨20,by kernel_rfl⟩)
  · exact (by kernel_rfl:_=az aG (1,-1::ut 4 0)).trans (aY.2 ⟨20,by kernel_rfl⟩)
  · exact (by kernel_rfl:_=az aG (1,-1::ut 5 0)).trans (aY.2 ⟨20,by kernel_rfl⟩)
  · exact (by kernel_rfl:_=az aG (1,-1::ut 6 0)).trans (aY.2 ⟨20,by kernel_rfl⟩)
  · exact (by kernel_rfl:_=az aG (1,-1::ut 7 0)).trans (aY.2 ⟨20,by kernel_rfl⟩)
  · exact (by kernel_rfl:_=az aG (1,-1::ut 8 0)).trans (aY.2 ⟨20,by kernel_rfl⟩)
  · exact (by kernel_rfl:_=az aG (1,-1::ut 9 0)).trans (aY.2 ⟨20,by kernel_rfl⟩)
  · exact (by kernel_rfl:_=az aG (1,-1::ut 10 0)).trans (aY.2 ⟨20,by kernel_rfl⟩)
  · exact (by kernel_rfl:_=az aG (1,-1::ut 11 0)).trans (aY.2 ⟨20,by kernel_rfl⟩)
  · exact (by kernel_rfl:_=az aG (1,-1::ut 12 0)).trans (aY.2 ⟨20,by kernel_rfl⟩)
  · exact (by kernel_rfl:_=az aG (1,-1::ut 13 0)).trans (aY.2 ⟨20,by kernel_rfl⟩)
  · exact (by kernel_rfl:_=az aG (1,-1::ut 14 0)).trans (aY.2 ⟨20,by kernel_rfl⟩)
  · exact (by kernel_rfl:_=az aG (1,-1::ut 15 0)).trans (aY.2 ⟨20,by kernel_rfl⟩)
  · exact (by kernel_rfl:_=az aG (1,-1::ut 16 0)).trans (aY.2 ⟨20,by kernel_rfl⟩)
  · exact (by kernel_rfl:_=az aG (1,-1::ut 17 0)).trans (aY.2 ⟨20,by kernel_rfl⟩)
  · exact (by kernel_rfl:_=az aG (1,-1::ut 18 0)).trans (aY.2 ⟨20,by kernel_rfl⟩)
  · exact (by kernel_rfl:_=az aG (1,-1::ut 19 0)).trans (aY.2 ⟨20,by kernel_rfl⟩)
  · exact (by kernel_rfl:_=az aG (1,-1::ut 20 0)).trans (aY.2 ⟨20,by kernel_rfl⟩)
  · exact (by kernel_rfl:_=az aG (1,-1::ut 21 0)).trans (aY.2 ⟨20,by kernel_rfl⟩)
  · exact (by kernel_rfl:_=az aG (1,-1::ut 22 0)).trans (aY.2 ⟨20,by kernel_rfl⟩)
  · exact (by kernel_rfl:_=az aG (1,-1::ut 23 0)).trans (aY.2 ⟨20,by kernel_rfl⟩)
  · exact (by kernel_rfl:_=az aG (1,-1::ut 24 0)).trans (aY.2 ⟨20,by kernel_rfl⟩)
  · exact (by kernel_rfl:_=az aG (1,-1::ut 25 0)).trans (aY.2 ⟨20,by kernel_rfl⟩)
  · exact (by kernel_rfl:_=az aG (1,-1::ut 26 0)).trans (aY.2 ⟨20,by kernel_rfl⟩)
  · exact (by kernel_rfl:_=az aG (1,-1::ut 27 0)).trans (aY.2 ⟨20,by kernel_rfl⟩)
  · exact (by kernel_rfl:_=az aG (1,-1::ut 28 0)).trans (aY.2 ⟨20,by kernel_rfl⟩)
  · exact (by kernel_rfl:_=az aG (1,-1::ut 29 0)).trans (aY.2 ⟨20,by kernel_rfl⟩)
  · exact (by kernel_rfl:_=az aG (1,-1::ut 30 0)).trans (aY.2 ⟨20,by kernel_rfl⟩)
  exact (by kernel_rfl:_=az aG (1,-1::ut 31 0)).trans (aY.2 ⟨20,by kernel_rfl⟩)
 exact cs (m-1) (by omega) (by omega)
theorem Tc {l:List Int} {k:Nat} (hk:k<afF l) (h0:0<=l[k]!):(c9 (l.set k (-1))).length+1=(c9 l).length:=by
 have e1:l=l.take k++l[k]!::l.drop (k+1):=by
  conv=>lhs;rw [<- List.take_append_drop k l,List.drop_eq_getElem_cons hk]
  rw [getElem!_pos l k hk]
 have e2:l.set k (-1)=l.take k++(-1)::l.drop (k+1):=by
  rw [List.set_eq_take_append_cons_drop,pp hk]
 have f1:(c9 l).length=((l.take k).filter fun x=>decide (0<=x)).length+(((l.drop (k+1)).filter fun x=>decide (0<=x)).length+1):=by
  unfold c9
  conv=>lhs;rw [e1]
  rw [af2,v6,af7 (by simpa using h0),List.length_cons]
 have f2:(c9 (l.set k (-1))).length=((l.take k).filter fun x=>decide (0<=x)).length+((l.drop (k+1)).filter fun x=>decide (0<=x)).length:=by
  unfold c9;rw [e2,af2,v6,afa (by decide)]
 omega
theorem Td {f:List Pt} (hs:fT f) {q:Nat} (hq:q<afF f) {x:Int} (h:fh f x) (dW:x≠(f[q]!).1):fh (f.eraseIdx q) x:=by
 obtain ⟨i,hi,rfl⟩:=h;obtain ⟨j,hj,e⟩:=aS.1 ((IF hs hq).2 ⟨aX hi,dW⟩);exact ⟨j,hj,by rw [e]⟩
theorem PE {f f':List Pt} {l:List Int} (pl:oX f l) {k:Nat} (hk:k<afF l) (h0:0<=l[k]!) (has: ∀x,fh f x->x≠l[k]!->fh f' x):oX f' (l.set k (-1)):=by
 refine ⟨by rw [Do];exact pl.one,by rw [Do];exact pl.eN,fun i j lg hj he=>?_,fun x hx=>?_⟩
 · rw [Do] at hj
   rw [aU,aU] at he;rw [aU]
   by_cases a:i=k
   · rw [pp ⟨a,by omega⟩];omega
   rw [rc (fun h=>a h.1)] at he ⊢
   by_cases b:j=k
   · rw [pp ⟨b,by omega⟩] at he;omega
   rw [rc (fun h=>b h.1)] at he;exact pl.once i j lg hj he
 obtain ⟨i,hi,rfl⟩:=aS.1 hx
 rw [Do] at hi;rw [aU]
 by_cases a:i=k
 · rw [pp ⟨a,by omega⟩];exact .inl rfl
 rw [rc (fun h=>a h.1)]
 refine (pl.ids _ (aX hi)).imp id fun h=>⟨h.1,has _ h.2 fun e=>a (pl.once.inj hi hk e h.1)⟩
theorem Ns {f f':List Pt} {l:List Int} (pl:oX f l) {k:Nat} (hk:k<afF l) (h0:0<=l[k]!) (has: ∀x,fh f x->x≠l[k]!->fh f' x):oX f' (xt l k):=by
 have sp:=PE pl hk h0 has;unfold xt;split
 · rename_i h
   have nd:=A5 sp.once;have eN:=pl.eN;obtain ⟨A,hA⟩: ∃A,A=c9 (l.set k (-1)):=⟨_,rfl⟩;rw [<- hA] at h nd ⊢;have An: ∀x∈A,0<=x:=fun x hx=>(jW.1 (hA▸hx)).2
   have ll:(A++ut ((afF l) / 2-(afF A)) (-1:Int)).length=(afF l) / 2:=by
    rw [v6,AC];omega
   have g3: ∀i,afF A<=i->i<(afF l) / 2->(A++ut ((afF l) / 2-(afF A)) (-1:Int))[i]! = -1:=fun i h1 h2=>by
    rw [ej h1]
    have:=aX (l:=ut ((afF l) / 2-(afF A)) (-1:Int)) (i:=i-(afF A)) (by rw [AC];omega)
    exact (PP.1 this).2
   refine ⟨by rw [ll];omega,by rw [ll];omega,fun i j lg hj he=>?_,fun x hx=>?_⟩
   · rw [ll] at hj
     by_cases a:i<afF A
     · rw [de a] at he ⊢
       by_cases b:j<afF A
       · rw [de b] at he
         have:=(af4.1 nd) i j a b lg
         rw [getElem!_pos A i a,getElem!_pos A j b] at he;exact absurd he this
       rw [g3 j (by omega) hj] at he
       have:=An _ (aX a);omega
     rw [g3 i (by omega) (by omega)];omega
   rcases aff.1 hx with hx|hx
   · exact sp.ids x (jW.1 (hA▸hx)).1
   exact .inl (PP.1 hx).2
 exact sp
theorem Nt:dK=bM:=rfl
section
variable {k : bJ} (n : M8 k.jp) (sh : xa k)
include n sh
end
theorem S9.check {R:qO} {F:List Pt} {t:Int×Int} (h:S9 R F t):ym R=afI 0:=by
 rw [GK h.ok.A9.fit (show (afF R.bv)<=1000 by have:=h.ok.bd;omega),pp h.ok]
theorem S9.IK {R S:qO} {F:List Pt} {t u:Int×Int} (h:S9 R F t) (k:S9 S F u):iw R.jp.ii S.jp.ii=afI afK:=by
 have h1:=h.ok.A9.ie.1;rw [show iw R.jp.ii S.jp.ii=_ from tX R.jp.ii.am S.jp.ii.am (by omega),aD (h.ie.trans k.ie.symm)]
theorem Nu {f:List Pt} (cS:bw f) {j:Nat} (hj:j<afF f) {e:Int} (e0:e≠0) (t1:fa ⟨f⟩ f[j]! =afI (⟨[]⟩,e)):False:=by
 rcases tY cS f[j]! with ⟨e',e0',_,t2⟩|⟨q,hq,he,_,t1',_⟩
 · have c2:eJ ⟨f⟩=afI 0:=by rw [jS];exact congrArg afI (dP.2 cS)
   have po:=cS.2.1 _ (aX hj);unfold mq je at t2;rw [c2,aj,bn rfl,ol,fP,pp po,aj,bn rfl,ol,vz cS.2.2 (by have:=cS.1;omega) hj rfl,aj,aC (by omega),ol,aZ (show (afF f)<=1048576 by have:=cS.1;omega),aj,aj,ar _ j hj,aj] at t2
   injection t2 with t2;injection t2 with _ t2;exact e0' t2.symm
 have:=t1.symm.trans t1'
 injection this with this;injection this with _ this;exact e0 this
section
variable {α : Type} [Inhabited α] {P : α -> α -> Prop} {S : α -> Prop}
end
section
variable {f : List Pt} {t : Int × Int}
end
theorem Nv {f:List Pt} (cS:bw f) {t:Int×Int} {p:List Int} (pl:oX f p):Kp p (bR f t p):=by
 have R:=ew (f:=f) (t:=t) pl.one;refine ⟨pl.one,pl.eN,R.1,pl.once,pl.Pc cS,R.uN,fun i hi h=>?_⟩
 rw [R.2 i hi] at h;unfold vG at h;split at h
 · rename_i h1;exact ⟨h1,h⟩
 rename_i h1
 split at h
 · omega
 split at h<;>omega
theorem arU.ok {k:bJ} (ok:pL k) {to:Int×Int} {r:bJ} (h:arU k.jp.ii.am k.kw.aL to r):pL r:=by
 have pl:=w9 ok.br ok.perm;refine ⟨h.A9,?_,?_,?_,?_,?_⟩
 · rw [h.br];exact Nv ok.A9.ie pl
 · rw [h.br];exact ok.pow
 · rw [h.br,h.ie];exact ok.perm
 · rw [h.br,h.ie,h.ci]
 rw [h.br];exact h.cert
structure Ee (R:bJ) (F:List Pt) (P:List Int) (t:Int×Int):Prop where
 ok:pL R
 ie:R.jp.ii.am=F
 ci:R.jp.ci=t
 pls:R.kw.aL=P
theorem Rn {f:List Pt} {p:List Int} (cS:bw f) (pl:oX f p) (h: ∀x,fh f x->x∈p):(iF f).Perm (c9 p):=
 (List.perm_ext_iff_of_nodup (zw cS.2.2) (A5 pl.once)).2 fun x=>⟨fun hx=>by
  have hp:=oP.1 hx;obtain ⟨i,hi,e⟩:=hp
  have:=cS.2.1 _ (aX hi)
  unfold fw at this;exact jW.2 ⟨h x ⟨i,hi,e⟩,by omega⟩,fun hx=>by
  obtain ⟨h1,h2⟩:=jW.1 hx;exact oP.2 ((pl.ids x h1).has h2)⟩
theorem WA.avQ {c:aP} (ok:bk c) {f:List Pt} (cS:bw f) {p:List Int} (pl:oX f p) (pw:Ci (afF p)) (pm:(iF f).Perm (c9 p)) {k:bJ} (h:WA c f p k):Ee k f p c.ci:=by
 have q:=h.zH;have b:=h.aL;obtain ⟨_,nd,_⟩:=lY cS ok.gF (t:=c.ci) pl;refine ⟨⟨q.ok,by rw [b];exact Nv cS pl,by rw [b];exact pw,by rw [q.ie,b];exact pm,by rw [b,q.ie,q.ci],?_⟩,q.ie,q.ci,by rw [b]⟩
 rw [b];exact DW (yF q.ok.uO) nd (fun z hz=>by obtain ⟨y,hy,rfl⟩:=List.mem_map.1 hz;exact q.sub y hy) (fun z hz=>mJ.1 (q.has z hz))
theorem Nw {c:aP} (ok:bk c) {f:List Pt} (cS:bw f) {p:List Int} (pl:oX f p) (pw:Ci (afF p)) (pm:(iF f).Perm (c9 p)):
 ∃R:bJ×Int,cd c ⟨f⟩ p=afI R/\(R=(tZ,18)\/R.2=0/\Ee R.1 f p c.ci):=by
 obtain ⟨R,r1,_,r3⟩:=A4 ok cS pl;refine ⟨R,r1,?_⟩;rcases r3 with ⟨a,b⟩|h
 · exact .inr ⟨a,b.avQ ok cS pl pw pm⟩
 exact .inl h
theorem Te {c:aP} (ok:bk c) {p:List Int} (pl:oX c.ii.am p) (cp:(c.ai.ce.map fun x=>x.2).Perm (gd p (bR c.ii.am c.ci p))):
 cd c c.ii p=afI (⟨c,⟨p,bR c.ii.am c.ci p⟩⟩,0):=by
 obtain ⟨DS,nd,el⟩:=lY ok.ie ok.gF (t:=c.ci) pl;have q1:=Pw ok DS cp;have ee:kE c.ii.am (gd p (bR c.ii.am c.ci p))=0:=by
  unfold kE;rw [rc (UV.2 DS.cv),rc (UV.2 nd),rc (fun h=>h DS.kn)]
 have rn:lR c c.ii (gd p (bR c.ii.am c.ci p))=_:=yH ok ok.ie (by omega) (fun _=>q1)
 rw [pp ee] at rn;have h1:kV c.ii c.ci p=_:=pK ok.ie ok.pG ok.gF pl.one pl.eN pl.ids pl.once;have e1:=yK (ew (f:=c.ii.am) (t:=c.ci) pl.one) pl.eN pl.once;unfold cd;simp only [h1,aj,e1,rn,show ((0:Int) !=0)=afQ from rfl,ol]
theorem DY.mem {l q:List Int} {x:Int} (h:DY l x q):x∈q/\ ∀y∈l,0<=y->y∈q:=by
 cases h with
 |at_ k hk e _ _=>
  refine ⟨List.mem_set hk x,fun y hy h0=>?_⟩
  obtain ⟨i,hi,rfl⟩:=aS.1 hy
  have:i≠k:=fun a=>by rw [a,e] at h0;exact absurd h0 (by decide)
  have g:=aU l k i x;rw [rc (fun h=>this h.1)] at g
  rw [<- g];exact aX (by rw [Do];exact hi)
 |end_ _ _=>exact ⟨by simp,fun y hy _=>by simp [hy]⟩
theorem WD {n:Nat} (h:Ci n) (h1:1<n):Ci (n / 2):=by
 obtain ⟨i,hi,rfl⟩:=h;cases i with
 |zero=>exact absurd h1 (by decide)
 |succ i=>exact ⟨i,by omega,by rw [Ku];omega⟩
theorem ae1 {n:Nat} (h:Ci n) (h1:n<=32):Ci (2*n):=by
 obtain ⟨i,hi,rfl⟩:=h;refine ⟨i+1,?_,(Ku i).symm⟩;rcases afE i 6 with a|a
 · omega
 obtain rfl:i=6:=by omega
 exact absurd h1 (by decide)
theorem WE {l q:List Int} {x:Int} (h1:1<=afF l) (h:DY l x q):(afF q=afF l/\ ∃k,k<afF l/\l[k]! = -1)\/(afF q=2*afF l/\ ∀j,j<afF l->l[j]!≠ -1):=by
 cases h with
 |at_ k hk e _ _=>exact .inl ⟨Do,k,hk,e⟩
 |end_ h _=>exact .inr ⟨by rw [v6,v6,ww,AC];omega,h⟩
theorem WG {l:List Int} {j:Nat}:(xt l j).length=if 1<afF l/\4*(c9 (l.set j (-1))).length<=(afF l) then (afF l) / 2 else (afF l):=by
 unfold xt;split
 · rw [v6,AC];omega
 rw [Do]
theorem WH {l:List Int} {j:Nat} {x:Int} (hx:x∈l) (h0:0<=x) (dW:x≠l[j]!):x∈xt l j:=by
 have a:x∈l.set j (-1):=by
  obtain ⟨i,hi,rfl⟩:=aS.1 hx;have g:=aU l j i (-1);rw [rc (fun h=>dW (by rw [h.1]))] at g
  rw [<- g];exact aX (by rw [Do];exact hi)
 unfold xt;split
 · exact List.mem_append_left _ (jW.2 ⟨a,h0⟩)
 exact a
section
variable {k : bJ} (ok : pL k) (sh : xa k)
include ok sh
theorem Kw:ky k=afI 0:=by rw [Ed ok.A9.fit sh.p sh.w,pp ok]
theorem ae2:ke k=afI 0:=by rw [yL ok.A9.fit sh.p sh.w,pp ok]
theorem WI (p:Pt):(∃e:Int,e≠0/\iM k.jp.ii p=afI (⟨[]⟩,e)/\pB k p=afI (tZ,e))\/
 ∃(m:Nat) (q:List Int),IE k.jp.ii.am p m/\ ¬fh k.jp.ii.am p.1/\fw p/\iM k.jp.ii p=afI (⟨oQ k.jp.ii.am m p⟩,0)/\bw (oQ k.jp.ii.am m p)/\
  DY k.kw.aL p.1 q/\oX (oQ k.jp.ii.am m p) q/\Ci (afF q)/\(iF (oQ k.jp.ii.am m p)).Perm (c9 q)/\
  ∀R,cd k.jp ⟨oQ k.jp.ii.am m p⟩ q=afI R->pB k p=afI R:=by
 have c1:=Kw ok sh;have cS:=ok.A9.ie;have pl:=ok.aL;rcases GO cS p with ⟨e,e0,t1,_⟩|⟨m,hm,hp,po,dI,t1,_⟩
 · have t1:iM k.jp.ii p=afI (⟨[]⟩,e):=t1
   refine .inl ⟨e,e0,t1,?_⟩;unfold pB;rw [c1,aj,bn rfl,ol,t1,aj,cK e0,lw];rfl
 have t1:iM k.jp.ii p=afI (⟨oQ k.jp.ii.am m p⟩,0):=t1;have Dh:=aeP cS po hm dI;have eN:=pl.eN;have one:=pl.one;have full:=ae0 ok dI;obtain ⟨q,_,w2⟩:=aeY one (by omega) (fun x hx=>(pl.Pc cS x hx).1) p.1
 have p0:0<=p.1:=by have:=po;unfold fw at this;omega
 have Tf:oX (oQ k.jp.ii.am m p) q:=PD pl p0 hp full w2;refine .inr ⟨m,q,hm,hp,po,t1,Dh,w2,Tf,?_,Rn Dh Tf fun x hx=>?_,fun R s1=>?_⟩
 · rcases WE one w2 with ⟨a,_⟩|⟨a,b⟩
   · rw [a];exact ok.pow
   rw [a];exact ae1 ok.pow (full b)
 · obtain ⟨i,hi,rfl⟩:=hx
   rcases Kn.1 (aX hi) with h|h
   · rw [h];exact w2.mem.1
   obtain ⟨j,hj,e⟩:=aS.1 h
   have:=cS.2.1 _ h
   unfold fw at this;have hx:((oQ k.jp.ii.am m p)[i]!).1∈c9 k.kw.aL:=ok.perm.mem_iff.1 (oP.2 ⟨j,hj,by rw [e]⟩)
   exact w2.mem.2 _ (jW.1 hx).1 (by omega)
 unfold pB
 rw [c1,aj,bn rfl,ol,t1,aj,bn rfl,ol,aZ (by omega),aj]
 cases w2 with
 |at_ j hj e h hi=>
  rw [hi,aj,aC (show¬(j:Int)<0 by omega),ol,ar _ j hj,aj,kM,s1,aj]
 |end_ h hi=>
  obtain ⟨i,hi7,hpw⟩:=ok.pow;have rep:=PB i (by omega)
  rw [<- hpw] at rep;rw [hi,aj,aD (show (-1:Int)<0 by decide),lw,ay,rep,aj]
  have em:(ut (afF k.kw.aL) (-1:Int)).isEmpty=afQ:=by
   cases hh:(afF k.kw.aL) with
   |zero=>omega
   |succ _=>rfl
  rw [em,ol,bT (by rw [AC];omega),aj,ar _ _ (by rw [v6,AC];omega),aj,kM]
  have:(k.kw.aL++ut (afF k.kw.aL) (-1:Int)).set (afF k.kw.aL) p.1=k.kw.aL++[p.1]++ut (afF k.kw.aL-1) (-1):=by
   rw [List.set_append_right _ _ (af6 _),afo];cases hh:(afF k.kw.aL) with
   |zero=>omega
   |succ n=>simp [List.replicate_succ]
  rw [this,s1,aj]
theorem Tg (id:Int):(¬fh k.jp.ii.am id/\jj k.jp.ii id=afI (⟨[]⟩,6)/\lS k id=afI (tZ,6))\/
 ∃q j:Nat,q<afF k.jp.ii.am/\(k.jp.ii.am[q]!).1=id/\j<afF k.kw.aL/\k.kw.aL[j]! =id/\0<=id/\jj k.jp.ii id=afI (⟨k.jp.ii.am.eraseIdx q⟩,0)/\
  bw (k.jp.ii.am.eraseIdx q)/\oX (k.jp.ii.am.eraseIdx q) (xt k.kw.aL j)/\Ci (xt k.kw.aL j).length/\(iF (k.jp.ii.am.eraseIdx q)).Perm (c9 (xt k.kw.aL j))/\
  (c9 (k.kw.aL.set j (-1))).length=afF k.jp.ii.am-1/\
  ∀R,cd k.jp ⟨k.jp.ii.am.eraseIdx q⟩ (xt k.kw.aL j)=afI R->lS k id=afI R:=by
 have c1:=Kw ok sh;have cS:=ok.A9.ie;have pl:=ok.aL;have eN:=pl.eN;have one:=pl.one
 by_cases hid:fh k.jp.ii.am id
 case neg=>
  have t1:jj k.jp.ii id=afI (⟨[]⟩,6):=(Km cS hid).1;refine .inl ⟨hid,t1,?_⟩;unfold lS;rw [c1,aj,bn rfl,ol,t1,aj,cK (by decide),lw]
  rfl
 have hm:=jW.1 (ok.perm.mem_iff.1 (oP.2 hid));obtain ⟨q,hq,hqe⟩:=hid;have t1:=(Ps cS hq).1;rw [hqe] at t1;have t1:jj k.jp.ii id=afI (⟨k.jp.ii.am.eraseIdx q⟩,0):=t1;have Dh:=Wt cS q;obtain ⟨j,hj,e,ix,_⟩:=S7 (l:=k.kw.aL) (by omega) hm.1
 have h0:0<=k.kw.aL[j]!:=by rw [e];exact hm.2
 have Tf:oX (k.jp.ii.am.eraseIdx q) (xt k.kw.aL j):=Ns pl hj h0 fun x hx dW=>Td cS.2.2 hq hx (by rw [hqe,<- e];exact dW)
 have fl:(k.jp.ii.am.eraseIdx q).length=(c9 (k.kw.aL.set j (-1))).length:=by
  have a:=Tc hj h0;have b:=ok.perm.length_eq;rw [mu] at b
  have:=B7 hq
  omega
 refine .inr ⟨q,j,hq,hqe,hj,e,hm.2,t1,Dh,Tf,?_,Rn Dh Tf fun x hx=>?_,by have:=B7 hq;omega,fun R s1=>?_⟩
 · rw [WG]
   split
   · rename_i h;exact WD ok.pow h.1
   exact ok.pow
 · obtain ⟨i,hi,rfl⟩:=hx
   obtain ⟨a,b⟩:=(IF cS.2.2 hq).1 (aX hi);obtain ⟨i',uq,e'⟩:=aS.1 a;have hx:=jW.1 (ok.perm.mem_iff.1 (oP.2 ⟨i',uq,by rw [e']⟩))
   exact WH hx.1 hx.2 (by rw [e,<- hqe];exact b)
 unfold lS
 rw [c1,aj,bn rfl,ol,t1,aj,bn rfl,ol,aZ (by omega),aj,ix,aj,ar _ j hj,aj]
 simp only [kM,ay,Do,fl];have il:(c9 (k.kw.aL.set j (-1))).length<=(afF k.kw.aL):=by
  have:=ae9 (fun x:Int=>decide (0<=x)) (k.kw.aL.set j (-1))
  rw [Do] at this;unfold c9;omega
 rw [jb (n:=4*((c9 (k.kw.aL.set j (-1))).length:Int)) ⟨by omega,by omega⟩]
 unfold xt at s1
 by_cases a:1<afF k.kw.aL
 · rw [aD (by omega),lw]
   by_cases b:4*(c9 (k.kw.aL.set j (-1))).length<=afF k.kw.aL
   · rw [aD (by omega),lw,Nt]
     rw [pp ⟨a,b⟩] at s1;obtain ⟨N,M,m1,m2,m3,m4⟩:=Ag (k.kw.aL.set j (-1)) (by rw [Do];omega)
     rw [Do] at m1 m3;have w2:aa .i64 (aa .i64 (Int.tdiv ((afF k.kw.aL):Int) 2) - (N:Int))=(((afF k.kw.aL) / 2-N:Nat):Int):=by
      rw [Int.tdiv_eq_ediv_of_nonneg (by omega),jb (n:=((afF k.kw.aL):Int) / 2) ⟨by omega,by omega⟩,jb ⟨by omega,by omega⟩];omega
     rw [m1,aj];simp only [];rw [w2,Tb _ (by omega) (by omega),aj]
     have em:(ut ((afF k.kw.aL) / 2-N) (-1:Int)).isEmpty=afQ:=by
      cases hh:(afF k.kw.aL) / 2-N with
      |zero=>omega
      |succ _=>rfl
     have b1:Nat.ble (N+((afF k.kw.aL) / 2-N)) (afF k.kw.aL)=afK:=by rw [Nat.ble_eq];omega
     have lay:(eX M N (ut ((afF k.kw.aL) / 2-N) (-1:Int))).take (N+((afF k.kw.aL) / 2-N))=c9 (k.kw.aL.set j (-1))++ut ((afF k.kw.aL) / 2-N) (-1):=by
      unfold eX;rw [m4,IR (by rw [v6,AC];omega),afc (by rw [v6,AC];omega)]
     rw [em,ol,AC,b1,lw,m3,b1];simp only [acl,afh,lw];rw [lay,m2,s1,aj]
   rw [aC (by omega),ol]
   rw [rc (fun h=>b h.2)] at s1
   rw [s1,aj]
 rw [aC (by omega),ol]
 rw [rc (fun h=>a h.1)] at s1
 rw [s1,aj]
theorem Nx (p:Pt):(∃e:Int,e≠0/\fa k.jp.ii p=afI (⟨[]⟩,e)/\fb k p=afI (tZ,e))\/
 ∃q:Nat,q<afF k.jp.ii.am/\(k.jp.ii.am[q]!).1=p.1/\fw p/\fa k.jp.ii p=afI (⟨k.jp.ii.am.set q p⟩,0)/\bw (k.jp.ii.am.set q p)/\
  oX (k.jp.ii.am.set q p) k.kw.aL/\(iF (k.jp.ii.am.set q p)).Perm (c9 k.kw.aL)/\
  ∀R,cd k.jp ⟨k.jp.ii.am.set q p⟩ k.kw.aL=afI R->fb k p=afI R:=by
 have c1:=Kw ok sh;have cS:=ok.A9.ie;have pl:=ok.aL;rcases tY cS p with ⟨e,e0,t1,_⟩|⟨q,hq,he,po,t1,_⟩
 · have t1:fa k.jp.ii p=afI (⟨[]⟩,e):=t1
   refine .inl ⟨e,e0,t1,?_⟩;unfold fb;rw [c1,aj,bn rfl,ol,t1,aj,cK e0,lw];rfl
 have t1:fa k.jp.ii p=afI (⟨k.jp.ii.am.set q p⟩,0):=t1;have Dh:=am7 cS po hq he;have avR: ∀x,fh k.jp.ii.am x->fh (k.jp.ii.am.set q p) x:=fun x ⟨i,hi,e⟩=>by
  refine ⟨i,by rw [Do];exact hi,?_⟩
  rw [aU]
  by_cases a:i=q
  · rw [pp ⟨a,hq⟩,<- he,<- a];exact e
  rw [rc (fun h=>a h.1)];exact e
 have Tf:oX (k.jp.ii.am.set q p) k.kw.aL:=⟨pl.one,pl.eN,pl.once,fun x hx=>(pl.ids x hx).imp id fun h=>⟨h.1,avR x h.2⟩⟩
 refine .inr ⟨q,hq,he,po,t1,Dh,Tf,by rw [aeU hq he];exact ok.perm,fun R s1=>?_⟩
 unfold fb;rw [c1,aj,bn rfl,ol,t1,aj,bn rfl,ol,s1,aj]
end
theorem Ee.short {R:bJ} {F:List Pt} {P:List Int} {t:Int×Int} (h:Ee R F P t):xa R:=by
 have a:=h.ok.br.len;have b:=h.ok.br.eN;exact ⟨h.ok.A9.short,by omega,by omega⟩
theorem WJ (k:bJ) (n:M8 k.jp):vv k=afI afQ\/(vv k=afI afK/\xa k/\afF k.jp.ii.am<=10/\pL k):=by
 unfold vv;rcases Nr k with e|⟨e,sh⟩
 · rw [e];exact .inl rfl
 rw [e,aj,acl,lw];unfold AU;rw [aj,ay]
 by_cases h:10<afF k.jp.ii.am
 · rw [aD (by omega)];exact .inl rfl
 rw [aC (by omega),acl,lw,yL (pL.fit k n sh) sh.p sh.w,aj]
 by_cases ok:pL k
 · rw [pp ok];exact .inr ⟨rfl,sh,by omega,ok⟩
 rw [rc ok];exact .inl rfl
theorem Ee.check {R:bJ} {F:List Pt} {P:List Int} {t:Int×Int} (h:Ee R F P t):ke R=afI 0:=ae2 h.ok h.short
theorem Ee.IK {R S:bJ} {F:List Pt} {P Q:List Int} {t u:Int×Int} (h:Ee R F P t) (k:Ee S F Q u):iw R.jp.ii S.jp.ii=afI afK:=by
 have h1:=h.ok.A9.ie.1;rw [show iw R.jp.ii S.jp.ii=_ from tX R.jp.ii.am S.jp.ii.am (by omega),aD (h.ie.trans k.ie.symm)]
theorem Th {R:bJ} {f:List Pt} {p:Pt} {P:List Int} {t:Int×Int} {m:Nat} (hm:IE f p m) (h:Ee R (oQ f m p) P t):
 ∃S:bJ×Int,lS R p.1=afI S/\(S=(tZ,18)\/S.2=0/\ ∃Q,Ee S.1 f Q t):=by
 have hp:fh R.jp.ii.am p.1:=by
  rw [h.ie];refine ⟨m,by rw [Ce hm.le];have:=hm.le;omega,?_⟩
  rw [zy hm.le,rc (by omega),pp rfl]
 rcases Tg h.ok h.short p.1 with ⟨a,_⟩|⟨q,j,hq,he,_,_,_,_,Dh,Tf,pw,pm,_,go⟩
 · exact absurd hp a
 have hF:=h.ie
 rw [hF] at hq he Dh Tf pm go;have hl:=Ce hm.le p;have PG:=hq;rw [hl] at PG
 have:q=m:=by
  rw [zy hm.le] at he;rcases adc q m with c|c|c
  · rw [pp c] at he;have:=hm.lo q c;omega
  · exact c
  rw [rc (by omega),rc (by omega)] at he;have:=hm.hi (q-1) (by omega) (by omega);omega
 subst this;rw [S8 hm.le] at Dh Tf pm go;obtain ⟨S,s1,s2⟩:=Nw h.ok.A9 Dh Tf pw pm;refine ⟨S,go S s1,s2.imp id fun x=>⟨x.1,?_⟩⟩
 have:=x.2
 rw [h.ci] at this;exact ⟨_,this⟩
theorem yM (k:bJ) (p:Pt) (i:Int) (n:M8 k.jp):ri k p i=afI afK:=by
 unfold ri;rw [aj];rcases WJ k n with e|⟨e,sh,_,ok⟩
 · rw [e];rfl
 rw [e,aj,If,ol,ol];have kk:Ee k k.jp.ii.am k.kw.aL k.jp.ci:=⟨ok,rfl,rfl,rfl⟩;have fin:(bif afR (i<0) then afI afK else bif afR ((afb (afF k.jp.ii.am))<=i) then afI afK else
  (aI k.jp.ii.am i).bind fun a7=>(fb k a7).bind fun a8=>bif afK then bif a8.2==0 then (kB a8.1 k).bind fun b9=>afI b9 else afI afQ else afI afQ)=afI afK:=by
  by_cases h1:i<0
  · rw [aD h1];rfl
  rw [aC h1,ol]
  by_cases h2:(afb (afF k.jp.ii.am))<=i
  · rw [aD h2];rfl
  rw [aC h2,ol];obtain ⟨j,rfl⟩: ∃j:Nat,i=(j:Int):=⟨i.toNat,by omega⟩
  have hj:j<(afF k.jp.ii.am):=by rw [ay] at h2;omega
  rw [ar _ j hj,aj];rcases Nx ok sh k.jp.ii.am[j]! with ⟨e,e0,t1,_⟩|⟨q,hq,he,_,_,_,_,_,go⟩
  · exact (Nu ok.A9.ie hj e0 t1).elim
  have:q=j:=by
   rcases adc q j with c|c|c
   · have:=dH ok.A9.ie.2.2 c hj;omega
   · exact c
   have:=dH ok.A9.ie.2.2 c hq;omega
  subst this;have hs:k.jp.ii.am.set q k.jp.ii.am[q]! =k.jp.ii.am:=by
   rw [getElem!_pos _ q hq,List.set_getElem_self]
  rw [hs] at go;have r1:=go _ (Te ok.A9 ok.aL (by rw [<- ok.right];exact ok.cert))
  rw [<- ok.right] at r1;have r1:fb k k.jp.ii.am[q]! =afI (k,0):=r1;rw [r1,aj,lw,show ((k,(0:Int)).2==0)=afK from rfl,lw,PC sh,aj]
 rcases WI ok sh p with ⟨e,e0,_,t⟩|⟨m,q,hm,_,_,_,Dh,_,Tf,pw,pm,go⟩
 · rw [t,aj,show (((tZ,e):bJ×Int).2==0)=afQ by simpa using e0,ol]
   exact fin
 obtain ⟨R,s1,r2⟩:=Nw ok.A9 Dh Tf pw pm;rw [go R s1,aj];rcases r2 with rfl|⟨r0,ht⟩
 · exact fin
 rw [r0,show ((0:Int)==0)=afK from rfl,lw];obtain ⟨S,s1,s2⟩:=Th hm ht;rw [s1,aj];rcases s2 with rfl|⟨s0,Q,hs⟩
 · exact fin
 rw [s0,show ((0:Int) !=0)=afQ from rfl,ol,show ((0:Int)==0)=afK from rfl,lw,hs.check,aj,show ((0:Int) !=0)=afQ from rfl,ol,hs.IK kk,aj,If,ol];exact fin
theorem M8.of {c:aP} (h1:RT.wf [.i .i64,.i .i64] c.ci) (h2: ∀a∈c.ae.bv,RT.wf [.i .i64,.i .i64,.i .i64,.i .i64,.i .i64] a):M8 c where
 ci:=⟨wf_i64 h1.1,wf_i64 h1.2⟩
 Ph w hw:=by
  have:=h2 (c.ae.bv[w]!) (by rw [getElem!_pos c.ae.bv w hw];exact List.getElem_mem hw)
  exact ⟨wf_i64 this.1,wf_i64 this.2.1⟩
end Go.Proofs.YtbgoiokedpjgbaaGreat
