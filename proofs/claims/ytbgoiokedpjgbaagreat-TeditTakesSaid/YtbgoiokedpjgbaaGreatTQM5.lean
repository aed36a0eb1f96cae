/- Plain laws (5). -/
import Derived.Test.YtbgoiokedpjgbaaGreatTQM4
import Derived.Test.YtbgoiokedpjgbaaGreatTQS2
import Derived.Test.YtbgoiokedpjgbaaGreatTVm4
import Derived.Test.YtbgoiokedpjgbaaGreatTVm3
open List renaming replicate->bm,length_singleton->bn,length_append->bo,append_nil->bq,length_set->bu,length_replicate->bv,length_take->bw,take_length->cb,take_append_of_le_length->cd,length_map->ce,length_filter_le->cf,filter_append->ci,pairwise_iff_getElem->ck,append_assoc->cm,filter_cons_of_pos->cp,filter_cons_of_neg->cq,take_of_length_le->cu,mem_replicate->cz,length_drop->dc,filter_nil->df
open Bool renaming not_true->bz,not_false->cw,and_self->cy
open Int renaming tdiv_eq_ediv_of_nonneg->cj,toNat_natCast->db
open Classical renaming not_imp->c6,not_not->c7
open Nat renaming le_refl->dd,zero_le->de
namespace Go.Proofs.YtbgoiokedpjgbaaGreat
open Go.Vm Classical
structure Y4 (p w:List Int):Prop where
 one:1<=p.length
 most:p.length<=64
 len:w.length+1=p.length
 once:FF p
 rng: ∀x∈p,-1<=x/\x<=65535
 cho:DD p w
 none_: ∀i,i<w.length->w[i]!<0->bK p w (2*i+1)<0/\bK p w (2*i+2)<0
def VB (p w:List Int) (i:Nat):Prop:=(w[i]! =bK p w (2*i+1)\/w[i]! =bK p w (2*i+2))/\ ¬(w[i]!<0/\(0<=bK p w (2*i+1)\/0<=bK p w (2*i+2)))
def aDz (p w:List Int) (i:Nat):Prop:=(w[i]! =bK p w (2*i+1)\/w[i]! =bK p w (2*i+2))/\ ¬(w[i]! = -1/\(bK p w (2*i+1)≠ -1\/bK p w (2*i+2)≠ -1))
def Q3 (p:List Int) (i:Nat):Prop:= -1<=p[i]!/\p[i]!<=65535
def QF (p:List Int) (i:Nat):Prop:= ∀j,j<i->p[j]! =p[i]!->p[i]!<0
theorem J4 {p:List Int}:(∀i,i<p.length->QF p i)↔FF p:=
 ⟨fun h i j hij hj e=>by rw [e];exact h j hj i hij e,fun h i hi j hj e=>by have:=h j i hj hi e;rw [e] at this;exact this⟩
theorem VC {p:List Int}:(∀i,i<p.length->Q3 p i)↔ ∀x∈p,-1<=x/\x<=65535:=(FC (P:=fun x=> -1<=x/\x<=65535)).symm
theorem aF4 {p w:List Int} (h1:1<=p.length) (h64:p.length<=64) (hl:w.length+1=p.length):
 Y4 p w↔(∀i,i<p.length->QF p i)/\(∀i,i<p.length->Q3 p i)/\ ∀i,i<w.length->VB p w i:=by
 rw [J4,VC];constructor
 · intro h
   refine ⟨h.once,h.rng,fun i hi=>⟨h.cho i hi,fun ⟨a,b⟩=>?_⟩⟩
   have:=h.none_ i hi a
   omega
 rintro ⟨a,b,c⟩
 exact ⟨h1,h64,hl,a,b,fun i hi=>(c i hi).1,fun i hi h0=>by have:=(c i hi).2;omega⟩
theorem Y5 {p w:List Int} (hl:w.length+1=p.length) (hr: ∀x∈p,-1<=x/\x<=65535):(∀i,i<w.length->VB p w i)↔ ∀i,i<w.length->aDz p w i:=by
 constructor<;>intro h i hi
 · have hc:DD p w:=fun i hi=>(h i hi).1
   have a1:=hr _ (mH hl hc (i:=2*i+1) (by omega))
   have a2:=hr _ (mH hl hc (i:=2*i+2) (by omega))
   obtain ⟨b1,b2⟩:=h i hi;exact ⟨b1,by omega⟩
 have hc:DD p w:=fun i hi=>(h i hi).1
 have a1:=hr _ (mH hl hc (i:=2*i+1) (by omega))
 have a2:=hr _ (mH hl hc (i:=2*i+2) (by omega))
 obtain ⟨b1,b2⟩:=h i hi;exact ⟨b1,by omega⟩
theorem aTW {p q:Prop} [Decidable p] [Decidable q] [Decidable (p/\q)] {a b:Int}:(if p then (if q then a else b) else b)=if p/\q then a else b:=by
 by_cases hp:p
 · rw [if_pos hp];exact J2 ⟨fun h=>⟨hp,h⟩,fun h=>h.2⟩
 rw [if_neg hp,if_neg (fun h=>hp h.1)]
theorem LK (p w:List Int) (hl:p.length<=1000) (wl:w.length<=1000):pN ⟨p,w⟩=some (if Y4 p w then 0 else 8):=by
 unfold pN;simp only [aF]
 by_cases h1:(p.length:Int)<1
 · rw [aJ h1,cond_true,if_neg (fun h=>by have:=h.one;omega)]
 rw [dec_f h1,cond_false]
 by_cases h2:(64:Int)<(p.length:Int)
 · rw [aJ h2,cond_true,if_neg (fun h=>by have:=h.most;omega)]
 rw [dec_f h2,cond_false,qB (by omega) (by omega)]
 by_cases h3:w.length+1=p.length
 case neg=>rw [cP (by omega),cond_true,if_neg (fun h=>h3 h.len)]
 rw [bT (by omega),cond_false]
 have l1:=qM (body:=jM) (fun i=>(w,(w.length:Int),(i:Int),p,w)) w.length (VB p w) (r:= .done (.done 8)) (e:= .done (.done 0)) (fun i hi=>by
  unfold jM VB;have k1:=qN (i:=i) (by omega) 1 (by omega)
  have k2:=qN (i:=i) (by omega) 2 (by omega)
  simp only [aJ (show (i:Int)<(w.length:Int) by omega),cond_true,aE w i hi,aB,show aA .i64 (aA .i64 (2*(i:Int))+1)=((2*i+1:Nat):Int) from k1,show aA .i64 (aA .i64 (2*(i:Int))+2)=((2*i+2:Nat):Int) from k2,
   qE (p:=p) (w:=w) (i:=2*i+1) (by omega) (by omega),qE (p:=p) (w:=w) (i:=2*i+2) (by omega) (by omega),aU (show i<1000000000 by omega)]
  generalize bK p w (2*i+1)=x;generalize bK p w (2*i+2)=y;generalize w[i]! =v
  by_cases a1:v=x
  · rw [bT a1,cond_false]
    by_cases a3:v<0
    · rw [aJ a3,cond_true]
      by_cases a4:0<=(if y>x then y else x)
      · rw [aJ a4,cond_true]
        exact ⟨fun _=>rfl,fun h=>by split at a4<;>omega⟩
      rw [dec_f a4,cond_false]
      exact ⟨fun h=>by split at a4<;>omega,fun _=>rfl⟩
    rw [dec_f a3,cond_false]
    exact ⟨fun h=>by omega,fun _=>rfl⟩
  · rw [cP a1,cond_true]
    by_cases a2:v=y
    · rw [bT a2,cond_false]
      by_cases a3:v<0
      · rw [aJ a3,cond_true]
        by_cases a4:0<=(if y>x then y else x)
        · rw [aJ a4,cond_true]
          exact ⟨fun _=>rfl,fun h=>by split at a4<;>omega⟩
        rw [dec_f a4,cond_false]
        exact ⟨fun h=>by split at a4<;>omega,fun _=>rfl⟩
      rw [dec_f a3,cond_false]
      exact ⟨fun h=>by omega,fun _=>rfl⟩
    rw [cP a2,cond_true]
    exact ⟨fun _=>rfl,fun h=>by omega⟩) (by
  unfold jM;simp only [dec_f (show¬(w.length:Int)<(w.length:Int) by omega),cond_false])
 have l1':aG jM (w,(w.length:Int),0,p,w)=some (.done (.done (if∀i,i<w.length->VB p w i then 0 else 8))):=by
  refine (show _=_ from l1).trans ?_
  by_cases h: ∀i,i<w.length->VB p w i
  · rw [if_pos h,if_pos h]
  rw [if_neg h,if_neg h]
 have l2: ∀m,aG jN (p,(p.length:Int),0,p,w,m)=some (.done (if (∀i,i<p.length->Q3 p i)/\ ∀i,i<w.length->VB p w i then 0 else 8)):=fun m=>by
  have l2:=qM (body:=jN) (fun i=>(p,(p.length:Int),(i:Int),p,w,m)) p.length (Q3 p) (r:= .done 8) (e:= .done (if∀i,i<w.length->VB p w i then 0 else 8)) (fun i hi=>by
   unfold jN wK Q3;simp only [aJ (show (i:Int)<(p.length:Int) by omega),cond_true,aE p i hi,aB,aU (show i<1000000000 by omega)]
   generalize p[i]! =v
   by_cases a1: -1<=v
   · rw [aJ a1,cond_true,aB]
     by_cases a2:v<=65535
     · rw [aJ a2];exact ⟨fun h=>absurd ⟨a1,a2⟩ h,fun _=>rfl⟩
     rw [dec_f a2]
     refine ⟨fun _=>?_,fun h=>absurd h.2 a2⟩
     rw [aJ (show (0:Int)<=(i:Int) by omega)];rfl
   · rw [dec_f a1,cond_false,aB]
     refine ⟨fun _=>?_,fun h=>absurd h.1 a1⟩
     rw [aJ (show (0:Int)<=(i:Int) by omega)];rfl) (by
   unfold jN;simp only [dec_f (show¬(p.length:Int)<(p.length:Int) by omega),cond_false,aF,l1'])
  refine (show _=_ from l2).trans ?_
  by_cases h: ∀i,i<p.length->Q3 p i
  · rw [if_pos h];congr 2;exact J2 ⟨fun k=>⟨h,k⟩,fun k=>k.2⟩
  rw [if_neg h,if_neg (fun k=>h k.1)]
 have l3:=qM (body:=oW) (fun i=>(p,(p.length:Int),(i:Int),p,w,QD p i)) p.length (QF p) (r:=8) (e:=if (∀i,i<p.length->Q3 p i)/\ ∀i,i<w.length->VB p w i then 0 else 8) (fun i hi=>by
  unfold oW;simp only [aJ (show (i:Int)<(p.length:Int) by omega),cond_true,aE p i hi,aB,QE,aU (show i<1000000000 by omega)]
  by_cases a:QF p i
  · rw [dec_f (show¬(0<=p[i]!/\ ∃j,j<i/\p[j]! =p[i]!) from fun ⟨h0,j,hj,e⟩=>by have:=a j hj e;omega)]
    exact ⟨fun h=>absurd a h,fun _=>rfl⟩
  · rw [aJ (show 0<=p[i]!/\ ∃j,j<i/\p[j]! =p[i]! from by
     unfold QF at a;obtain ⟨j,hj⟩:=Classical.not_forall.1 a;obtain ⟨hj,h⟩:=c6.1 hj;obtain ⟨h,h0⟩:=c6.1 h;exact ⟨by omega,j,hj,h⟩)]
    refine ⟨fun _=>?_,fun h=>absurd h a⟩
    rw [aJ (show (0:Int)<=(i:Int) by omega)];rfl) (by
  unfold oW;simp only [dec_f (show¬(p.length:Int)<(p.length:Int) by omega),cond_false,aF,l2])
 refine (show _=_ from l3).trans ?_;rw [J2 (aF4 (by omega) (by omega) h3)]
 congr 1
 exact aTW
theorem QG (p:List Int) (hl:p.length<=1000):EZ p=some (!decide (FF p)):=by
 have l2:=qM (body:=sJ) (fun i=>(p,(i:Int))) p.length (QF p) (r:=true) (e:=false) (fun i hi=>by
  have l1:=qM (body:=sI) (fun j=>(p,(i:Int),(j:Int))) i (fun j=>p[j]! =p[i]!->p[i]!<0) (r:= .done true) (e:= .next (p,((i+1:Nat):Int))) (fun j hj=>by
   unfold sI;simp only [aJ (show (j:Int)<(i:Int) by omega),cond_true,aE p i hi,aE p j (by omega),aB,aU (show j<1000000000 by omega)]
   by_cases a:0<=p[i]!
   · rw [aJ a,cond_true]
     by_cases b:p[j]! =p[i]!
     · rw [eI b];exact ⟨fun _=>rfl,fun h=>by have:=h b;omega⟩
     rw [eB b];exact ⟨fun h=>absurd (fun k=>absurd k b) h,fun _=>rfl⟩
   · rw [dec_f a,cond_false]
     exact ⟨fun h=>absurd (fun _=>by omega) h,fun _=>rfl⟩) (by
   unfold sI;simp only [dec_f (show¬(i:Int)<(i:Int) by omega),cond_false,aU (show i<1000000000 by omega)])
  have l1:=(show _=_ from l1);unfold sJ;simp only [aF,aJ (show (i:Int)<(p.length:Int) by omega),cond_true]
  by_cases a:QF p i
  · rw [if_pos (show∀j,j<i->p[j]! =p[i]!->p[i]!<0 from a)] at l1
    exact ⟨fun h=>absurd a h,fun _=>l1⟩
  · rw [if_neg (show¬ ∀j,j<i->p[j]! =p[i]!->p[i]!<0 from a)] at l1
    exact ⟨fun _=>l1,fun h=>absurd h a⟩) (by
  unfold sJ;simp only [aF,dec_f (show¬(p.length:Int)<(p.length:Int) by omega),cond_false])
 refine (show _=_ from l2).trans ?_
 by_cases h:FF p
 · rw [if_pos (J4.2 h),aJ h];rfl
 rw [if_neg (fun k=>h (J4.1 k)),dec_f h];rfl
theorem QH (p w:List Int) (hl:p.length<=1000) (wl:w.length<=1000):vX ⟨p,w⟩=some (if Y4 p w then 0 else 8):=by
 unfold vX;simp only [aF]
 by_cases h1:(p.length:Int)<1
 · rw [aJ h1,cond_true,if_neg (fun h=>by have:=h.one;omega)]
 rw [dec_f h1,cond_false]
 by_cases h2:(64:Int)<(p.length:Int)
 · rw [aJ h2,cond_true,if_neg (fun h=>by have:=h.most;omega)]
 rw [dec_f h2,cond_false,qB (by omega) (by omega)]
 by_cases h3:w.length+1=p.length
 case neg=>rw [cP (by omega),cond_true,if_neg (fun h=>h3 h.len)]
 rw [bT (by omega),cond_false,QG p hl,aB]
 by_cases ho:FF p
 case neg=>rw [dec_f ho,if_neg (fun h=>ho h.once)];rfl
 rw [aJ ho,bz,cond_false];have l1:=qM (body:=oK) (fun i=>((i:Int),p,w)) w.length (aDz p w) (r:= .done 8) (e:= .done 0) (fun i hi=>by
  unfold oK aDz;have k1:=qN (i:=i) (by omega) 1 (by omega)
  have k2:=qN (i:=i) (by omega) 2 (by omega)
  simp only [aF,aJ (show (i:Int)<(w.length:Int) by omega),cond_true,aE w i hi,aB,show aA .i64 (aA .i64 (2*(i:Int))+1)=((2*i+1:Nat):Int) from k1,show aA .i64 (aA .i64 (2*(i:Int))+2)=((2*i+2:Nat):Int) from k2,
   rI (p:=p) (w:=w) (i:=2*i+1) (by omega) (by omega),rI (p:=p) (w:=w) (i:=2*i+2) (by omega) (by omega),aU (show i<1000000000 by omega)]
  generalize bK p w (2*i+1)=x;generalize bK p w (2*i+2)=y;generalize w[i]! =v
  by_cases a1:v=x
  · rw [bT a1,cond_false]
    by_cases a3:v= -1
    · rw [eI a3,cond_true]
      by_cases a4:x= -1
      · rw [bT a4,cond_false]
        by_cases a5:y= -1
        · rw [bT a5,cond_false];exact ⟨fun h=>by omega,fun _=>rfl⟩
        rw [cP a5,cond_true];exact ⟨fun _=>rfl,fun h=>by omega⟩
      rw [cP a4,cond_true];exact ⟨fun _=>rfl,fun h=>by omega⟩
    rw [eB a3,cond_false];exact ⟨fun h=>by omega,fun _=>rfl⟩
  · rw [cP a1,cond_true]
    by_cases a2:v=y
    · rw [bT a2,cond_false]
      by_cases a3:v= -1
      · rw [eI a3,cond_true]
        by_cases a4:x= -1
        · rw [bT a4,cond_false]
          by_cases a5:y= -1
          · rw [bT a5,cond_false];exact ⟨fun h=>by omega,fun _=>rfl⟩
          rw [cP a5,cond_true];exact ⟨fun _=>rfl,fun h=>by omega⟩
        rw [cP a4,cond_true];exact ⟨fun _=>rfl,fun h=>by omega⟩
      rw [eB a3,cond_false];exact ⟨fun h=>by omega,fun _=>rfl⟩
    rw [cP a2,cond_true]
    exact ⟨fun _=>rfl,fun h=>by omega⟩) (by
  unfold oK;simp only [aF,dec_f (show¬(w.length:Int)<(w.length:Int) by omega),cond_false])
 have l1':aG oK (0,p,w)=some (.done (if∀i,i<w.length->aDz p w i then 0 else 8)):=by
  refine (show _=_ from l1).trans ?_
  by_cases h: ∀i,i<w.length->aDz p w i
  · rw [if_pos h,if_pos h]
  rw [if_neg h,if_neg h]
 have l2:=qM (body:=sK) (fun i=>((p.length:Int),(i:Int),p,w)) p.length (Q3 p) (r:=8) (e:=if∀i,i<w.length->aDz p w i then 0 else 8) (fun i hi=>by
  unfold sK Q3;simp only [aJ (show (i:Int)<(p.length:Int) by omega),cond_true,aE p i hi,aB,aU (show i<1000000000 by omega)]
  generalize p[i]! =v
  by_cases a1:v< -1
  · rw [aJ a1];exact ⟨fun _=>rfl,fun h=>by omega⟩
  · rw [dec_f a1,cond_false]
    by_cases a2:65535<v
    · rw [aJ a2];exact ⟨fun _=>rfl,fun h=>by omega⟩
    rw [dec_f a2];exact ⟨fun h=>by omega,fun _=>rfl⟩) (by
  unfold sK;simp only [dec_f (show¬(p.length:Int)<(p.length:Int) by omega),cond_false,l1'])
 refine (show _=_ from l2).trans ?_;rw [J2 (aF4 (by omega) (by omega) h3)]
 congr 1
 by_cases hr: ∀i,i<p.length->Q3 p i
 · rw [if_pos hr]
   exact J2 ⟨fun h=>⟨J4.2 ho,hr,(Y5 h3 (VC.1 hr)).2 h⟩,fun h=>(Y5 h3 (VC.1 hr)).1 h.2.2⟩
 rw [if_neg hr,if_neg (fun h=>hr h.2.1)]
def hP (c:aR) (r:Int) (N:List Nd) (to:Int×Int) (out:List (Int×Int)):=
 (c.ar.1,c.ar.2,c.au.aa,c.ax.ao,c.ax.aq,c.ay.ai.ac,c.ay.ai.ae,c.ay.ai.af,c.ay.aj,c.ay.am,c.az,r,N,to.1,to.2,(0:Int),(0:Int),(0:Int),(0:Int),out)
noncomputable def yX (p w:List Int) (k:Nat):List (Int×Int):=(List.range k).filterMap (DX p w)
theorem FI (p w:List Int) (k:Nat):yX p w (k+1)=yX p w k++(match DX p w k with|some e=>[e]|none=>[]):=by
 unfold yX;rw [List.range_succ,List.filterMap_append];cases h:DX p w k<;>simp [h]
theorem IH (p w:List Int) (k:Nat):(yX p w k).length<=k:=by
 have:=List.length_filterMap_le (DX p w) (List.range k)
 rwa [List.length_range] at this
section
variable {p w : List Int} (hl : w.length + 1 = p.length) (h64 : p.length <= 64) (hc : DD p w)
include hl h64
theorem ME:BO ⟨p,w⟩=some (kF p w):=by
 have st:=cB (body:=zX) (fun i=>((i:Int),p,w,yX p w i)) w.length (fun i hi=>by
  have k1:=qN (i:=i) (by omega) 1 (by omega)
  have k2:=qN (i:=i) (by omega) 2 (by omega)
  have el:=IH p w i;rw [FI];unfold zX;simp only [aF,aJ (show (i:Int)<(w.length:Int) by omega),cond_true,show aA .i64 (aA .i64 (2*(i:Int))+1)=((2*i+1:Nat):Int) from k1,show aA .i64 (aA .i64 (2*(i:Int))+2)=((2*i+2:Nat):Int) from k2,
   rI (p:=p) (w:=w) (i:=2*i+1) (by omega) (by omega),rI (p:=p) (w:=w) (i:=2*i+2) (by omega) (by omega),aB,aE w i hi,aU (show i<1000000000 by omega)]
  unfold DX;generalize bK p w (2*i+1)=x;generalize bK p w (2*i+2)=y;generalize w[i]! =v
  by_cases a1:x<0
  · rw [aJ a1,cond_true,if_pos (.inl a1)];simp
  rw [dec_f a1,cond_false]
  by_cases a2:y<0
  · rw [aJ a2,cond_true,if_pos (.inr a2)];simp
  rw [dec_f a2,cond_false,if_neg (by omega)]
  by_cases a3:v=x
  · rw [eI a3,cond_true,if_pos a3,dB (by rw [bn];omega),aB]
  rw [eB a3,cond_false,if_neg a3,dB (by rw [bn];omega),aB])
 unfold BO;refine (show _=_ from st).trans (aL ?_);unfold zX;simp only [aF,dec_f (show¬(w.length:Int)<(w.length:Int) by omega),cond_false]
 rfl
include hc
theorem Y6 (hr: ∀x∈p,-1<=x/\x<=65535):aG oE (w,(w.length:Int),0,p,w,[])=some (⟨p,w⟩,kF p w):=by
 have st:=cB (body:=oE) (fun i=>(w,(w.length:Int),(i:Int),p,w,yX p w i)) w.length (fun i hi=>by
  have k1:=qN (i:=i) (by omega) 1 (by omega)
  have k2:=qN (i:=i) (by omega) 2 (by omega)
  have el:=IH p w i;have m1:=hr _ (mH hl hc (i:=2*i+1) (by omega))
  have m2:=hr _ (mH hl hc (i:=2*i+2) (by omega))
  have cv:=hc i hi;have fin: ∀(x y v:Int),(-1<=x/\x<=65535)->(-1<=y/\y<=65535)->(v=x\/v=y)->
   (bif decide (0<=x) then
    bif decide (0<=y) then (bP (yX p w i) [(aA .i64 (aA .i64 (x+y) -v),v)]).bind fun l3=>some (bR.next (ρ:=bH×List (Int×Int)) (w,(w.length:Int),aA .i64 ((i:Int)+1),p,w,l3))
    else some (bR.next (w,(w.length:Int),aA .i64 ((i:Int)+1),p,w,yX p w i))
   else some (bR.next (w,(w.length:Int),aA .i64 ((i:Int)+1),p,w,yX p w i)))=
   some (bR.next (w,(w.length:Int),((i+1:Nat):Int),p,w,yX p w i++(match (if x<0\/y<0 then none else if v=x then some (y,x) else some (x,y)) with|some e=>[e]|none=>[]))):=by
   intro x y v hx hy hv;rw [aU (show i<1000000000 by omega)]
   by_cases a1:x<0
   · rw [dec_f (by omega),cond_false,if_pos (.inl a1)];simp
   rw [aJ (by omega),cond_true]
   by_cases a2:y<0
   · rw [dec_f (by omega),cond_false,if_pos (.inr a2)];simp
   rw [aJ (by omega),cond_true,if_neg (by omega),dB (by rw [bn];omega),aB,mD (n:=x+y) ⟨by omega,by omega⟩,mD ⟨by omega,by omega⟩]
   by_cases a3:v=x
   · rw [if_pos a3,a3,show x+y-x=y by omega]
   rw [if_neg a3,show x+y-v=x by omega,show v=y by omega]
  rw [FI];unfold oE;have e1:bK p w (2*i+1)=if 2*i+1<w.length then w[2*i+1]! else p[2*i+1-w.length]!:=rfl
  have e2:bK p w (2*i+2)=if 2*i+2<w.length then w[2*i+2]! else p[2*i+2-w.length]!:=rfl
  have f1:=fin _ _ _ m1 m2 cv;simp only [aF,aJ (show (i:Int)<(w.length:Int) by omega),cond_true,show aA .i64 (aA .i64 (2*(i:Int))+1)=((2*i+1:Nat):Int) from k1,show aA .i64 (aA .i64 (2*(i:Int))+2)=((2*i+2:Nat):Int) from k2,aE w i hi,aB,beq_self_eq_true]
  by_cases b1:2*i+1<w.length
  · rw [if_pos b1] at e1
    rw [aJ (show ((2*i+1:Nat):Int)<(w.length:Int) by omega),cond_true,aE w _ b1,aB,<- e1]
    by_cases b2:2*i+2<w.length
    · rw [if_pos b2] at e2
      rw [aJ (show ((2*i+2:Nat):Int)<(w.length:Int) by omega),cond_true,aE w _ b2,aB,<- e2]
      exact f1
    rw [if_neg b2] at e2
    rw [dec_f (show¬((2*i+2:Nat):Int)<(w.length:Int) by omega),cond_false,mD ⟨by omega,by omega⟩,show ((2*i+2:Nat):Int) - (w.length:Int)=((2*i+2-w.length:Nat):Int) by omega,aE p _ (by omega),aB,<- e2]
    exact f1
  rw [if_neg b1] at e1
  rw [if_neg (show¬2*i+2<w.length by omega)] at e2
  rw [dec_f (show¬((2*i+1:Nat):Int)<(w.length:Int) by omega),cond_false,mD (n:=((2*i+1:Nat):Int) - (w.length:Int)) ⟨by omega,by omega⟩,show ((2*i+1:Nat):Int) - (w.length:Int)=((2*i+1-w.length:Nat):Int) by omega,aE p _ (by omega),aB,<- e1,
   dec_f (show¬((2*i+2:Nat):Int)<(w.length:Int) by omega),cond_false,mD (n:=((2*i+2:Nat):Int) - (w.length:Int)) ⟨by omega,by omega⟩,show ((2*i+2:Nat):Int) - (w.length:Int)=((2*i+2-w.length:Nat):Int) by omega,aE p _ (by omega),aB,<- e2]
  exact f1)
 refine (show _=_ from st).trans (aL ?_);unfold oE;simp only [dec_f (show¬(w.length:Int)<(w.length:Int) by omega),cond_false]
 rfl
end
structure GJ (f:List Pt) (p:List Int):Prop where
 one:1<=p.length
 most:p.length<=64
 once:FF p
 ids: ∀x∈p,MP f x
theorem GJ.rng {f:List Pt} (fok:cE f) {p:List Int} (h:GJ f p): ∀x∈p,-1<=x/\x<=65535:=fun x hx=>by
 rcases h.ids x hx with e|⟨e,hp⟩
 · omega
 have:=(fT fok hp).1
 have e2:=(fT fok hp).2;unfold iV at this;omega
section
variable {f : List Pt} (fok : cE f) {t : Int × Int} (r : cQ t) (r64 : tB t) {p : List Int} (pl : GJ f p)
include fok r64 pl
theorem Q4:CY ⟨f⟩ t p=some ⟨p,cK f t p⟩:=by
 unfold CY;rw [QC fok r64 pl.one pl.most pl.ids];rfl
theorem yY:J0 f (kF p (cK f t p))/\(kF p (cK f t p)).Nodup/\(kF p (cK f t p)).length<=63:=by
 have _:=r64;have R:=fZ (f:=f) (t:=t) pl.one;have m:=pl.most
 have:=R.1
 have el:=P4 p (cK f t p);exact ⟨aDv fok R.1 pl.most R.chosen pl.once fun x hx h0=>(pl.ids x hx).has h0,U6 R.1 R.chosen pl.once,by omega⟩
include r
theorem QI:zO ⟨f⟩ t p=some (⟨p,cK f t p⟩,kF p (cK f t p)):=by
 have R:=fZ (f:=f) (t:=t) pl.one;unfold zO;rw [BW fok r r64 pl.one pl.most pl.ids pl.once,aB];exact Y6 R.1 pl.most R.chosen (pl.rng fok)
end
def M9:dE:=⟨fC,⟨[],[]⟩⟩
structure aTX (c:aR) (f:List Pt) (p:List Int) (k:dE):Prop where
 ren:P0 c f (kF p (cK f c.ar p)) k.be
 ba:k.bg=⟨p,cK f c.ar p⟩
theorem VD {c:aR} (ok:bG c) {f:List Pt} (fok:cE f) {p:List Int} (pl:GJ f p):
 ∃R:aR×Int,rA c ⟨f⟩ (kF p (cK f c.ar p))=some R/\nM c ⟨f⟩ (kF p (cK f c.ar p))=some R/\(R.2=0/\P0 c f (kF p (cK f c.ar p)) R.1\/R=(fC,18)):=by
 obtain ⟨eok,nd,el⟩:=yY fok ok.now64 (t:=c.ar) pl;obtain ⟨R,r1,r2,r3⟩:=aM7 ok fok eok;have ee:pF f (kF p (cK f c.ar p))=0:=by
  unfold pF;rw [if_neg (c7.2 eok.cv),if_neg (c7.2 nd),if_neg (fun h=>h eok.kn)]
 have rn:=P6 ok fok (es:=kF p (cK f c.ar p)) (by omega) (fun _=>r1)
 rw [if_pos ee] at rn;exact ⟨R,rn,r2,r3⟩
def aNg (x y v:Int):List (Int×Int):=(if 0<=x/\x≠v then [(x,v)] else [])++(if 0<=y/\y≠v then [(y,v)] else [])
theorem Y7 {v:Int} {w N:List Int} {L i:Int} {k c:Nat} {E:List (Int×Int)} (hk:k+2<=N.length) (he:E.length+2<=1000000):
 aG kA (v,w,L,i,0+k,2,c,2,0,N,E)=some (.next (w,L,aA .i64 (i+1),N,E++aNg N[k]! N[k+1]! v)):=by
 have hd:((N.drop (0+k)).take 2).length=2:=by rw [bw,dc];omega
 have g0:aN ((N.drop (0+k)).take 2) 0=some N[k]!:=by
  have:=aE ((N.drop (0+k)).take 2) 0 (by omega)
  rw [kN (by omega),pD] at this
  simpa using this
 have g1:aN ((N.drop (0+k)).take 2) 1=some N[k+1]!:=by
  have:=aE ((N.drop (0+k)).take 2) 1 (by omega)
  rw [kN (by omega),pD] at this
  simpa using this
 have s0:kA (v,w,L,i,0+k,2,c,2,0,N,E)=some (.next (v,w,L,i,0+k,2,c,2,1,N,E++(if 0<=N[k]!/\N[k]!≠v then [(N[k]!,v)] else []))):=by
  unfold kA;simp only [aJ (show (0:Int)<2 by decide),cond_true,g0,aB,show aA .i64 ((0:Int)+1)=1 from by decide]
  by_cases a:0<=N[k]!
  · rw [aJ a,cond_true]
    by_cases b:N[k]! =v
    · rw [bT b,cond_false,if_neg (fun h=>h.2 b),bq]
    rw [cP b,cond_true,if_pos ⟨a,b⟩,dB (by rw [bn];omega),aB]
  rw [dec_f a,cond_false,if_neg (fun h=>a h.1),bq]
 obtain ⟨E1,hE⟩: ∃E1,E1=E++(if 0<=N[k]!/\N[k]!≠v then [(N[k]!,v)] else []):=⟨_,rfl⟩
 have l1:E1.length<=E.length+1:=by
  rw [hE,bo];split<;>simp
 rw [<- hE] at s0;have s1:kA (v,w,L,i,0+k,2,c,2,1,N,E1)=some (.next (v,w,L,i,0+k,2,c,2,2,N,E1++(if 0<=N[k+1]!/\N[k+1]!≠v then [(N[k+1]!,v)] else []))):=by
  unfold kA;simp only [aJ (show (1:Int)<2 by decide),cond_true,g1,aB,show aA .i64 ((1:Int)+1)=2 from by decide]
  by_cases a:0<=N[k+1]!
  · rw [aJ a,cond_true]
    by_cases b:N[k+1]! =v
    · rw [bT b,cond_false,if_neg (fun h=>h.2 b),bq]
    rw [cP b,cond_true,if_pos ⟨a,b⟩,dB (by rw [bn];omega),aB]
  rw [dec_f a,cond_false,if_neg (fun h=>a h.1),bq]
 rw [bA s0,bA s1];refine aL ?_;unfold kA;simp only [dec_f (show¬(2:Int)<2 by decide),cond_false]
 unfold aNg;rw [hE,cm]
section
variable {f : List Pt} {t : Int × Int} {p w : List Int} (hr : P3 f t p w) (h64 : p.length <= 64) (ho : FF p)
include hr ho
theorem aNh {i:Nat} (hi:i<w.length):aNg (bK p w (2*i+1)) (bK p w (2*i+2)) w[i]! =(match DX p w i with|some e=>[e]|none=>[]):=by
 have hw:=hr.2 i hi;have ne:0<=bK p w (2*i+1)->bK p w (2*i+1)≠bK p w (2*i+2):=fun h=>M7 hr.1 hr.chosen ho hi h
 have hor:=aCm f t (bK p w (2*i+1)) (bK p w (2*i+2));unfold DX;rw [hw];generalize hx:bK p w (2*i+1)=x at ne hor ⊢;generalize hy:bK p w (2*i+2)=y at ne hor ⊢;unfold aNg
 by_cases a1:x<0
 · have:DF f t x y=y:=by unfold DF;rw [if_pos a1]
   rw [this,if_neg (by omega),if_neg (by omega),if_pos (.inl a1)];rfl
 by_cases a2:y<0
 · have:DF f t x y=x:=by unfold DF;rw [if_neg a1,if_pos a2]
   rw [this,if_neg (by omega),if_neg (by omega),if_pos (.inr a2)];rfl
 have ne:=ne (by omega)
 rw [if_neg (show¬(x<0\/y<0) by omega)]
 rcases hor with h|h
 · rw [h,if_neg (by omega),if_pos ⟨by omega,fun e=>ne e.symm⟩,if_pos rfl];rfl
 rw [h,if_pos ⟨by omega,ne⟩,if_neg (by omega),if_neg (fun e=>ne e.symm)];rfl
include h64
theorem QJ:zP ⟨p,w⟩=some (kF p w):=by
 have hl:=hr.1;have hN:(w++p).length=w.length+p.length:=bo;have nd: ∀j,j<w.length+p.length->(w++p)[j]! =bK p w j:=fun j hj=>by
  unfold bK;split
  · rw [eX (by omega)]
  rw [gN (by omega)]
 have st:=cB (body:=sB) (fun i=>(w,(w.length:Int),(i:Int),w++p,yX p w i)) w.length (fun i hi=>by
  have k1:=qN (i:=i) (by omega) 1 (by omega)
  have k3:aA .i64 ((aA .i64 (2*(i:Int)))+3)=((2*i+3:Nat):Int):=by
   rw [mD (n:=2*(i:Int)) ⟨by omega,by omega⟩,mD ⟨by omega,by omega⟩];omega
  have el:=IH p w i;unfold sB;simp only [aF,aJ (show (i:Int)<(w.length:Int) by omega),cond_true,aE w i hi,aB,show aA .i64 (aA .i64 (2*(i:Int))+1)=((2*i+1:Nat):Int) from k1,k3,hN,
   aJ (show (0:Int)<=((2*i+1:Nat):Int) by omega),aJ (show ((2*i+1:Nat):Int)<=((2*i+3:Nat):Int) by omega),aJ (show ((2*i+3:Nat):Int)<=((w.length+p.length:Nat):Int) by omega),cy,cond_true,db,
   show 2*i+3- (2*i+1)=2 by omega]
  rw [show ((2:Nat):Int)=2 from rfl,Y7 (by omega) (by omega),nd _ (by omega),nd _ (by omega),show 2*i+1+1=2*i+2 from rfl,aNh hr ho hi,aU (show i<1000000000 by omega),FI]
  all_goals rfl)
 unfold zP;rw [show aCP w p=some (w++p) from by unfold aCP;rw [if_pos ⟨by omega,by omega⟩]]
 simp only [aB,aF];refine (show _=_ from st).trans (aL ?_);unfold sB;simp only [aF,dec_f (show¬(w.length:Int)<(w.length:Int) by omega),cond_false]
 rfl
end
theorem II {c:aR} (ok:bG c) {f:List Pt} (fok:cE f) {p:List Int} (pl:GJ f p):
 ∃R:dE×Int,iD c ⟨f⟩ p=some R/\pQ c ⟨f⟩ p=some R/\(R.2=0/\aTX c f p R.1\/R=(M9,18)):=by
 have h1:=BW fok ok.nowv ok.now64 pl.one pl.most pl.ids pl.once;have g1:=Q4 fok (t:=c.ar) ok.now64 pl;have B:=fZ (f:=f) (t:=c.ar) pl.one;have e1:=QJ B pl.most pl.once;have eo:=ME B.1 pl.most;obtain ⟨R,r1,r2,r3⟩:=VD ok fok pl;rcases r3 with ⟨q0,qq⟩|he
 · refine ⟨(⟨R.1,⟨p,cK f c.ar p⟩⟩,0),?_,?_,.inl ⟨rfl,qq,rfl⟩⟩
   · unfold iD
     simp only [h1,aB,e1,r1,q0,show ((0:Int) !=0)=false from rfl,cond_false]
   unfold pQ
   simp only [g1,aB,eo,r2,q0,show ((0:Int) !=0)=false from rfl,cond_false]
 refine ⟨(M9,18),?_,?_,.inr rfl⟩
 · unfold iD
   simp only [h1,aB,e1,r1,he,show ((18:Int) !=0)=true from rfl,cond_true];rfl
 unfold pQ
 simp only [g1,aB,eo,r2,he,show ((18:Int) !=0)=true from rfl,cond_true];rfl
def dO (p:List Int):List Int:=p.filter fun x=>decide (0<=x)
theorem nO {p:List Int} {j:Nat} (hj:j<p.length):dO (p.take (j+1))=dO (p.take j)++if 0<=p[j]! then [p[j]!] else []:=by
 unfold dO;rw [fQ hj,ci]
 by_cases h:0<=p[j]!
 · rw [if_pos h,cp (by simpa using h),df]
 rw [if_neg h,cq (by simpa using h),df]
theorem Y8 (p:List Int) (j:Nat):(dO (p.take j)).length<=j:=by
 have:=cf (fun x:Int=>decide (0<=x)) (p.take j)
 rw [bw] at this;unfold dO;omega
theorem J5 (p:List Int) (hl:p.length<=1000):F6 p=some (dO p):=by
 have st:=cB (body:=xD) (fun i=>(p,(i:Int),dO (p.take i))) p.length (fun i hi=>by
  have el:=Y8 p i;rw [nO hi];unfold xD;simp only [aF,aJ (show (i:Int)<(p.length:Int) by omega),cond_true,aE p i hi,aB,aU (show i<1000000000 by omega)]
  by_cases h:0<=p[i]!
  · rw [aJ h,cond_true,if_pos h,dB (by rw [bn];omega),aB]
  rw [dec_f h,cond_false,if_neg h,bq])
 unfold F6;refine (show _=_ from st).trans (aL ?_);unfold xD;simp only [aF,dec_f (show¬(p.length:Int)<(p.length:Int) by omega),cond_false,cb]
structure S0 (p:List Int) (i j:Nat) (L:List Int):Prop where
 len:L.length=p.length
 le:i<=j
 lt:j<=p.length
 got:L.take i=dO (p.take j)
 rest: ∀k,j<=k->k<p.length->L[k]! =p[k]!
theorem S0.cnt {p:List Int} {i j:Nat} {L:List Int} (h:S0 p i j L):i=(dO (p.take j)).length:=by
 have:=congrArg List.length h.got
 rw [bw,h.len] at this
 have:=h.le;have:=h.lt
 omega
theorem aNi {p:List Int} {i:Nat} {L:List Int} (h:S0 p i p.length L): ∃M:List Int,bB p ((i:Int),(p.length:Int),L)=some (.done (.done (i,p.length,M)))/\M.length=p.length/\M.take i=dO p:=by
 have hl:=h.len;have hi:=h.le;have got:=h.got;rw [cb] at got;unfold bB
 simp only [aF,hl,dec_f (show¬(p.length:Int)<(p.length:Int) by omega),cond_false,aJ (show (0:Int)<=(i:Int) by omega),aJ (show (i:Int)<=(p.length:Int) by omega),aJ (show (p.length:Int)<=(p.length:Int) by omega),cy,cond_true,db,Nat.zero_add,cw,Bool.and_true]
 by_cases h0:p.length-i=0
 · have n1:Nat.beq (p.length-i) 0=true:=by rw [h0];rfl
   rw [n1,cond_true,mF L i (by omega),aB,beq_self_eq_true,cond_true]
   exact ⟨L,rfl,hl,got⟩
 have n1:Nat.beq (p.length-i) 0=false:=by
  cases hb:Nat.beq (p.length-i) 0 with
  |false=>rfl
  |true=>have:=Nat.eq_of_beq_eq_true hb;omega
 have n2:Nat.ble (i+(p.length-i)) p.length=true:=Nat.ble_eq_true_of_le (by omega)
 have ll:(fS L i (bm (p.length-i) (0:Int))).length=p.length:=by
  unfold fS;simp;omega
 rw [n1,cond_false,n2,cond_true,mF _ i (by rw [ll];omega),aB,ll,beq_self_eq_true,cond_true]
 refine ⟨_,rfl,ll,?_⟩;rw [<- got];unfold fS;rw [cm,cd (by rw [bw];omega),List.take_take,Nat.min_self]
theorem aTY {p:List Int} (hp:p.length<=1000): ∀(d i j:Nat) (L:List Int),p.length-j<=d->S0 p i j L->
 ∃(n:Nat) (M:List Int),aG (bB p) ((i:Int),(j:Int),L)=some (.done (n,p.length,M))/\n=(dO p).length/\M.length=p.length/\M.take n=dO p:=by
 have fin: ∀(i j:Nat) (L:List Int),p.length<=j->S0 p i j L-> ∃(n:Nat) (M:List Int),aG (bB p) ((i:Int),(j:Int),L)=some (.done (n,p.length,M))/\n=(dO p).length/\M.length=p.length/\M.take n=dO p:=by
  intro i j L hj h;obtain rfl:j=p.length:=by have:=h.lt;omega
  obtain ⟨M,m1,m2,m3⟩:=aNi h;exact ⟨i,M,aL m1,by rw [h.cnt,cb],m2,m3⟩
 intro d
 induction d with
 |zero=>exact fun i j L hd h=>fin i j L (by omega) h
 |succ d ih=>
  intro i j L hd h
  by_cases hj:p.length<=j
  · exact fin i j L hj h
  have hl:=h.len;have hle:=h.le;have e:L[j]! =p[j]!:=h.rest j (dd _) (by omega)
  have st:bB p ((i:Int),(j:Int),L)=some (.next (((if 0<=p[j]! then i+1 else i:Nat):Int),((j+1:Nat):Int),if 0<=p[j]! then L.set i p[j]! else L)):=by
   unfold bB lT;simp only [aF,hl,aJ (show (j:Int)<(p.length:Int) by omega),cond_true,aE L j (by omega),aB,e,aU (show i<1000000000 by omega),aU (show j<1000000000 by omega)]
   by_cases h0:0<=p[j]!
   · rw [dec_f (by omega),cw,cond_true,aE L i (by omega),aB,if_pos h0,if_pos h0];rfl
   rw [aJ (by omega),bz,cond_false,if_neg h0,if_neg h0]
  rw [bA st];refine ih _ _ _ (by omega) ?_
  by_cases h0:0<=p[j]!
  · rw [if_pos h0,if_pos h0]
    refine ⟨by rw [bu];exact hl,by omega,by omega,?_,fun k hk hk2=>?_⟩
    · rw [nO (by omega),if_pos h0,<- h.got,fQ (by rw [bu];omega),aZ,if_pos ⟨rfl,by omega⟩,List.take_set_of_le (dd i)]
    rw [aZ,if_neg (by omega)];exact h.rest k (by omega) hk2
  rw [if_neg h0,if_neg h0]
  refine ⟨hl,by omega,by omega,?_,fun k hk hk2=>h.rest k (by omega) hk2⟩
  rw [nO (by omega),if_neg h0,bq];exact h.got
theorem Y9: ∀{l:List Int},(∀x∈l,0<=x)->dO l=l:=fun {l} h=>List.filter_eq_self.2 fun x hx=>by simpa using h x hx
theorem G9 (p:List Int) (hp:p.length<=1000): ∃(n:Nat) (M:List Int),bU p=some (n,p.length,M)/\n=(dO p).length/\M.length=p.length/\M.take n=dO p:=by
 have key: ∀(d m:Nat),p.length-m<=d->m<=p.length->(∀k,k<m->0<=p[k]!)-> ∃(n:Nat) (M:List Int),aG (bC p) ((p.length:Int),(m:Int),p)=some (n,p.length,M)/\n=(dO p).length/\M.length=p.length/\M.take n=dO p:=by
  intro d;have fin: ∀m,m=p.length->(∀k,k<m->0<=p[k]!)-> ∃(n:Nat) (M:List Int),aG (bC p) ((p.length:Int),(m:Int),p)=some (n,p.length,M)/\n=(dO p).length/\M.length=p.length/\M.take n=dO p:=by
   intro m hm h;subst hm;have e:dO p=p:=Y9 fun x hx=>by
    obtain ⟨i,hi,rfl⟩:=aY.1 hx;exact h i hi
   refine ⟨p.length,p,aL ?_,by rw [e],rfl,by rw [cb,e]⟩
   unfold bC;simp only [dec_f (show¬(p.length:Int)<(p.length:Int) by omega),cond_false,beq_self_eq_true,cond_true]
  induction d with
  |zero=>exact fun m h1 h2 h=>fin m (by omega) h
  |succ d ih=>
   intro m h1 h2 h
   by_cases hm:m=p.length
   · exact fin m hm h
   by_cases h0:0<=p[m]!
   · have st:bC p ((p.length:Int),(m:Int),p)=some (.next ((p.length:Int),((m+1:Nat):Int),p)):=by
      unfold bC lT;simp only [aJ (show (m:Int)<(p.length:Int) by omega),cond_true,aE p m (by omega),aB,dec_f (show¬p[m]!<0 by omega),cond_false,aU (show m<1000000000 by omega)]
     rw [bA st];refine ih (m+1) (by omega) (by omega) fun k hk=>?_
     by_cases e:k=m
     · rw [e];exact h0
     exact h k (by omega)
   have hd:S0 p m (m+1) p:=⟨rfl,by omega,by omega,by
    rw [nO (by omega),if_neg h0,bq,Y9 fun x hx=>?_]
    obtain ⟨i,hi,_,rfl⟩:=cH.1 hx;exact h i hi,fun k _ _=>rfl⟩
   obtain ⟨n,M,m1,m2,m3,m4⟩:=aTY hp p.length m (m+1) p (by omega) hd
   refine ⟨n,M,aL ?_,m2,m3,m4⟩;unfold bC lT;simp only [aJ (show (m:Int)<(p.length:Int) by omega),cond_true,aE p m (by omega),aB,aJ (show p[m]!<0 by omega),beq_self_eq_true,eB (show (m:Int)≠ -1 by omega),cond_false,aU (show m<1000000000 by omega),m1]
 unfold bU;exact key p.length 0 (by omega) (de _) (fun k hk=>absurd hk (Nat.not_lt_zero k))
def aDA (n:Nat):Prop:= ∃i,i<7/\n=2^i
theorem ZA {n:Nat} (h1:1<=n) (h2:n<=64):HL .i64 (n:Int) ((n-1:Nat):Int)=0↔aDA n:=by
 have key: ∀k:Fin 65,1<=k.val->((HL .i64 (k.val:Int) ((k.val-1:Nat):Int)=0)↔ ∃i,i<7/\k.val=2^i):=by decide+kernel
 exact key ⟨n,by omega⟩ h1
theorem dbl {q:Nat} (h:q<=64):aA .i64 ((q:Int)*2)=((2*q:Nat):Int):=by rw [mD ⟨by omega,by omega⟩];omega
theorem aNj (i:Nat):2^(i+1)=2*2^i:=by rw [Nat.pow_succ];omega
theorem QK {n:Nat}:zV (n:Int)=some (decide (aDA n)):=by
 have st:=qM (body:=sL) (fun i=>((n:Int),((2^i:Nat):Int))) 7 (fun i=>n≠2^i) (r:=true) (e:=false) (fun i hi=>by
  have b1:2^i<=64:=Nat.le_trans (Nat.pow_le_pow_right (by omega) (show i<=6 by omega)) (by decide)
  unfold sL;simp only [aJ (show ((2^i:Nat):Int)<=64 by omega),cond_true]
  by_cases h:n=2^i
  · rw [eI (by omega)];exact ⟨fun _=>rfl,fun k=>absurd h k⟩
  · rw [eB (by omega),cond_false,dbl b1,aNj]
    exact ⟨fun k=>absurd h k,fun _=>rfl⟩) (by
  unfold sL
  rfl)
 unfold zV;refine (show _=_ from st).trans ?_
 by_cases h:aDA n
 · obtain ⟨i,hi,e⟩:=h
   rw [if_neg (fun k=>k i hi e),aJ ⟨i,hi,e⟩]
 rw [if_pos (fun i hi e=>h ⟨i,hi,e⟩),dec_f h]
theorem rJ (f:List Pt):(rG f).length=f.length:=ce ..
theorem DI {f:List Pt} {i:Nat} (h:i<f.length):(rG f)[i]! =(f[i]!).1:=by
 unfold rG;rw [getElem!_pos _ i (by rw [ce];exact h),getElem!_pos f i h,List.getElem_map]
section
variable {f : List Pt} (h64 : f.length <= 64)
include h64
end
theorem aA2:EX=E0:=rfl
structure yZ (k:dE):Prop where
 clk:bG k.be
 br:Y4 k.bg.ba k.bg.bc
 pow:aDA k.bg.ba.length
 perm:(rG k.be.au.aa).Perm (dO k.bg.ba)
 right:k.bg.bc=cK k.be.au.aa k.be.ar k.bg.ba
 cert:(k.be.ax.aq.map fun x=>x.2).Perm (kF k.bg.ba k.bg.bc)
theorem xN {p:List Int} {x:Int}:x∈dO p↔x∈p/\0<=x:=by unfold dO;rw [List.mem_filter];simp
theorem IJ {f:List Pt} {p w:List Int} (br:Y4 p w) (pm:(rG f).Perm (dO p)):GJ f p:=by
 refine ⟨br.one,br.most,br.once,fun x hx=>?_⟩
 have:=br.rng x hx
 by_cases h:0<=x
 · exact .inr ⟨h,J1.1 (pm.mem_iff.2 (xN.2 ⟨hx,h⟩))⟩
 exact .inl (by omega)
theorem QL {p:List Int} (h:FF p):(dO p).Nodup:=by
 have go: ∀(j:Nat),j<=p.length->(dO (p.take j)).Nodup:=by
  intro j
  induction j with
  |zero=>intro _;simp [dO]
  |succ j ih=>
   intro hj;rw [nO (by omega)]
   by_cases h0:0<=p[j]!
   · rw [if_pos h0]
     refine List.nodup_append.2 ⟨ih (by omega),by simp,fun a ha b hb e=>?_⟩
     obtain rfl:b=p[j]!:=by simpa using hb
     subst e;have hm:=(xN.1 ha).1;obtain ⟨i,hi,_,e⟩:=cH.1 hm
     have:=h i j hi (by omega) e
     omega
   rw [if_neg h0,bq];exact ih (by omega)
 have:=go p.length (dd _)
 rwa [cb] at this
theorem aA3 {f:List Pt} (h:gS f):(rG f).Pairwise (· <= ·):=by
 refine ck.2 fun i j hi hj hij=>?_
 rw [rJ] at hi hj
 have:=hJ h hij hj
 rw [<- getElem!_pos (rG f) i (by rw [rJ];exact hi),<- getElem!_pos (rG f) j (by rw [rJ];exact hj),DI hi,DI hj]
 omega
theorem ZB {f:List Pt} (h:gS f) (l:List Int):nY l=rG f↔(rG f).Perm l:=by
 constructor
 · intro e;rw [<- e];exact xU l
 intro pm
 exact List.Perm.eq_of_pairwise (le:=(· <= ·)) (fun a b _ _ h1 h2=>Int.le_antisymm h1 h2) (CL l) (aA3 h) ((xU l).trans pm.symm)
theorem Q5 (l:List Int) (f:List Pt) (hl:l.length<=1000):cR l f ()=some (decide (l=rG f)):=by
 unfold cR;simp only [aF]
 by_cases h:l.length=f.length
 case neg=>rw [cP (by omega),cond_true,dec_f (fun e=>h (by rw [e,rJ]))]
 rw [bT (by omega),cond_false]
 have key:=qM (body:=cJ) (fun i=>(f,l,(l.length:Int),(i:Int))) l.length (fun i=>l[i]! =(f[i]!).1) (r:=false) (e:=true) (fun i hi=>by
  unfold cJ yA;simp only [aJ (show (i:Int)<(l.length:Int) by omega),cond_true,aE l i hi,aE f i (by omega),aB,aU (show i<1000000000 by omega)]
  by_cases q:l[i]! =(f[i]!).1
  · rw [eI q];exact ⟨fun w=>absurd q w,fun _=>rfl⟩
  · rw [eB q];exact ⟨fun _=>rfl,fun w=>absurd w q⟩) (by
  unfold cJ;simp only [dec_f (show¬(l.length:Int)<(l.length:Int) by omega),cond_false])
 refine (show _=_ from key).trans ?_
 by_cases q:l=rG f
 · rw [if_pos (fun i hi=>by rw [q,DI (by omega)]),aJ q]
 rw [if_neg (fun w=>q (wB (by rw [rJ];exact h) fun i hi=>by rw [w i hi,DI (by omega)])),dec_f q]
theorem VE (a b:List Int) (ha:a.length<=1000):oZ a b=some (decide (a=b)):=by
 unfold oZ;simp only [aF]
 by_cases h:a.length=b.length
 case neg=>rw [cP (by omega),cond_true,dec_f (fun e=>h (by rw [e]))]
 rw [bT (by omega),cond_false]
 have key:=qM (body:=lJ) (fun i=>(a,b,(a.length:Int),(i:Int))) a.length (fun i=>a[i]! =b[i]!) (r:=false) (e:=true) (fun i hi=>by
  unfold lJ;simp only [aJ (show (i:Int)<(a.length:Int) by omega),cond_true,aE a i hi,aE b i (by omega),aB,aU (show i<1000000000 by omega)]
  by_cases q:a[i]! =b[i]!
  · rw [bT q];exact ⟨fun w=>absurd q w,fun _=>rfl⟩
  · rw [cP q];exact ⟨fun _=>rfl,fun w=>absurd w q⟩) (by
  unfold lJ;simp only [dec_f (show¬(a.length:Int)<(a.length:Int) by omega),cond_false])
 refine (show _=_ from key).trans ?_
 by_cases q:a=b
 · rw [if_pos (fun i _=>by rw [q]),aJ q]
 rw [if_neg (fun w=>q (wB h w)),dec_f q]
theorem ZC {n:Nat} {M:List Int} (hn:n<=M.length) (hm:M.length<=1000):F0s TL n M=some (nY (M.take n)++M.drop n):=by
 unfold F0s LV TL;rw [if_pos hn,if_pos (by rw [bw];omega)]
 simp only [xH,if_true,Option.map_some]
theorem S1 {c:aR} (ok:bG c) {es:List (Int×Int)} (_nd:es.Nodup):(es.length=c.ax.aq.length/\ ∀i,i<c.ax.aq.length->(c.ax.aq[i]!).2∈es)↔(c.ax.aq.map fun x=>x.2).Perm es:=by
 have cl:(c.ax.aq.map fun x=>x.2).length=c.ax.aq.length:=ce ..
 constructor
 · rintro ⟨h1,h2⟩
   exact yV (MC ok.crt) (fun x hx=>by
    obtain ⟨i,hi,rfl⟩:=FE.2 hx;exact h2 i hi) (by omega)
 intro h
 exact ⟨by rw [<- h.length_eq,cl],fun i hi=>h.mem_iff.1 (FE.1 ⟨i,hi,rfl⟩)⟩
theorem DZ {k:dE} (fit:wC k.be) (hl:k.bg.ba.length<=1000) (wl:k.bg.bc.length<=1000):sA k=some (if yZ k then 0 else 8):=by
 unfold sA;rw [oR fit,aB]
 by_cases ok:bG k.be
 case neg=>rw [if_neg ok,if_neg (fun h=>ok h.clk)];rfl
 rw [if_pos ok,bT rfl,cond_false,show pN k.bg=_ from LK k.bg.ba k.bg.bc hl wl,aB]
 by_cases br:Y4 k.bg.ba k.bg.bc
 case neg=>rw [if_neg br,if_neg (fun h=>br h.br)];rfl
 have b1:=br.one;have b2:=br.most;rw [if_pos br,bT rfl,cond_false,aF,qB (by omega) b1]
 by_cases pw:aDA k.bg.ba.length
 case neg=>rw [cP (fun h=>pw ((ZA b1 b2).1 h)),cond_true,if_neg (fun h=>pw h.pow)]
 rw [bT ((ZA b1 b2).2 pw),cond_false,aV (by omega),aB]
 obtain ⟨n,M,e1,e2,e3,e4⟩:=G9 k.bg.ba hl;have nl:n<=M.length:=by
  have:=cf (fun x:Int=>decide (0<=x)) k.bg.ba
  rw [e2,e3];exact this
 have tk:(nY (M.take n)++M.drop n).take n=nY (dO k.bg.ba):=by
  rw [cd (by rw [xH,bw];omega),cu (by rw [xH,bw];omega),e4]
 have ll:(nY (M.take n)++M.drop n).length=M.length:=by rw [bo,xH,bw,dc];omega
 have fe:k.be.au=⟨k.be.au.aa⟩:=rfl;rw [e1,aB];dsimp only;rw [ZC nl (by omega),aB,ll,beq_self_eq_true,cond_true,tk,Q5 _ _ (by rw [xH];omega),aB]
 by_cases pm:(rG k.be.au.aa).Perm (dO k.bg.ba)
 case neg=>rw [dec_f (fun h=>pm ((ZB ok.fld.2.2 _).1 h)),if_neg (fun h=>pm h.perm)];rfl
 have pl:=IJ br pm;rw [aJ ((ZB ok.fld.2.2 _).2 pm),bz,cond_false,fe,QI ok.fld ok.nowv ok.now64 pl,aB];dsimp only;obtain ⟨_,nd,el⟩:=yY ok.fld ok.now64 (t:=k.be.ar) pl;have R:=fZ (f:=k.be.au.aa) (t:=k.be.ar) pl.one;rw [VE _ _ (by have:=R.1;omega),aB]
 by_cases hw:cK k.be.au.aa k.be.ar k.bg.ba=k.bg.bc
 case neg=>rw [dec_f hw,if_neg (fun h=>hw h.right.symm)];rfl
 rw [aJ hw,bz,cond_false,aA2,aNe _ _ (by omega) (by have:=ok.bd;omega),aB]
 by_cases hc:(k.be.ax.aq.map fun x=>x.2).Perm (kF k.bg.ba (cK k.be.au.aa k.be.ar k.bg.ba))
 · rw [aJ ((S1 ok nd).2 hc),if_pos ⟨ok,br,pw,pm,hw.symm,by rw [<- hw];exact hc⟩];rfl
 rw [dec_f (fun h=>hc ((S1 ok nd).1 h)),if_neg (fun h=>hc (by rw [hw];exact h.cert))];rfl
theorem QM {f:List Pt} (fok:cE f) (p:List Int) (hp:p.length<=1000):zW ⟨f⟩ p=some (decide (∀i,i<p.length->p[i]! = -1\/kJ f p[i]!)):=by
 have st:=qM (body:=sM) (fun i=>(p,(i:Int),f)) p.length (fun i=>p[i]! = -1\/kJ f p[i]!) (r:=false) (e:=true) (fun i hi=>by
  unfold sM;simp only [aF,aJ (show (i:Int)<(p.length:Int) by omega),cond_true,aE p i hi,aB,aU (show i<1000000000 by omega)]
  by_cases h:p[i]! = -1
  · rw [bT h];exact ⟨fun k=>absurd (.inl h) k,fun _=>rfl⟩
  · rw [cP h,cond_true]
    by_cases h2:kJ f p[i]!
    · obtain ⟨m,_,e,_⟩:=DA fok h2
      rw [e,aB,dec_f (by omega)];exact ⟨fun k=>absurd (.inr h2) k,fun _=>rfl⟩
    rw [U3 fok h2,aB]
    exact ⟨fun _=>rfl,fun k=>by rcases k with k|k;exact absurd k h;exact absurd k h2⟩) (by
  unfold sM;simp only [aF,dec_f (show¬(p.length:Int)<(p.length:Int) by omega),cond_false])
 unfold zW;refine (show _=_ from st).trans ?_
 by_cases h: ∀i,i<p.length->p[i]! = -1\/kJ f p[i]!
 · rw [if_pos h,aJ h]
 rw [if_neg h,dec_f h]
theorem Q6 {f:List Pt} (fok:cE f) {t:Int×Int} (r64:tB t) {p w:List Int} (br:Y4 p w) (pl:GJ f p):yK ⟨p,w⟩ ⟨f⟩ t=some (decide (w=cK f t p)):=by
 have b2:=br.most;have b3:=br.len;have st:=qM (body:=uO) (fun i=>((i:Int),p,w,f,t)) w.length (fun i=>w[i]! =DF f t (bK p w (2*i+1)) (bK p w (2*i+2))) (r:=false) (e:=true) (fun i hi=>by
  have k1:=qN (i:=i) (by omega) 1 (by omega)
  have k2:=qN (i:=i) (by omega) 2 (by omega)
  unfold uO;simp only [aF,aJ (show (i:Int)<(w.length:Int) by omega),cond_true,show aA .i64 (aA .i64 (2*(i:Int))+1)=((2*i+1:Nat):Int) from k1,show aA .i64 (aA .i64 (2*(i:Int))+2)=((2*i+2:Nat):Int) from k2,
   rI (p:=p) (w:=w) (i:=2*i+1) (by omega) (by omega),rI (p:=p) (w:=w) (i:=2*i+2) (by omega) (by omega),aB,aE w i hi,aU (show i<1000000000 by omega),
   J3 fok r64 (pl.ids _ (mH b3 br.cho (i:=2*i+1) (by omega))) (pl.ids _ (mH b3 br.cho (i:=2*i+2) (by omega)))]
  by_cases h:w[i]! =DF f t (bK p w (2*i+1)) (bK p w (2*i+2))
  · rw [bT h];exact ⟨fun k=>absurd h k,fun _=>rfl⟩
  · rw [cP h];exact ⟨fun _=>rfl,fun k=>absurd k h⟩) (by
  unfold uO;simp only [aF,dec_f (show¬(w.length:Int)<(w.length:Int) by omega),cond_false])
 unfold yK;refine (show _=_ from st).trans ?_;have R:=fZ (f:=f) (t:=t) pl.one
 by_cases h:w=cK f t p
 · rw [if_pos (by rw [h];exact R.2),aJ h]
 rw [if_neg (fun k=>h (aDu ⟨b3,k⟩ R)),dec_f h]
theorem ZD {f:List Pt} (fok:cE f) {t:Int×Int} {p:List Int} (pl:GJ f p) {e:Int×Int} (he:e∈kF p (cK f t p)):hY (iT f e.2) (iT f e.1) t:=by
 have R:=fZ (f:=f) (t:=t) pl.one;have R1:=R.1;obtain ⟨i,hi,h⟩:=P5.1 he;obtain ⟨a1,a2,a3⟩:=DG h;have ne:=M7 R.1 R.chosen pl.once hi a1;have hx:=(pl.ids _ (mH R.1 R.chosen (i:=2*i+1) (by omega))).has a1
 have hy:=(pl.ids _ (mH R.1 R.chosen (i:=2*i+2) (by omega))).has a2
 have wv:=R.2 i hi;unfold DF at wv;rw [if_neg (by omega),if_neg (by omega)] at wv
 by_cases ld:hY (iT f (bK p (cK f t p) (2*i+1))) (iT f (bK p (cK f t p) (2*i+2))) t
 · rw [if_pos ld] at wv
   rcases a3 with ⟨rfl,_⟩|⟨_,h⟩
   · exact ld
   exact absurd wv h
 rw [if_neg ld] at wv
 rcases a3 with ⟨_,h⟩|⟨rfl,_⟩
 · rw [wv] at h;exact absurd h.symm ne
 exact FG t (by rw [(fT fok hx).2,(fT fok hy).2];exact ne) ld
theorem FJ {k:dE} (fit:wC k.be) (hl:k.bg.ba.length<=1000) (wl:k.bg.bc.length<=1000):oL k=some (if yZ k then 0 else 8):=by
 unfold oL;rw [PY fit,aB]
 by_cases ok:bG k.be
 case neg=>rw [if_neg ok,if_neg (fun h=>ok h.clk)];rfl
 rw [if_pos ok,bT rfl,cond_false,show vX k.bg=_ from QH k.bg.ba k.bg.bc hl wl,aB]
 by_cases br:Y4 k.bg.ba k.bg.bc
 case neg=>rw [if_neg br,if_neg (fun h=>br h.br)];rfl
 have b1:=br.one;have b2:=br.most;rw [if_pos br,bT rfl,cond_false,aF,QK,aB]
 by_cases pw:aDA k.bg.ba.length
 case neg=>rw [dec_f pw,if_neg (fun h=>pw h.pow)];rfl
 have fe:k.be.au=⟨k.be.au.aa⟩:=rfl;rw [aJ pw,bz,cond_false,fe,QM ok.fld _ hl,aB]
 by_cases pm:(rG k.be.au.aa).Perm (dO k.bg.ba)
 case neg=>
  by_cases kn: ∀i,i<k.bg.ba.length->k.bg.ba[i]! = -1\/kJ k.be.au.aa k.bg.ba[i]!
  case neg=>rw [dec_f kn,if_neg (fun h=>pm h.perm)];rfl
  rw [aJ kn,bz,cond_false,J5 _ hl,aB,aF,aF,if_neg (fun h=>pm h.perm)]
  rw [cP (fun h=>pm ?_)]
  · rfl
  have h:((dO k.bg.ba).length:Int)=(k.be.au.aa.length:Int):=h;refine (yV (QL br.once) (fun x hx=>?_) (by rw [rJ];omega)).symm
  obtain ⟨h1,h2⟩:=xN.1 hx;obtain ⟨i,hi,rfl⟩:=aY.1 h1;rcases kn i hi with e|e
  · omega
  exact J1.2 e
 have pl:=IJ br pm;have kn: ∀i,i<k.bg.ba.length->k.bg.ba[i]! = -1\/kJ k.be.au.aa k.bg.ba[i]!:=fun i hi=>by
  rcases pl.ids _ (bI hi) with e|e
  · exact .inl e
  exact .inr e.2
 rw [aJ kn,bz,cond_false,J5 _ hl,aB,aF,aF,bT (by rw [<- pm.length_eq,rJ]),cond_false,show yK k.bg ⟨k.be.au.aa⟩ k.be.ar=_ from Q6 ok.fld ok.now64 br pl,aB]
 by_cases hw:k.bg.bc=cK k.be.au.aa k.be.ar k.bg.ba
 case neg=>rw [dec_f hw,if_neg (fun h=>hw h.right)];rfl
 obtain ⟨eok,nd,el⟩:=yY ok.fld ok.now64 (t:=k.be.ar) pl;rw [aJ hw,bz,cond_false,show BO k.bg=_ from ME br.len b2,aB];rw [hw];rw [aNa ok _ eok.kn,aB]
 by_cases hc:(k.be.ax.aq.map fun x=>x.2).Perm (kF k.bg.ba (cK k.be.au.aa k.be.ar k.bg.ba))
 · rw [aJ (show _/\_ from ⟨by rw [<- hc.length_eq,ce],fun i hi=>⟨FE.2 (hc.mem_iff.2 (bI hi)),ZD ok.fld pl (bI hi)⟩⟩),if_pos ⟨ok,br,pw,pm,hw,by rw [hw];exact hc⟩];rfl
 rw [dec_f (fun h=>hc ?_),if_neg (fun h=>hc (by have:=h.cert;rw [hw] at this;exact this))]
 · rfl
 have cl:(k.be.ax.aq.map fun x=>x.2).length=k.be.ax.aq.length:=ce ..
 refine (yV nd (fun x hx=>?_) (by omega)).symm
 obtain ⟨i,hi,rfl⟩:=aY.1 hx;exact FE.1 (h.2 i hi).1
section
variable {f : List Pt} (fok : cE f) {t : Int × Int} {p w : List Int} (pl : GJ f p) (R : P3 f t p w)
include fok pl R
end
structure A4 (k:dE):Prop where
 c:P2 k.be
 p:k.bg.ba.length<=1000
 w:k.bg.bc.length<=1000
theorem A5:A4 M9:=⟨Q1,de _,de _⟩
theorem QN {k:dE} (h:A4 k):yO k k=some true:=by
 have h1:=h.p;have h2:=h.w;unfold yO IA;rw [aAW h.c,aB,cond_true,YZ _ (by omega),aB,cond_true,YZ _ (by omega),aB,aB]
theorem aA4 {k:dE} (h:A4 k):xX k=some k:=by
 have h1:=h.p;have h2:=h.w;unfold xX CN;rw [aAY h.c,aB,aV (by omega),aB,aV (by omega),aB,aB]
theorem ZE (k:dE):vO k=some true\/(vO k=some false/\A4 k):=by
 unfold vO EU
 rcases YV k.be with e|⟨e,sh⟩
 · rw [e];exact .inl rfl
 rw [e,aB,cond_false];simp only [aF]
 by_cases h:70<k.bg.ba.length
 · rw [aJ (by omega)];exact .inl rfl
 rw [dec_f (by omega),cond_false,aB]
 by_cases h2:70<k.bg.bc.length
 · rw [aJ (by omega)];exact .inl rfl
 rw [dec_f (by omega)];exact .inr ⟨rfl,sh,by omega,by omega⟩
theorem aTX.short {c:aR} {f:List Pt} {p:List Int} {k:dE} (pl:GJ f p) (h:aTX c f p k):A4 k:=by
 have R:=fZ (f:=f) (t:=c.ar) pl.one;have b2:=pl.most;have b3:=R.1;refine ⟨h.ren.ok.short,by rw [h.ba];show p.length<=1000;omega,by rw [h.ba];show (cK f c.ar p).length<=1000;omega⟩
theorem yZ.fit (k:dE) (n:aAX k.be) (sh:A4 k):wC k.be:=⟨n.ar,⟨sh.c.s3,sh.c.h,sh.c.w,n.at64⟩,sh.c.d⟩
structure aWz (c:aR) (l:List Int):Prop where
 ok:bG c
 pm:(rG c.au.aa).Perm l
 ct:(c.ax.aq.map fun x=>x.2).Perm (FD l)
theorem aWz.bd {c:aR} {l:List Int} (h:aWz c l):l.length<=64:=by
 have:=h.ok.bd
 have:l.length=c.au.aa.length:=by rw [<- h.pm.length_eq];exact ce ..
 omega
theorem aNk {f:List Pt} {m:Nat} {p:Pt} {x:Int} (h:kJ f x):kJ (aNb f m p) x:=by
 obtain ⟨i,hi,rfl⟩:=h;obtain ⟨j,hj,e⟩:=aY.1 (aNf (m:=m) (p:=p).2 (.inr (bI hi)));exact ⟨j,hj,by rw [e]⟩
theorem MP.ins {f:List Pt} {m:Nat} {p:Pt} {x:Int} (h:MP f x):MP (aNb f m p) x:=h.imp id fun h=>⟨h.1,aNk h.2⟩
theorem yZ.ba {k:dE} (ok:yZ k):GJ k.be.au.aa k.bg.ba:=IJ ok.br ok.perm
section
variable {k : dE} (n : aAX k.be) (sh : A4 k)
include n sh
end
theorem ZF (l m:List Int) (hl:l.length<=1000) (hm:m.length<=l.length / 2):aG jR (l,m)=some (.done (m++bm (l.length / 2-m.length) (-1))):=by
 have e:aA .i64 (Int.tdiv (l.length:Int) 2)=((l.length / 2:Nat):Int):=by
  rw [cj (by omega),mD ⟨by omega,by omega⟩];omega
 have key:=cB (body:=jR) (fun j=>(l,m++bm j (-1))) (l.length / 2-m.length) (fun j hj=>by
  unfold jR;simp only [aF,bo,bv,e];rw [aJ (show ((m.length+j:Nat):Int)<((l.length / 2:Nat):Int) by omega),cond_true,dB (by simp;omega),aB,cm,<- List.replicate_succ'])
 rw [List.replicate_zero,bq] at key;rw [key];refine aL ?_;unfold jR;simp only [aF,bo,bv,e];rw [dec_f (show¬((m.length+(l.length / 2-m.length):Nat):Int)<((l.length / 2:Nat):Int) by omega),cond_false]
def S2 (l:List Int) (k:Nat):List Int:=
 if 1<l.length/\4*(dO (l.set k (-1))).length<=l.length then dO (l.set k (-1))++bm (l.length / 2- (dO (l.set k (-1))).length) (-1) else l.set k (-1)
theorem aA5 {l:List Int} (hl:l.length<=64) (ho:FF l) {k:Nat} (hk:k<l.length) (h0:0<=l[k]!):pP l l[k]! =some (S2 l k):=by
 obtain ⟨q,hq⟩: ∃q,q=l.set k (-1):=⟨_,rfl⟩;have ql:q.length=l.length:=by rw [hq,bu]
 have qb: ∀i,i<l.length->q[i]! =if l[i]! =l[k]! then -1 else l[i]!:=fun i hi=>by
  rw [hq,aZ]
  by_cases a:i=k
  · rw [if_pos ⟨a,hk⟩,if_pos (by rw [a])]
  rw [if_neg (fun h=>a h.1),if_neg (fun e=>a (ho.inj hi hk e (by rw [e];exact h0)))]
 have st:=cB (body:=jS) (fun i=>(l,l[k]!,(i:Int),q.take i,dO (q.take i))) l.length (fun i hi=>by
  have el:=Y8 q i;have tl:(q.take i).length<=i:=by rw [bw];omega
  rw [nO (by omega),fQ (by omega),qb i hi]
  unfold jS;simp only [aF,aJ (show (i:Int)<(l.length:Int) by omega),cond_true,aE l i hi,aB,aU (show i<1000000000 by omega)]
  by_cases a:l[i]! =l[k]!
  · rw [eI a,cond_true,dB (by rw [bn];omega),aB,if_pos a,if_neg (by decide),bq]
  rw [eB a,cond_false,dB (by rw [bn];omega),aB,if_neg a]
  by_cases b:0<=l[i]!
  · rw [aJ b,cond_true,dB (by rw [bn];omega),aB,if_pos b]
  rw [dec_f b,cond_false,if_neg b,bq])
 unfold pP;have st:aG jS (l,l[k]!,0,[],[])=_:=st;rw [st];have tq:q.take l.length=q:=by rw [<- ql];exact cb
 rw [tq];have il:(dO q).length<=l.length:=by
  have:=cf (fun x:Int=>decide (0<=x)) q
  unfold dO;omega
 have body:jS (l,l[k]!,(l.length:Int),q,dO q)=if 1<l.length/\4*(dO q).length<=l.length then aG jR (l,dO q) else some (.done q):=by
  unfold jS;simp only [aF,dec_f (show¬(l.length:Int)<(l.length:Int) by omega),cond_false,mD (n:=4*((dO q).length:Int)) ⟨by omega,by omega⟩]
  by_cases a:l.length=1
  · rw [eI (show (l.length:Int)=1 by omega),cond_true,if_neg (by omega)]
  rw [eB (show¬(l.length:Int)=1 by omega),cond_false]
  by_cases b:(l.length:Int)<4*((dO q).length:Int)
  · rw [aJ b,cond_true,if_neg (by omega)]
  rw [dec_f b,cond_false,if_pos ⟨by omega,by omega⟩]
 unfold S2;rw [<- hq];split
 · rename_i h
   rw [if_pos h] at body;exact aL (body.trans (ZF l _ (by omega) (by omega)))
 rename_i h
 rw [if_neg h] at body;exact aL body
theorem aDB: ∀m:Nat,1<=m->m<=32->iO [-1] (m:Int)=some (bm m (-1)):=by
 intro m h1 h2;have go:aA .u64 (m:Int)=(m:Int)->gR (aA .u64 (Int.ofNat ([-1]:List Int).length)) (aA .u64 (m:Int))=some (0,(m:Int)):=fun h=>by
  rw [show aA .u64 (Int.ofNat ([-1]:List Int).length)=1 from by kernel_rfl,h,JM ⟨by decide,by decide⟩ ⟨by omega,by omega⟩]
  have e1:(1*(m:Int)) / 18446744073709551616=0:=by omega
  have e2:(1*(m:Int))%18446744073709551616=(m:Int):=by omega
  rw [e1,e2]
 have cs: ∀j,j<32->m=j+1->iO [-1] (m:Int)=some (bm m (-1)):=by
  intro j hj e;subst e
  have:j=0\/j=1\/j=2\/j=3\/j=4\/j=5\/j=6\/j=7\/j=8\/j=9\/j=10\/j=11\/j=12\/j=13\/j=14\/j=15\/j=16\/j=17\/j=18\/j=19\/j=20\/j=21\/j=22\/j=23\/j=24\/j=25\/j=26\/j=27\/j=28\/j=29\/j=30\/j=31:=by omega
  rcases this with rfl|rfl|rfl|rfl|rfl|rfl|rfl|rfl|rfl|rfl|rfl|rfl|rfl|rfl|rfl|rfl|rfl|rfl|rfl|rfl|rfl|rfl|rfl|rfl|rfl|rfl|rfl|rfl|rfl|rfl|rfl|rfl
  all_goals (unfold iO AR;rw [go (by kernel_rfl)])
  · exact (by kernel_rfl:_=aG aO (1,-1::bm 0 0)).trans (bF.2 ⟨20,by kernel_rfl⟩)
  · exact (by kernel_rfl:_=aG aO (1,-1::bm 1 0)).trans (bF.2 ⟨20,by kernel_rfl⟩)
  · exact (by kernel_rfl:_=aG aO (1,-1::bm 2 0)).trans (bF.2 ⟨20,by kernel_rfl⟩)
  · exact (by kernel_rfl:_=aG aO (1,-1::bm 3 0)).trans (bF.2 ⟨20,by kernel_rfl⟩)
  · exact (by kernel_rfl:_=aG aO (1,-1::bm 4 0)).trans (bF.2 ⟨20,by kernel_rfl⟩)
  · exact (by kernel_rfl:_=aG aO (1,-1::bm 5 0)).trans (bF.2 ⟨20,by kernel_rfl⟩)
  · exact (by kernel_rfl:_=aG aO (1,-1::bm 6 0)).trans (bF.2 ⟨20,by kernel_rfl⟩)
  · exact (by kernel_rfl:_=aG aO (1,-1::bm 7 0)).trans (bF.2 ⟨20,by kernel_rfl⟩)
  · exact (by kernel_rfl:_=aG aO (1,-1::bm 8 0)).trans (bF.2 ⟨20,by kernel_rfl⟩)
  · exact (by kernel_rfl:_=aG aO (1,-1::bm 9 0)).trans (bF.2 ⟨20,by kernel_rfl⟩)
  · exact (by kernel_rfl:_=aG aO (1,-1::bm 10 0)).trans (bF.2 ⟨20,by kernel_rfl⟩)
  · exact (by kernel_rfl:_=aG aO (1,-1::bm 11 0)).trans (bF.2 ⟨20,by kernel_rfl⟩)
  · exact (by kernel_rfl:_=aG aO (1,-1::bm 12 0)).trans (bF.2 ⟨20,by kernel_rfl⟩)
  · exact (by kernel_rfl:_=aG aO (1,-1::bm 13 0)).trans (bF.2 ⟨20,by kernel_rfl⟩)
  · exact (by kernel_rfl:_=aG aO (1,-1::bm 14 0)).trans (bF.2 ⟨20,by kernel_rfl⟩)
  · exact (by kernel_rfl:_=aG aO (1,-1::bm 15 0)).trans (bF.2 ⟨20,by kernel_rfl⟩)
  · exact (by kernel_rfl:_=aG aO (1,-1::bm 16 0)).trans (bF.2 ⟨20,by kernel_rfl⟩)
  · exact (by kernel_rfl:_=aG aO (1,-1::bm 17 0)).trans (bF.2 ⟨20,by kernel_rfl⟩)
  · exact (by kernel_rfl:_=aG aO (1,-1::bm 18 0)).trans (bF.2 ⟨20,by kernel_rfl⟩)
  · exact (by kernel_rfl:_=aG aO (1,-1::bm 19 0)).trans (bF.2 ⟨20,by kernel_rfl⟩)
  · exact (by kernel_rfl:_=aG aO (1,-1::bm 20 0)).trans (bF.2 ⟨20,by kernel_rfl⟩)
  · exact (by kernel_rfl:_=aG aO (1,-1::bm 21 0)).trans (bF.2 ⟨20,by kernel_rfl⟩)
  · exact (by kernel_rfl:_=aG aO (1,-1::bm 22 0)).trans (bF.2 ⟨20,by kernel_rfl⟩)
  · exact (by kernel_rfl:_=aG aO (1,-1::bm 23 0)).trans (bF.2 ⟨20,by kernel_rfl⟩)
  · exact (by kernel_rfl:_=aG aO (1,-1::bm 24 0)).trans (bF.2 ⟨20,by kernel_rfl⟩)
  · exact (by kernel_rfl:_=aG aO (1,-1::bm 25 0)).trans (bF.2 ⟨20,by kernel_rfl⟩)
  · exact (by kernel_rfl:_=aG aO (1,-1::bm 26 0)).trans (bF.2 ⟨20,by kernel_rfl⟩)
  · exact (by kernel_rfl:_=aG aO (1,-1::bm 27 0)).trans (bF.2 ⟨20,by kernel_rfl⟩)
  · exact (by kernel_rfl:_=aG aO (1,-1::bm 28 0)).trans (bF.2 ⟨20,by kernel_rfl⟩)
  · exact (by kernel_rfl:_=aG aO (1,-1::bm 29 0)).trans (bF.2 ⟨20,by kernel_rfl⟩)
  · exact (by kernel_rfl:_=aG aO (1,-1::bm 30 0)).trans (bF.2 ⟨20,by kernel_rfl⟩)
  exact (by kernel_rfl:_=aG aO (1,-1::bm 31 0)).trans (bF.2 ⟨20,by kernel_rfl⟩)
 exact cs (m-1) (by omega) (by omega)
theorem aDC {l:List Int} {k:Nat} (hk:k<l.length) (h0:0<=l[k]!):(dO (l.set k (-1))).length+1=(dO l).length:=by
 have e1:l=l.take k++l[k]!::l.drop (k+1):=by
  conv=>lhs;rw [<- List.take_append_drop k l,List.drop_eq_getElem_cons hk]
  rw [getElem!_pos l k hk]
 have e2:l.set k (-1)=l.take k++(-1)::l.drop (k+1):=by
  rw [List.set_eq_take_append_cons_drop,if_pos hk]
 have f1:(dO l).length=((l.take k).filter fun x=>decide (0<=x)).length+(((l.drop (k+1)).filter fun x=>decide (0<=x)).length+1):=by
  unfold dO
  conv=>lhs;rw [e1]
  rw [ci,bo,cp (by simpa using h0),List.length_cons]
 have f2:(dO (l.set k (-1))).length=((l.take k).filter fun x=>decide (0<=x)).length+((l.drop (k+1)).filter fun x=>decide (0<=x)).length:=by
  unfold dO;rw [e2,ci,bo,cq (by decide)]
 omega
theorem aDD {f:List Pt} (hs:gS f) {q:Nat} (hq:q<f.length) {x:Int} (h:kJ f x) (hne:x≠(f[q]!).1):kJ (f.eraseIdx q) x:=by
 obtain ⟨i,hi,rfl⟩:=h;obtain ⟨j,hj,e⟩:=aY.1 ((aDx hs hq).2 ⟨bI hi,hne⟩);exact ⟨j,hj,by rw [e]⟩
theorem aA6 {f f':List Pt} {l:List Int} (pl:GJ f l) {k:Nat} (hk:k<l.length) (h0:0<=l[k]!) (has: ∀x,kJ f x->x≠l[k]!->kJ f' x):GJ f' (l.set k (-1)):=by
 refine ⟨by rw [bu];exact pl.one,by rw [bu];exact pl.most,fun i j hij hj he=>?_,fun x hx=>?_⟩
 · rw [bu] at hj
   rw [aZ,aZ] at he;rw [aZ]
   by_cases a:i=k
   · rw [if_pos ⟨a,by omega⟩];omega
   rw [if_neg (fun h=>a h.1)] at he ⊢
   by_cases b:j=k
   · rw [if_pos ⟨b,by omega⟩] at he;omega
   rw [if_neg (fun h=>b h.1)] at he;exact pl.once i j hij hj he
 obtain ⟨i,hi,rfl⟩:=aY.1 hx
 rw [bu] at hi;rw [aZ]
 by_cases a:i=k
 · rw [if_pos ⟨a,by omega⟩];exact .inl rfl
 rw [if_neg (fun h=>a h.1)]
 refine (pl.ids _ (bI hi)).imp id fun h=>⟨h.1,has _ h.2 fun e=>a (pl.once.inj hi hk e h.1)⟩
theorem ZG {f f':List Pt} {l:List Int} (pl:GJ f l) {k:Nat} (hk:k<l.length) (h0:0<=l[k]!) (has: ∀x,kJ f x->x≠l[k]!->kJ f' x):GJ f' (S2 l k):=by
 have sp:=aA6 pl hk h0 has;unfold S2;split
 · rename_i h
   have nd:=QL sp.once;have most:=pl.most;obtain ⟨A,hA⟩: ∃A,A=dO (l.set k (-1)):=⟨_,rfl⟩;rw [<- hA] at h nd ⊢;have An: ∀x∈A,0<=x:=fun x hx=>(xN.1 (hA▸hx)).2
   have ll:(A++bm (l.length / 2-A.length) (-1:Int)).length=l.length / 2:=by
    rw [bo,bv];omega
   have g3: ∀i,A.length<=i->i<l.length / 2->(A++bm (l.length / 2-A.length) (-1:Int))[i]! = -1:=fun i h1 h2=>by
    rw [gN h1]
    have:=bI (l:=bm (l.length / 2-A.length) (-1:Int)) (i:=i-A.length) (by rw [bv];omega)
    exact (cz.1 this).2
   refine ⟨by rw [ll];omega,by rw [ll];omega,fun i j hij hj he=>?_,fun x hx=>?_⟩
   · rw [ll] at hj
     by_cases a:i<A.length
     · rw [eX a] at he ⊢
       by_cases b:j<A.length
       · rw [eX b] at he
         have:=(ck.1 nd) i j a b hij
         rw [getElem!_pos A i a,getElem!_pos A j b] at he;exact absurd he this
       rw [g3 j (by omega) hj] at he
       have:=An _ (bI a);omega
     rw [g3 i (by omega) (by omega)];omega
   rcases List.mem_append.1 hx with hx|hx
   · exact sp.ids x (xN.1 (hA▸hx)).1
   exact .inl (cz.1 hx).2
 exact sp
theorem ZH:eD=bU:=rfl
section
variable {k : dE} (n : aAX k.be) (sh : A4 k)
include n sh
theorem MQ (id:Int): ∃R:dE×Int,yG k id=some R/\yN k id=some R/\A4 R.1:=by
 have c1:=DZ (yZ.fit k n sh) sh.p sh.w;have c2:=FJ (yZ.fit k n sh) sh.p sh.w
 by_cases ok:yZ k
 case neg=>
  rw [if_neg ok] at c1 c2;refine ⟨(M9,8),?_,?_,A5⟩
  · unfold yG;rw [c1,aB,cP (by decide),cond_true];rfl
  unfold yN;rw [c2,aB,cP (by decide),cond_true,aB];rfl
 rw [if_pos ok] at c1 c2;have fok:=ok.clk.fld;have pl:=ok.ba;have most:=pl.most;have one:=pl.one;unfold yG yN;rw [c1,aB,bT rfl,cond_false,c2,aB,bT rfl,cond_false]
 by_cases hid:kJ k.be.au.aa id
 case neg=>
  obtain ⟨t1,t2⟩:=U9 fok hid;have t1:oF k.be.au id=some (⟨[]⟩,6):=t1;have t2:oM k.be.au id=some (⟨[]⟩,6):=t2;rw [t1,aB,cP (by decide),cond_true,t2,aB,cP (by decide),cond_true]
  exact ⟨_,rfl,rfl,A5⟩
 have hm:=xN.1 (ok.perm.mem_iff.1 (J1.2 hid));obtain ⟨q,hq,hqe⟩:=hid;obtain ⟨t1,t2⟩:=aAZ fok hq;rw [hqe] at t1 t2;have t1:oF k.be.au id=some (⟨k.be.au.aa.eraseIdx q⟩,0):=t1;have t2:oM k.be.au id=some (⟨k.be.au.aa.eraseIdx q⟩,0):=t2;have fok':=aFZ fok q;obtain ⟨j,hj,e,ix,_⟩:=aDw (l:=k.bg.ba) (by omega) hm.1
 have h0:0<=k.bg.ba[j]!:=by rw [e];exact hm.2
 have pl':GJ (k.be.au.aa.eraseIdx q) (S2 k.bg.ba j):=ZG pl hj h0 fun x hx hne=>aDD fok.2.2 hq hx (by rw [hqe,<- e];exact hne)
 have wo:=aA5 most pl.once hj h0;rw [e] at wo;obtain ⟨R,s1,s2,s3⟩:=II ok.clk fok' pl';have shR:A4 R.1:=by
  rcases s3 with ⟨_,h⟩|h
  · exact h.short pl'
  rw [h];exact A5
 have fl:(k.be.au.aa.eraseIdx q).length=(dO (k.bg.ba.set j (-1))).length:=by
  have a:=aDC hj h0;have b:=ok.perm.length_eq;rw [rJ] at b
  have:=M5 hq
  omega
 refine ⟨R,?_,?_,shR⟩
 · rw [t1,aB,bT rfl,cond_false,aV (by omega),aB,ix,aB,aE _ j hj,aB]
   simp only [yP,aF,bu,fl];have il:(dO (k.bg.ba.set j (-1))).length<=k.bg.ba.length:=by
    have:=cf (fun x:Int=>decide (0<=x)) (k.bg.ba.set j (-1))
    rw [bu] at this;unfold dO;omega
   rw [mD (n:=4*((dO (k.bg.ba.set j (-1))).length:Int)) ⟨by omega,by omega⟩]
   unfold S2 at s1
   by_cases a:1<k.bg.ba.length
   · rw [aJ (by omega),cond_true]
     by_cases b:4*(dO (k.bg.ba.set j (-1))).length<=k.bg.ba.length
     · rw [aJ (by omega),cond_true,ZH]
       rw [if_pos ⟨a,b⟩] at s1;obtain ⟨N,M,m1,m2,m3,m4⟩:=G9 (k.bg.ba.set j (-1)) (by rw [bu];omega)
       rw [bu] at m1 m3;have w2:aA .i64 (aA .i64 (Int.tdiv (k.bg.ba.length:Int) 2) - (N:Int))=((k.bg.ba.length / 2-N:Nat):Int):=by
        rw [cj (by omega),mD (n:=(k.bg.ba.length:Int) / 2) ⟨by omega,by omega⟩,mD ⟨by omega,by omega⟩];omega
       rw [m1,aB];simp only [];rw [w2,aDB _ (by omega) (by omega),aB]
       have em:(bm (k.bg.ba.length / 2-N) (-1:Int)).isEmpty=false:=by
        cases hh:k.bg.ba.length / 2-N with
        |zero=>omega
        |succ _=>rfl
       have b1:Nat.ble (N+(k.bg.ba.length / 2-N)) k.bg.ba.length=true:=by rw [Nat.ble_eq];omega
       have lay:(fS M N (bm (k.bg.ba.length / 2-N) (-1:Int))).take (N+(k.bg.ba.length / 2-N))=dO (k.bg.ba.set j (-1))++bm (k.bg.ba.length / 2-N) (-1):=by
        unfold fS;rw [m4,cd (by rw [bo,bv];omega),cu (by rw [bo,bv];omega)]
       rw [em,cond_false,bv,b1,cond_true,m3,b1];simp only [cw,cy,cond_true];rw [lay,m2,s1,aB]
     rw [dec_f (by omega),cond_false]
     rw [if_neg (fun h=>b h.2)] at s1
     rw [s1,aB]
   rw [dec_f (by omega),cond_false]
   rw [if_neg (fun h=>a h.1)] at s1
   rw [s1,aB]
 rw [t2,aB,bT rfl,cond_false,wo,aB,s2,aB]
theorem LL (id:Int): ∃r:Int×Int,vY k id=some r/\vZ k id=some r:=by
 have c1:=DZ (yZ.fit k n sh) sh.p sh.w;have c2:=FJ (yZ.fit k n sh) sh.p sh.w;have hl:=sh.p
 by_cases ok:yZ k
 case neg=>
  rw [if_neg ok] at c1 c2;refine ⟨(0,8),?_,?_⟩
  · unfold vY;rw [c1,aB,cP (by decide),cond_true]
  unfold vZ;rw [c2,aB,cP (by decide),cond_true,aB]
 rw [if_pos ok] at c1 c2;unfold vY vZ;rw [c1,aB,bT rfl,cond_false,c2,aB,bT rfl,cond_false];obtain ⟨i1,i2⟩:=YX k.bg.ba id (by omega)
 have key:=jK (body:=sQ) (fun i=>(id,(i:Int),k.be.ar.1,k.be.ar.2,k.be.au.aa,k.be.ax.ao,k.be.ax.aq,k.be.ay.ai.ac,k.be.ay.ai.ae,k.be.ay.ai.af,k.be.ay.aj,k.be.ay.am,k.be.az,k.bg.ba,k.bg.bc)) k.bg.ba.length (fun i=>0<=id/\k.bg.ba[i]! =id) (fun i=>((i:Int),(0:Int))) (e:=(0,6)) (fun i hi=>by
  unfold sQ;simp only [aF,aJ (show (i:Int)<(k.bg.ba.length:Int) by omega),cond_true,aE _ i hi,aB,aU (show i<1000000000 by omega)]
  refine ⟨fun h=>?_,fun h=>?_⟩
  · rw [aJ h.1,cond_true,eI h.2,cond_true]
  · by_cases a:0<=id
    · rw [aJ a,cond_true,eB (fun e=>h ⟨a,e⟩),cond_false]
    rw [dec_f a,cond_false]) (by
  unfold sQ;simp only [aF,dec_f (show¬(k.bg.ba.length:Int)<(k.bg.ba.length:Int) by omega),cond_false])
 by_cases h: ∃i,i<k.bg.ba.length/\k.bg.ba[i]! =id
 · obtain ⟨j,j1,j2,j3⟩:=E2 h
   rw [i1 j j1 j2 j3,aB]
   by_cases a:id<0
   · rw [aJ a,cond_true]
     exact ⟨_,rfl,key.2 fun i hi h=>by omega⟩
   rw [dec_f a,cond_false,dec_f (by omega),cond_false]
   exact ⟨_,rfl,key.1 j j1 ⟨by omega,j2⟩ fun m hm h=>j3 m hm h.2⟩
 have h': ∀i,i<k.bg.ba.length->k.bg.ba[i]!≠id:=fun i hi e=>h ⟨i,hi,e⟩
 have r:=key.2 fun i hi hh=>h' i hi hh.2
 rw [i2 h',aB]
 by_cases a:id<0
 · rw [aJ a,cond_true];exact ⟨_,rfl,r⟩
 rw [dec_f a,cond_false,aJ (by decide),cond_true];exact ⟨_,rfl,r⟩
end
theorem D1 (k:dE) (id:Int) (n:aAX k.be):tT k id=some true:=by
 unfold tT;rcases ZE k with e|⟨e,sh⟩
 · rw [e];rfl
 obtain ⟨A,a1,a2,a3⟩:=MQ n sh id;obtain ⟨B,b1,b2⟩:=LL n sh id;rw [e,aB,cond_false,aA4 sh,aB,a1,aB,a2,aB,b1,aB,b2,aB,bT rfl,cond_false,bT rfl,cond_false,QN a3,aB,cond_true,eI rfl,cond_true,QN sh,aB]
theorem aAX.of {c:aR} (h1:RT.wf [.i .i64,.i .i64] c.ar) (h2: ∀a∈c.ay.aj,RT.wf [.i .i64,.i .i64,.i .i64,.i .i64,.i .i64] a):aAX c where
 ar:=⟨T3 h1.1,T3 h1.2⟩
 at64 w hw:=by
  have:=h2 (c.ay.aj[w]!) (by rw [getElem!_pos c.ay.aj w hw];exact List.getElem_mem hw)
  exact ⟨T3 this.1,T3 this.2.1⟩
end Go.Proofs.YtbgoiokedpjgbaaGreat
