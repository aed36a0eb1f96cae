/- Plain laws (5). -/
import Derived.Test.YtogihpogmfjoiaaGreatPQM4
import Derived.Test.YtogihpogmfjoiaaGreatPQS2
import Derived.Test.YtogihpogmfjoiaaGreatPVm4
import Derived.Test.YtogihpogmfjoiaaGreatPVm3
open List renaming replicate->bn,length_singleton->bo,length_append->bq,append_nil->bu,length_replicate->bv,length_take->bw,length_set->cd,length_map->ce,take_length->cf,take_append_of_le_length->ci,append_assoc->cj,length_filter_le->cm,mem_replicate->cq,length_drop->c6,filter_nil->c8,mem_append->c9
open Bool renaming not_true->bz,not_false->db,and_self->dd
open Nat renaming le_refl->ck,pow_le_pow_right->cp,lt_trichotomy->cz,zero_le->c7,sub_self->de
open Classical renaming not_imp->cu,not_not->cw
open Int renaming toNat_natCast->cy
namespace Go.Proofs.YtogihpogmfjoiaaGreat
open Go.Vm Classical
structure ZB (p w:List Int):Prop where
 one:1<=p.length
 most:p.length<=64
 len:w.length+1=p.length
 once:GI p
 rng: ∀x∈p,-1<=x/\x<=65535
 cho:DF p w
 none_: ∀i,i<w.length->w[i]!<0->bJ p w (2*i+1)<0/\bJ p w (2*i+2)<0
def VG (p w:List Int) (i:Nat):Prop:=(w[i]! =bJ p w (2*i+1)\/w[i]! =bJ p w (2*i+2))/\ ¬(w[i]!<0/\(0<=bJ p w (2*i+1)\/0<=bJ p w (2*i+2)))
def aDH (p w:List Int) (i:Nat):Prop:=(w[i]! =bJ p w (2*i+1)\/w[i]! =bJ p w (2*i+2))/\ ¬(w[i]! = -1/\(bJ p w (2*i+1)≠ -1\/bJ p w (2*i+2)≠ -1))
def Q8 (p:List Int) (i:Nat):Prop:= -1<=p[i]!/\p[i]!<=65535
def QJ (p:List Int) (i:Nat):Prop:= ∀j,j<i->p[j]! =p[i]!->p[i]!<0
theorem J6 {p:List Int}:(∀i,i<p.length->QJ p i)↔GI p:=
 ⟨fun h i j hij hj e=>by rw [e];exact h j hj i hij e,fun h i hi j hj e=>by have:=h j i hj hi e;rw [e] at this;exact this⟩
theorem VH {p:List Int}:(∀i,i<p.length->Q8 p i)↔ ∀x∈p,-1<=x/\x<=65535:=(FB (P:=fun x=> -1<=x/\x<=65535)).symm
theorem aF7 {p w:List Int} (h1:1<=p.length) (h64:p.length<=64) (hl:w.length+1=p.length):
 ZB p w↔(∀i,i<p.length->QJ p i)/\(∀i,i<p.length->Q8 p i)/\ ∀i,i<w.length->VG p w i:=by
 rw [J6,VH];constructor
 · intro h
   refine ⟨h.once,h.rng,fun i hi=>⟨h.cho i hi,fun ⟨a,b⟩=>?_⟩⟩
   have:=h.none_ i hi a
   omega
 rintro ⟨a,b,c⟩
 exact ⟨h1,h64,hl,a,b,fun i hi=>(c i hi).1,fun i hi h0=>by have:=(c i hi).2;omega⟩
theorem ZC {p w:List Int} (hl:w.length+1=p.length) (hr: ∀x∈p,-1<=x/\x<=65535):(∀i,i<w.length->VG p w i)↔ ∀i,i<w.length->aDH p w i:=by
 constructor<;>intro h i hi
 · have hc:DF p w:=fun i hi=>(h i hi).1
   have a1:=hr _ (mH hl hc (i:=2*i+1) (by omega))
   have a2:=hr _ (mH hl hc (i:=2*i+2) (by omega))
   obtain ⟨b1,b2⟩:=h i hi;exact ⟨b1,by omega⟩
 have hc:DF p w:=fun i hi=>(h i hi).1
 have a1:=hr _ (mH hl hc (i:=2*i+1) (by omega))
 have a2:=hr _ (mH hl hc (i:=2*i+2) (by omega))
 obtain ⟨b1,b2⟩:=h i hi;exact ⟨b1,by omega⟩
theorem aUj {p q:Prop} [Decidable p] [Decidable q] [Decidable (p/\q)] {a b:Int}:(if p then (if q then a else b) else b)=if p/\q then a else b:=by
 by_cases hp:p
 · rw [if_pos hp];exact J3 ⟨fun h=>⟨hp,h⟩,fun h=>h.2⟩
 rw [if_neg hp,if_neg (fun h=>hp h.1)]
theorem LQ (p w:List Int) (hl:p.length<=1000) (wl:w.length<=1000):pR ⟨p,w⟩=some (if ZB p w then 0 else 8):=by
 unfold pR;simp only [aF]
 by_cases h1:(p.length:Int)<1
 · rw [aJ h1,cond_true,if_neg (fun h=>by have:=h.one;omega)]
 rw [dec_f h1,cond_false]
 by_cases h2:(64:Int)<(p.length:Int)
 · rw [aJ h2,cond_true,if_neg (fun h=>by have:=h.most;omega)]
 rw [dec_f h2,cond_false,qF (by omega) (by omega)]
 by_cases h3:w.length+1=p.length
 case neg=>rw [cN (by omega),cond_true,if_neg (fun h=>h3 h.len)]
 rw [bF (by omega),cond_false]
 have l1:=qP (body:=jS) (fun i=>(w,(w.length:Int),(i:Int),p,w)) w.length (VG p w) (r:= .done (.done 8)) (e:= .done (.done 0)) (fun i hi=>by
  unfold jS VG;have k1:=qQ (i:=i) (by omega) 1 (by omega)
  have k2:=qQ (i:=i) (by omega) 2 (by omega)
  simp only [aJ (show (i:Int)<(w.length:Int) by omega),cond_true,aD w i hi,aB,show aA .i64 (aA .i64 (2*(i:Int))+1)=((2*i+1:Nat):Int) from k1,show aA .i64 (aA .i64 (2*(i:Int))+2)=((2*i+2:Nat):Int) from k2,
   qI (p:=p) (w:=w) (i:=2*i+1) (by omega) (by omega),qI (p:=p) (w:=w) (i:=2*i+2) (by omega) (by omega),aU (show i<1000000000 by omega)]
  generalize bJ p w (2*i+1)=x;generalize bJ p w (2*i+2)=y;generalize w[i]! =v
  by_cases a1:v=x
  · rw [bF a1,cond_false]
    by_cases a3:v<0
    · rw [aJ a3,cond_true]
      by_cases a4:0<=(if y>x then y else x)
      · rw [aJ a4,cond_true]
        exact ⟨fun _=>rfl,fun h=>by split at a4<;>omega⟩
      rw [dec_f a4,cond_false]
      exact ⟨fun h=>by split at a4<;>omega,fun _=>rfl⟩
    rw [dec_f a3,cond_false]
    exact ⟨fun h=>by omega,fun _=>rfl⟩
  · rw [cN a1,cond_true]
    by_cases a2:v=y
    · rw [bF a2,cond_false]
      by_cases a3:v<0
      · rw [aJ a3,cond_true]
        by_cases a4:0<=(if y>x then y else x)
        · rw [aJ a4,cond_true]
          exact ⟨fun _=>rfl,fun h=>by split at a4<;>omega⟩
        rw [dec_f a4,cond_false]
        exact ⟨fun h=>by split at a4<;>omega,fun _=>rfl⟩
      rw [dec_f a3,cond_false]
      exact ⟨fun h=>by omega,fun _=>rfl⟩
    rw [cN a2,cond_true]
    exact ⟨fun _=>rfl,fun h=>by omega⟩) (by
  unfold jS;simp only [dec_f (show¬(w.length:Int)<(w.length:Int) by omega),cond_false])
 have l1':aH jS (w,(w.length:Int),0,p,w)=some (.done (.done (if∀i,i<w.length->VG p w i then 0 else 8))):=by
  refine (show _=_ from l1).trans ?_
  by_cases h: ∀i,i<w.length->VG p w i
  · rw [if_pos h,if_pos h]
  rw [if_neg h,if_neg h]
 have l2: ∀m,aH jT (p,(p.length:Int),0,p,w,m)=some (.done (if (∀i,i<p.length->Q8 p i)/\ ∀i,i<w.length->VG p w i then 0 else 8)):=fun m=>by
  have l2:=qP (body:=jT) (fun i=>(p,(p.length:Int),(i:Int),p,w,m)) p.length (Q8 p) (r:= .done 8) (e:= .done (if∀i,i<w.length->VG p w i then 0 else 8)) (fun i hi=>by
   unfold jT wQ Q8;simp only [aJ (show (i:Int)<(p.length:Int) by omega),cond_true,aD p i hi,aB,aU (show i<1000000000 by omega)]
   generalize p[i]! =v
   by_cases a1: -1<=v
   · rw [aJ a1,cond_true,aB]
     by_cases a2:v<=65535
     · rw [aJ a2];exact ⟨fun h=>absurd ⟨a1,a2⟩ h,fun _=>rfl⟩
     rw [dec_f a2]
     refine ⟨fun _=>?_,fun h=>absurd h.2 a2⟩
     rw [aJ (show (0:Int)<=(i:Int) by omega)];rfl
   · rw [dec_f a1,cond_false,aB]
     refine ⟨fun _=>?_,fun h=>absurd h.1 a1⟩
     rw [aJ (show (0:Int)<=(i:Int) by omega)];rfl) (by
   unfold jT;simp only [dec_f (show¬(p.length:Int)<(p.length:Int) by omega),cond_false,aF,l1'])
  refine (show _=_ from l2).trans ?_
  by_cases h: ∀i,i<p.length->Q8 p i
  · rw [if_pos h];congr 2;exact J3 ⟨fun k=>⟨h,k⟩,fun k=>k.2⟩
  rw [if_neg h,if_neg (fun k=>h k.1)]
 have l3:=qP (body:=pB) (fun i=>(p,(p.length:Int),(i:Int),p,w,QH p i)) p.length (QJ p) (r:=8) (e:=if (∀i,i<p.length->Q8 p i)/\ ∀i,i<w.length->VG p w i then 0 else 8) (fun i hi=>by
  unfold pB;simp only [aJ (show (i:Int)<(p.length:Int) by omega),cond_true,aD p i hi,aB,QI,aU (show i<1000000000 by omega)]
  by_cases a:QJ p i
  · rw [dec_f (show¬(0<=p[i]!/\ ∃j,j<i/\p[j]! =p[i]!) from fun ⟨h0,j,hj,e⟩=>by have:=a j hj e;omega)]
    exact ⟨fun h=>absurd a h,fun _=>rfl⟩
  · rw [aJ (show 0<=p[i]!/\ ∃j,j<i/\p[j]! =p[i]! from by
     unfold QJ at a;obtain ⟨j,hj⟩:=Classical.not_forall.1 a;obtain ⟨hj,h⟩:=cu.1 hj;obtain ⟨h,h0⟩:=cu.1 h;exact ⟨by omega,j,hj,h⟩)]
    refine ⟨fun _=>?_,fun h=>absurd h a⟩
    rw [aJ (show (0:Int)<=(i:Int) by omega)];rfl) (by
  unfold pB;simp only [dec_f (show¬(p.length:Int)<(p.length:Int) by omega),cond_false,aF,l2])
 refine (show _=_ from l3).trans ?_;rw [J3 (aF7 (by omega) (by omega) h3)]
 congr 1
 exact aUj
theorem QK (p:List Int) (hl:p.length<=1000):E0 p=some (!decide (GI p)):=by
 have l2:=qP (body:=sN) (fun i=>(p,(i:Int))) p.length (QJ p) (r:=true) (e:=false) (fun i hi=>by
  have l1:=qP (body:=sM) (fun j=>(p,(i:Int),(j:Int))) i (fun j=>p[j]! =p[i]!->p[i]!<0) (r:= .done true) (e:= .next (p,((i+1:Nat):Int))) (fun j hj=>by
   unfold sM;simp only [aJ (show (j:Int)<(i:Int) by omega),cond_true,aD p i hi,aD p j (by omega),aB,aU (show j<1000000000 by omega)]
   by_cases a:0<=p[i]!
   · rw [aJ a,cond_true]
     by_cases b:p[j]! =p[i]!
     · rw [eY b];exact ⟨fun _=>rfl,fun h=>by have:=h b;omega⟩
     rw [eO b];exact ⟨fun h=>absurd (fun k=>absurd k b) h,fun _=>rfl⟩
   · rw [dec_f a,cond_false]
     exact ⟨fun h=>absurd (fun _=>by omega) h,fun _=>rfl⟩) (by
   unfold sM;simp only [dec_f (show¬(i:Int)<(i:Int) by omega),cond_false,aU (show i<1000000000 by omega)])
  have l1:=(show _=_ from l1);unfold sN;simp only [aF,aJ (show (i:Int)<(p.length:Int) by omega),cond_true]
  by_cases a:QJ p i
  · rw [if_pos (show∀j,j<i->p[j]! =p[i]!->p[i]!<0 from a)] at l1
    exact ⟨fun h=>absurd a h,fun _=>l1⟩
  · rw [if_neg (show¬ ∀j,j<i->p[j]! =p[i]!->p[i]!<0 from a)] at l1
    exact ⟨fun _=>l1,fun h=>absurd h a⟩) (by
  unfold sN;simp only [aF,dec_f (show¬(p.length:Int)<(p.length:Int) by omega),cond_false])
 refine (show _=_ from l2).trans ?_
 by_cases h:GI p
 · rw [if_pos (J6.2 h),aJ h];rfl
 rw [if_neg (fun k=>h (J6.1 k)),dec_f h];rfl
theorem QL (p w:List Int) (hl:p.length<=1000) (wl:w.length<=1000):wG ⟨p,w⟩=some (if ZB p w then 0 else 8):=by
 unfold wG;simp only [aF]
 by_cases h1:(p.length:Int)<1
 · rw [aJ h1,cond_true,if_neg (fun h=>by have:=h.one;omega)]
 rw [dec_f h1,cond_false]
 by_cases h2:(64:Int)<(p.length:Int)
 · rw [aJ h2,cond_true,if_neg (fun h=>by have:=h.most;omega)]
 rw [dec_f h2,cond_false,qF (by omega) (by omega)]
 by_cases h3:w.length+1=p.length
 case neg=>rw [cN (by omega),cond_true,if_neg (fun h=>h3 h.len)]
 rw [bF (by omega),cond_false,QK p hl,aB]
 by_cases ho:GI p
 case neg=>rw [dec_f ho,if_neg (fun h=>ho h.once)];rfl
 rw [aJ ho,bz,cond_false];have l1:=qP (body:=oR) (fun i=>((i:Int),p,w)) w.length (aDH p w) (r:= .done 8) (e:= .done 0) (fun i hi=>by
  unfold oR aDH;have k1:=qQ (i:=i) (by omega) 1 (by omega)
  have k2:=qQ (i:=i) (by omega) 2 (by omega)
  simp only [aF,aJ (show (i:Int)<(w.length:Int) by omega),cond_true,aD w i hi,aB,show aA .i64 (aA .i64 (2*(i:Int))+1)=((2*i+1:Nat):Int) from k1,show aA .i64 (aA .i64 (2*(i:Int))+2)=((2*i+2:Nat):Int) from k2,
   rN (p:=p) (w:=w) (i:=2*i+1) (by omega) (by omega),rN (p:=p) (w:=w) (i:=2*i+2) (by omega) (by omega),aU (show i<1000000000 by omega)]
  generalize bJ p w (2*i+1)=x;generalize bJ p w (2*i+2)=y;generalize w[i]! =v
  by_cases a1:v=x
  · rw [bF a1,cond_false]
    by_cases a3:v= -1
    · rw [eY a3,cond_true]
      by_cases a4:x= -1
      · rw [bF a4,cond_false]
        by_cases a5:y= -1
        · rw [bF a5,cond_false];exact ⟨fun h=>by omega,fun _=>rfl⟩
        rw [cN a5,cond_true];exact ⟨fun _=>rfl,fun h=>by omega⟩
      rw [cN a4,cond_true];exact ⟨fun _=>rfl,fun h=>by omega⟩
    rw [eO a3,cond_false];exact ⟨fun h=>by omega,fun _=>rfl⟩
  · rw [cN a1,cond_true]
    by_cases a2:v=y
    · rw [bF a2,cond_false]
      by_cases a3:v= -1
      · rw [eY a3,cond_true]
        by_cases a4:x= -1
        · rw [bF a4,cond_false]
          by_cases a5:y= -1
          · rw [bF a5,cond_false];exact ⟨fun h=>by omega,fun _=>rfl⟩
          rw [cN a5,cond_true];exact ⟨fun _=>rfl,fun h=>by omega⟩
        rw [cN a4,cond_true];exact ⟨fun _=>rfl,fun h=>by omega⟩
      rw [eO a3,cond_false];exact ⟨fun h=>by omega,fun _=>rfl⟩
    rw [cN a2,cond_true]
    exact ⟨fun _=>rfl,fun h=>by omega⟩) (by
  unfold oR;simp only [aF,dec_f (show¬(w.length:Int)<(w.length:Int) by omega),cond_false])
 have l1':aH oR (0,p,w)=some (.done (if∀i,i<w.length->aDH p w i then 0 else 8)):=by
  refine (show _=_ from l1).trans ?_
  by_cases h: ∀i,i<w.length->aDH p w i
  · rw [if_pos h,if_pos h]
  rw [if_neg h,if_neg h]
 have l2:=qP (body:=sO) (fun i=>((p.length:Int),(i:Int),p,w)) p.length (Q8 p) (r:=8) (e:=if∀i,i<w.length->aDH p w i then 0 else 8) (fun i hi=>by
  unfold sO Q8;simp only [aJ (show (i:Int)<(p.length:Int) by omega),cond_true,aD p i hi,aB,aU (show i<1000000000 by omega)]
  generalize p[i]! =v
  by_cases a1:v< -1
  · rw [aJ a1];exact ⟨fun _=>rfl,fun h=>by omega⟩
  · rw [dec_f a1,cond_false]
    by_cases a2:65535<v
    · rw [aJ a2];exact ⟨fun _=>rfl,fun h=>by omega⟩
    rw [dec_f a2];exact ⟨fun h=>by omega,fun _=>rfl⟩) (by
  unfold sO;simp only [dec_f (show¬(p.length:Int)<(p.length:Int) by omega),cond_false,l1'])
 refine (show _=_ from l2).trans ?_;rw [J3 (aF7 (by omega) (by omega) h3)]
 congr 1
 by_cases hr: ∀i,i<p.length->Q8 p i
 · rw [if_pos hr]
   exact J3 ⟨fun h=>⟨J6.2 ho,hr,(ZC h3 (VH.1 hr)).2 h⟩,fun h=>(ZC h3 (VH.1 hr)).1 h.2.2⟩
 rw [if_neg hr,if_neg (fun h=>hr h.2.1)]
def hP (c:aQ) (r:Int) (N:List Nd) (to:Int×Int) (out:List (Int×Int)):=
 (c.au.1,c.au.2,c.ax.aa,c.ay.aq,c.ay.ar,c.az.ai.ac,c.az.ai.ae,c.az.ai.af,c.az.aj,c.az.am,c.ba,r,N,to.1,to.2,(0:Int),(0:Int),(0:Int),(0:Int),out)
noncomputable def zA (p w:List Int) (k:Nat):List (Int×Int):=(List.range k).filterMap (DY p w)
theorem FG (p w:List Int) (k:Nat):zA p w (k+1)=zA p w k++(match DY p w k with|some e=>[e]|none=>[]):=by
 unfold zA;rw [List.range_succ,List.filterMap_append];cases h:DY p w k<;>simp [h]
theorem IH (p w:List Int) (k:Nat):(zA p w k).length<=k:=by
 have:=List.length_filterMap_le (DY p w) (List.range k)
 rwa [List.length_range] at this
section
variable {p w : List Int} (hl : w.length + 1 = p.length) (h64 : p.length <= 64) (hc : DF p w)
include hl h64
theorem MJ:BP ⟨p,w⟩=some (kJ p w):=by
 have st:=cA (body:=AB) (fun i=>((i:Int),p,w,zA p w i)) w.length (fun i hi=>by
  have k1:=qQ (i:=i) (by omega) 1 (by omega)
  have k2:=qQ (i:=i) (by omega) 2 (by omega)
  have el:=IH p w i;rw [FG];unfold AB;simp only [aF,aJ (show (i:Int)<(w.length:Int) by omega),cond_true,show aA .i64 (aA .i64 (2*(i:Int))+1)=((2*i+1:Nat):Int) from k1,show aA .i64 (aA .i64 (2*(i:Int))+2)=((2*i+2:Nat):Int) from k2,
   rN (p:=p) (w:=w) (i:=2*i+1) (by omega) (by omega),rN (p:=p) (w:=w) (i:=2*i+2) (by omega) (by omega),aB,aD w i hi,aU (show i<1000000000 by omega)]
  unfold DY;generalize bJ p w (2*i+1)=x;generalize bJ p w (2*i+2)=y;generalize w[i]! =v
  by_cases a1:x<0
  · rw [aJ a1,cond_true,if_pos (.inl a1)];simp
  rw [dec_f a1,cond_false]
  by_cases a2:y<0
  · rw [aJ a2,cond_true,if_pos (.inr a2)];simp
  rw [dec_f a2,cond_false,if_neg (by omega)]
  by_cases a3:v=x
  · rw [eY a3,cond_true,if_pos a3,cI (by rw [bo];omega),aB]
  rw [eO a3,cond_false,if_neg a3,cI (by rw [bo];omega),aB])
 unfold BP;refine (show _=_ from st).trans (aL ?_);unfold AB;simp only [aF,dec_f (show¬(w.length:Int)<(w.length:Int) by omega),cond_false]
 rfl
include hc
theorem ZD (hr: ∀x∈p,-1<=x/\x<=65535):aH oN (w,(w.length:Int),0,p,w,[])=some (⟨p,w⟩,kJ p w):=by
 have st:=cA (body:=oN) (fun i=>(w,(w.length:Int),(i:Int),p,w,zA p w i)) w.length (fun i hi=>by
  have k1:=qQ (i:=i) (by omega) 1 (by omega)
  have k2:=qQ (i:=i) (by omega) 2 (by omega)
  have el:=IH p w i;have m1:=hr _ (mH hl hc (i:=2*i+1) (by omega))
  have m2:=hr _ (mH hl hc (i:=2*i+2) (by omega))
  have cv:=hc i hi;have fin: ∀(x y v:Int),(-1<=x/\x<=65535)->(-1<=y/\y<=65535)->(v=x\/v=y)->
   (bif decide (0<=x) then
    bif decide (0<=y) then (bN (zA p w i) [(aA .i64 (aA .i64 (x+y) -v),v)]).bind fun l3=>some (bQ.next (ρ:=bE×List (Int×Int)) (w,(w.length:Int),aA .i64 ((i:Int)+1),p,w,l3))
    else some (bQ.next (w,(w.length:Int),aA .i64 ((i:Int)+1),p,w,zA p w i))
   else some (bQ.next (w,(w.length:Int),aA .i64 ((i:Int)+1),p,w,zA p w i)))=
   some (bQ.next (w,(w.length:Int),((i+1:Nat):Int),p,w,zA p w i++(match (if x<0\/y<0 then none else if v=x then some (y,x) else some (x,y)) with|some e=>[e]|none=>[]))):=by
   intro x y v hx hy hv;rw [aU (show i<1000000000 by omega)]
   by_cases a1:x<0
   · rw [dec_f (by omega),cond_false,if_pos (.inl a1)];simp
   rw [aJ (by omega),cond_true]
   by_cases a2:y<0
   · rw [dec_f (by omega),cond_false,if_pos (.inr a2)];simp
   rw [aJ (by omega),cond_true,if_neg (by omega),cI (by rw [bo];omega),aB,oB (n:=x+y) ⟨by omega,by omega⟩,oB ⟨by omega,by omega⟩]
   by_cases a3:v=x
   · rw [if_pos a3,a3,show x+y-x=y by omega]
   rw [if_neg a3,show x+y-v=x by omega,show v=y by omega]
  rw [FG];unfold oN;have e1:bJ p w (2*i+1)=if 2*i+1<w.length then w[2*i+1]! else p[2*i+1-w.length]!:=rfl
  have e2:bJ p w (2*i+2)=if 2*i+2<w.length then w[2*i+2]! else p[2*i+2-w.length]!:=rfl
  have f1:=fin _ _ _ m1 m2 cv;simp only [aF,aJ (show (i:Int)<(w.length:Int) by omega),cond_true,show aA .i64 (aA .i64 (2*(i:Int))+1)=((2*i+1:Nat):Int) from k1,show aA .i64 (aA .i64 (2*(i:Int))+2)=((2*i+2:Nat):Int) from k2,aD w i hi,aB,beq_self_eq_true]
  by_cases b1:2*i+1<w.length
  · rw [if_pos b1] at e1
    rw [aJ (show ((2*i+1:Nat):Int)<(w.length:Int) by omega),cond_true,aD w _ b1,aB,<- e1]
    by_cases b2:2*i+2<w.length
    · rw [if_pos b2] at e2
      rw [aJ (show ((2*i+2:Nat):Int)<(w.length:Int) by omega),cond_true,aD w _ b2,aB,<- e2]
      exact f1
    rw [if_neg b2] at e2
    rw [dec_f (show¬((2*i+2:Nat):Int)<(w.length:Int) by omega),cond_false,oB ⟨by omega,by omega⟩,show ((2*i+2:Nat):Int) - (w.length:Int)=((2*i+2-w.length:Nat):Int) by omega,aD p _ (by omega),aB,<- e2]
    exact f1
  rw [if_neg b1] at e1
  rw [if_neg (show¬2*i+2<w.length by omega)] at e2
  rw [dec_f (show¬((2*i+1:Nat):Int)<(w.length:Int) by omega),cond_false,oB (n:=((2*i+1:Nat):Int) - (w.length:Int)) ⟨by omega,by omega⟩,show ((2*i+1:Nat):Int) - (w.length:Int)=((2*i+1-w.length:Nat):Int) by omega,aD p _ (by omega),aB,<- e1,
   dec_f (show¬((2*i+2:Nat):Int)<(w.length:Int) by omega),cond_false,oB (n:=((2*i+2:Nat):Int) - (w.length:Int)) ⟨by omega,by omega⟩,show ((2*i+2:Nat):Int) - (w.length:Int)=((2*i+2-w.length:Nat):Int) by omega,aD p _ (by omega),aB,<- e2]
  exact f1)
 refine (show _=_ from st).trans (aL ?_);unfold oN;simp only [dec_f (show¬(w.length:Int)<(w.length:Int) by omega),cond_false]
 rfl
end
structure II (f:List Pt) (p:List Int):Prop where
 one:1<=p.length
 most:p.length<=64
 once:GI p
 ids: ∀x∈p,MT f x
theorem II.rng {f:List Pt} (fok:bS f) {p:List Int} (h:II f p): ∀x∈p,-1<=x/\x<=65535:=fun x hx=>by
 rcases h.ids x hx with e|⟨e,hp⟩
 · omega
 have:=(fT fok hp).1
 have e2:=(fT fok hp).2;unfold gV at this;omega
section
variable {f : List Pt} (fok : bS f) {t : Int × Int} (r : cS t) (r64 : tH t) {p : List Int} (pl : II f p)
include fok r64 pl
theorem Q9:C1 ⟨f⟩ t p=some ⟨p,cK f t p⟩:=by
 unfold C1;rw [QG fok r64 pl.one pl.most pl.ids];rfl
theorem zB:J2 f (kJ p (cK f t p))/\(kJ p (cK f t p)).Nodup/\(kJ p (cK f t p)).length<=63:=by
 have _:=r64;have R:=gC (f:=f) (t:=t) pl.one;have m:=pl.most
 have:=R.1
 have el:=P7 p (cK f t p);exact ⟨aDF fok R.1 pl.most R.chosen pl.once fun x hx h0=>(pl.ids x hx).has h0,VD R.1 R.chosen pl.once,by omega⟩
include r
theorem QM:zT ⟨f⟩ t p=some (⟨p,cK f t p⟩,kJ p (cK f t p)):=by
 have R:=gC (f:=f) (t:=t) pl.one;unfold zT;rw [BY fok r r64 pl.one pl.most pl.ids pl.once,aB];exact ZD R.1 pl.most R.chosen (pl.rng fok)
end
def J7:cE:=⟨fF,⟨[],[]⟩⟩
structure aUk (c:aQ) (f:List Pt) (p:List Int) (k:cE):Prop where
 ren:P3 c f (kJ p (cK f c.au p)) k.bg
 bc:k.bi=⟨p,cK f c.au p⟩
theorem VI {c:aQ} (ok:bG c) {f:List Pt} (fok:bS f) {p:List Int} (pl:II f p):
 ∃R:aQ×Int,rD c ⟨f⟩ (kJ p (cK f c.au p))=some R/\nS c ⟨f⟩ (kJ p (cK f c.au p))=some R/\(R.2=0/\P3 c f (kJ p (cK f c.au p)) R.1\/R=(fF,18)):=by
 obtain ⟨eok,nd,el⟩:=zB fok ok.now64 (t:=c.au) pl;obtain ⟨R,r1,r2,r3⟩:=aNA ok fok eok;have ee:pJ f (kJ p (cK f c.au p))=0:=by
  unfold pJ;rw [if_neg (cw.2 eok.cv),if_neg (cw.2 nd),if_neg (fun h=>h eok.kn)]
 have rn:=QA ok fok (es:=kJ p (cK f c.au p)) (by omega) (fun _=>r1)
 rw [if_pos ee] at rn;exact ⟨R,rn,r2,r3⟩
def aNJ (x y v:Int):List (Int×Int):=(if 0<=x/\x≠v then [(x,v)] else [])++(if 0<=y/\y≠v then [(y,v)] else [])
theorem ZE {v:Int} {w N:List Int} {L i:Int} {k c:Nat} {E:List (Int×Int)} (hk:k+2<=N.length) (he:E.length+2<=1000000):
 aH kE (v,w,L,i,0+k,2,c,2,0,N,E)=some (.next (w,L,aA .i64 (i+1),N,E++aNJ N[k]! N[k+1]! v)):=by
 have hd:((N.drop (0+k)).take 2).length=2:=by rw [bw,c6];omega
 have g0:aN ((N.drop (0+k)).take 2) 0=some N[k]!:=by
  have:=aD ((N.drop (0+k)).take 2) 0 (by omega)
  rw [kQ (by omega),nU] at this
  simpa using this
 have g1:aN ((N.drop (0+k)).take 2) 1=some N[k+1]!:=by
  have:=aD ((N.drop (0+k)).take 2) 1 (by omega)
  rw [kQ (by omega),nU] at this
  simpa using this
 have s0:kE (v,w,L,i,0+k,2,c,2,0,N,E)=some (.next (v,w,L,i,0+k,2,c,2,1,N,E++(if 0<=N[k]!/\N[k]!≠v then [(N[k]!,v)] else []))):=by
  unfold kE;simp only [aJ (show (0:Int)<2 by decide),cond_true,g0,aB,show aA .i64 ((0:Int)+1)=1 from by decide]
  by_cases a:0<=N[k]!
  · rw [aJ a,cond_true]
    by_cases b:N[k]! =v
    · rw [bF b,cond_false,if_neg (fun h=>h.2 b),bu]
    rw [cN b,cond_true,if_pos ⟨a,b⟩,cI (by rw [bo];omega),aB]
  rw [dec_f a,cond_false,if_neg (fun h=>a h.1),bu]
 obtain ⟨E1,hE⟩: ∃E1,E1=E++(if 0<=N[k]!/\N[k]!≠v then [(N[k]!,v)] else []):=⟨_,rfl⟩
 have l1:E1.length<=E.length+1:=by
  rw [hE,bq];split<;>simp
 rw [<- hE] at s0;have s1:kE (v,w,L,i,0+k,2,c,2,1,N,E1)=some (.next (v,w,L,i,0+k,2,c,2,2,N,E1++(if 0<=N[k+1]!/\N[k+1]!≠v then [(N[k+1]!,v)] else []))):=by
  unfold kE;simp only [aJ (show (1:Int)<2 by decide),cond_true,g1,aB,show aA .i64 ((1:Int)+1)=2 from by decide]
  by_cases a:0<=N[k+1]!
  · rw [aJ a,cond_true]
    by_cases b:N[k+1]! =v
    · rw [bF b,cond_false,if_neg (fun h=>h.2 b),bu]
    rw [cN b,cond_true,if_pos ⟨a,b⟩,cI (by rw [bo];omega),aB]
  rw [dec_f a,cond_false,if_neg (fun h=>a h.1),bu]
 rw [aX s0,aX s1];refine aL ?_;unfold kE;simp only [dec_f (show¬(2:Int)<2 by decide),cond_false]
 unfold aNJ;rw [hE,cj]
section
variable {f : List Pt} {t : Int × Int} {p w : List Int} (hr : P6 f t p w) (h64 : p.length <= 64) (ho : GI p)
include hr ho
theorem aNK {i:Nat} (hi:i<w.length):aNJ (bJ p w (2*i+1)) (bJ p w (2*i+2)) w[i]! =(match DY p w i with|some e=>[e]|none=>[]):=by
 have hw:=hr.2 i hi;have ne:0<=bJ p w (2*i+1)->bJ p w (2*i+1)≠bJ p w (2*i+2):=fun h=>NB hr.1 hr.chosen ho hi h
 have hor:=aCs f t (bJ p w (2*i+1)) (bJ p w (2*i+2));unfold DY;rw [hw];generalize hx:bJ p w (2*i+1)=x at ne hor ⊢;generalize hy:bJ p w (2*i+2)=y at ne hor ⊢;unfold aNJ
 by_cases a1:x<0
 · have:DH f t x y=y:=by unfold DH;rw [if_pos a1]
   rw [this,if_neg (by omega),if_neg (by omega),if_pos (.inl a1)];rfl
 by_cases a2:y<0
 · have:DH f t x y=x:=by unfold DH;rw [if_neg a1,if_pos a2]
   rw [this,if_neg (by omega),if_neg (by omega),if_pos (.inr a2)];rfl
 have ne:=ne (by omega)
 rw [if_neg (show¬(x<0\/y<0) by omega)]
 rcases hor with h|h
 · rw [h,if_neg (by omega),if_pos ⟨by omega,fun e=>ne e.symm⟩,if_pos rfl];rfl
 rw [h,if_pos ⟨by omega,ne⟩,if_neg (by omega),if_neg (fun e=>ne e.symm)];rfl
include h64
theorem QN:zU ⟨p,w⟩=some (kJ p w):=by
 have hl:=hr.1;have hN:(w++p).length=w.length+p.length:=bq;have nd: ∀j,j<w.length+p.length->(w++p)[j]! =bJ p w j:=fun j hj=>by
  unfold bJ;split
  · rw [eJ (by omega)]
  rw [fQ (by omega)]
 have st:=cA (body:=sF) (fun i=>(w,(w.length:Int),(i:Int),w++p,zA p w i)) w.length (fun i hi=>by
  have k1:=qQ (i:=i) (by omega) 1 (by omega)
  have k3:aA .i64 ((aA .i64 (2*(i:Int)))+3)=((2*i+3:Nat):Int):=by
   rw [oB (n:=2*(i:Int)) ⟨by omega,by omega⟩,oB ⟨by omega,by omega⟩];omega
  have el:=IH p w i;unfold sF;simp only [aF,aJ (show (i:Int)<(w.length:Int) by omega),cond_true,aD w i hi,aB,show aA .i64 (aA .i64 (2*(i:Int))+1)=((2*i+1:Nat):Int) from k1,k3,hN,
   aJ (show (0:Int)<=((2*i+1:Nat):Int) by omega),aJ (show ((2*i+1:Nat):Int)<=((2*i+3:Nat):Int) by omega),aJ (show ((2*i+3:Nat):Int)<=((w.length+p.length:Nat):Int) by omega),dd,cond_true,cy,
   show 2*i+3- (2*i+1)=2 by omega]
  rw [show ((2:Nat):Int)=2 from rfl,ZE (by omega) (by omega),nd _ (by omega),nd _ (by omega),show 2*i+1+1=2*i+2 from rfl,aNK hr ho hi,aU (show i<1000000000 by omega),FG]
  all_goals rfl)
 unfold zU;rw [show aCZ w p=some (w++p) from by unfold aCZ;rw [if_pos ⟨by omega,by omega⟩]]
 simp only [aB,aF];refine (show _=_ from st).trans (aL ?_);unfold sF;simp only [aF,dec_f (show¬(w.length:Int)<(w.length:Int) by omega),cond_false]
 rfl
end
theorem zC {c:aQ} (ok:bG c) {f:List Pt} (fok:bS f) {p:List Int} (pl:II f p):
 ∃R:cE×Int,jO c ⟨f⟩ p=some R/\nT c ⟨f⟩ p=some R/\(R.2=0/\aUk c f p R.1\/R=(J7,18)):=by
 have h1:=BY fok ok.nowv ok.now64 pl.one pl.most pl.ids pl.once;have g1:=Q9 fok (t:=c.au) ok.now64 pl;have B:=gC (f:=f) (t:=c.au) pl.one;have e1:=QN B pl.most pl.once;have eo:=MJ B.1 pl.most;obtain ⟨R,r1,r2,r3⟩:=VI ok fok pl;rcases r3 with ⟨q0,qq⟩|he
 · refine ⟨(⟨R.1,⟨p,cK f c.au p⟩⟩,0),?_,?_,.inl ⟨rfl,qq,rfl⟩⟩
   · unfold jO
     simp only [h1,aB,e1,r1,q0,show ((0:Int) !=0)=false from rfl,cond_false]
   unfold nT
   simp only [g1,aB,eo,r2,q0,show ((0:Int) !=0)=false from rfl,cond_false]
 refine ⟨(J7,18),?_,?_,.inr rfl⟩
 · unfold jO
   simp only [h1,aB,e1,r1,he,show ((18:Int) !=0)=true from rfl,cond_true];rfl
 unfold nT
 simp only [g1,aB,eo,r2,he,show ((18:Int) !=0)=true from rfl,cond_true];rfl
def iS (p:List Int):List Int:=p.filter fun x=>decide (0<=x)
theorem pX {p:List Int} {j:Nat} (hj:j<p.length):iS (p.take (j+1))=iS (p.take j)++if 0<=p[j]! then [p[j]!] else []:=by
 unfold iS;rw [fR hj,List.filter_append]
 by_cases h:0<=p[j]!
 · rw [if_pos h,List.filter_cons_of_pos (by simpa using h),c8]
 rw [if_neg h,List.filter_cons_of_neg (by simpa using h),c8]
theorem aF8 (p:List Int) (j:Nat):(iS (p.take j)).length<=j:=by
 have:=cm (fun x:Int=>decide (0<=x)) (p.take j)
 rw [bw] at this;unfold iS;omega
theorem J8 (p:List Int) (hl:p.length<=1000):F5 p=some (iS p):=by
 have st:=cA (body:=xL) (fun i=>(p,(i:Int),iS (p.take i))) p.length (fun i hi=>by
  have el:=aF8 p i;rw [pX hi];unfold xL;simp only [aF,aJ (show (i:Int)<(p.length:Int) by omega),cond_true,aD p i hi,aB,aU (show i<1000000000 by omega)]
  by_cases h:0<=p[i]!
  · rw [aJ h,cond_true,if_pos h,cI (by rw [bo];omega),aB]
  rw [dec_f h,cond_false,if_neg h,bu])
 unfold F5;refine (show _=_ from st).trans (aL ?_);unfold xL;simp only [aF,dec_f (show¬(p.length:Int)<(p.length:Int) by omega),cond_false,cf]
structure S6 (p:List Int) (i j:Nat) (L:List Int):Prop where
 len:L.length=p.length
 le:i<=j
 lt:j<=p.length
 got:L.take i=iS (p.take j)
 rest: ∀k,j<=k->k<p.length->L[k]! =p[k]!
theorem S6.cnt {p:List Int} {i j:Nat} {L:List Int} (h:S6 p i j L):i=(iS (p.take j)).length:=by
 have:=congrArg List.length h.got
 rw [bw,h.len] at this
 have:=h.le;have:=h.lt
 omega
theorem aNL {p:List Int} {i:Nat} {L:List Int} (h:S6 p i p.length L): ∃M:List Int,bA p ((i:Int),(p.length:Int),L)=some (.done (.done (i,p.length,M)))/\M.length=p.length/\M.take i=iS p:=by
 have hl:=h.len;have hi:=h.le;have got:=h.got;rw [cf] at got;unfold bA
 simp only [aF,hl,dec_f (show¬(p.length:Int)<(p.length:Int) by omega),cond_false,aJ (show (0:Int)<=(i:Int) by omega),aJ (show (i:Int)<=(p.length:Int) by omega),aJ (show (p.length:Int)<=(p.length:Int) by omega),dd,cond_true,cy,Nat.zero_add,db,Bool.and_true]
 by_cases h0:p.length-i=0
 · have n1:Nat.beq (p.length-i) 0=true:=by rw [h0];rfl
   rw [n1,cond_true,mF L i (by omega),aB,beq_self_eq_true,cond_true]
   exact ⟨L,rfl,hl,got⟩
 have n1:Nat.beq (p.length-i) 0=false:=by
  cases hb:Nat.beq (p.length-i) 0 with
  |false=>rfl
  |true=>have:=Nat.eq_of_beq_eq_true hb;omega
 have n2:Nat.ble (i+(p.length-i)) p.length=true:=Nat.ble_eq_true_of_le (by omega)
 have ll:(jQ L i (bn (p.length-i) (0:Int))).length=p.length:=by
  unfold jQ;simp;omega
 rw [n1,cond_false,n2,cond_true,mF _ i (by rw [ll];omega),aB,ll,beq_self_eq_true,cond_true]
 refine ⟨_,rfl,ll,?_⟩;rw [<- got];unfold jQ;rw [cj,ci (by rw [bw];omega),List.take_take,Nat.min_self]
theorem aUl {p:List Int} (hp:p.length<=1000): ∀(d i j:Nat) (L:List Int),p.length-j<=d->S6 p i j L->
 ∃(n:Nat) (M:List Int),aH (bA p) ((i:Int),(j:Int),L)=some (.done (n,p.length,M))/\n=(iS p).length/\M.length=p.length/\M.take n=iS p:=by
 have fin: ∀(i j:Nat) (L:List Int),p.length<=j->S6 p i j L-> ∃(n:Nat) (M:List Int),aH (bA p) ((i:Int),(j:Int),L)=some (.done (n,p.length,M))/\n=(iS p).length/\M.length=p.length/\M.take n=iS p:=by
  intro i j L hj h;obtain rfl:j=p.length:=by have:=h.lt;omega
  obtain ⟨M,m1,m2,m3⟩:=aNL h;exact ⟨i,M,aL m1,by rw [h.cnt,cf],m2,m3⟩
 intro d
 induction d with
 |zero=>exact fun i j L hd h=>fin i j L (by omega) h
 |succ d ih=>
  intro i j L hd h
  by_cases hj:p.length<=j
  · exact fin i j L hj h
  have hl:=h.len;have hle:=h.le;have e:L[j]! =p[j]!:=h.rest j (ck _) (by omega)
  have st:bA p ((i:Int),(j:Int),L)=some (.next (((if 0<=p[j]! then i+1 else i:Nat):Int),((j+1:Nat):Int),if 0<=p[j]! then L.set i p[j]! else L)):=by
   unfold bA lW;simp only [aF,hl,aJ (show (j:Int)<(p.length:Int) by omega),cond_true,aD L j (by omega),aB,e,aU (show i<1000000000 by omega),aU (show j<1000000000 by omega)]
   by_cases h0:0<=p[j]!
   · rw [dec_f (by omega),db,cond_true,aD L i (by omega),aB,if_pos h0,if_pos h0];rfl
   rw [aJ (by omega),bz,cond_false,if_neg h0,if_neg h0]
  rw [aX st];refine ih _ _ _ (by omega) ?_
  by_cases h0:0<=p[j]!
  · rw [if_pos h0,if_pos h0]
    refine ⟨by rw [cd];exact hl,by omega,by omega,?_,fun k hk hk2=>?_⟩
    · rw [pX (by omega),if_pos h0,<- h.got,fR (by rw [cd];omega),aZ,if_pos ⟨rfl,by omega⟩,List.take_set_of_le (ck i)]
    rw [aZ,if_neg (by omega)];exact h.rest k (by omega) hk2
  rw [if_neg h0,if_neg h0]
  refine ⟨hl,by omega,by omega,?_,fun k hk hk2=>h.rest k (by omega) hk2⟩
  rw [pX (by omega),if_neg h0,bu];exact h.got
theorem QO: ∀{l:List Int},(∀x∈l,0<=x)->iS l=l:=fun {l} h=>List.filter_eq_self.2 fun x hx=>by simpa using h x hx
theorem RA (p:List Int) (hp:p.length<=1000): ∃(n:Nat) (M:List Int),cO p=some (n,p.length,M)/\n=(iS p).length/\M.length=p.length/\M.take n=iS p:=by
 have key: ∀(d m:Nat),p.length-m<=d->m<=p.length->(∀k,k<m->0<=p[k]!)-> ∃(n:Nat) (M:List Int),aH (bB p) ((p.length:Int),(m:Int),p)=some (n,p.length,M)/\n=(iS p).length/\M.length=p.length/\M.take n=iS p:=by
  intro d;have fin: ∀m,m=p.length->(∀k,k<m->0<=p[k]!)-> ∃(n:Nat) (M:List Int),aH (bB p) ((p.length:Int),(m:Int),p)=some (n,p.length,M)/\n=(iS p).length/\M.length=p.length/\M.take n=iS p:=by
   intro m hm h;subst hm;have e:iS p=p:=QO fun x hx=>by
    obtain ⟨i,hi,rfl⟩:=aY.1 hx;exact h i hi
   refine ⟨p.length,p,aL ?_,by rw [e],rfl,by rw [cf,e]⟩
   unfold bB;simp only [dec_f (show¬(p.length:Int)<(p.length:Int) by omega),cond_false,beq_self_eq_true,cond_true]
  induction d with
  |zero=>exact fun m h1 h2 h=>fin m (by omega) h
  |succ d ih=>
   intro m h1 h2 h
   by_cases hm:m=p.length
   · exact fin m hm h
   by_cases h0:0<=p[m]!
   · have st:bB p ((p.length:Int),(m:Int),p)=some (.next ((p.length:Int),((m+1:Nat):Int),p)):=by
      unfold bB lW;simp only [aJ (show (m:Int)<(p.length:Int) by omega),cond_true,aD p m (by omega),aB,dec_f (show¬p[m]!<0 by omega),cond_false,aU (show m<1000000000 by omega)]
     rw [aX st];refine ih (m+1) (by omega) (by omega) fun k hk=>?_
     by_cases e:k=m
     · rw [e];exact h0
     exact h k (by omega)
   have hd:S6 p m (m+1) p:=⟨rfl,by omega,by omega,by
    rw [pX (by omega),if_neg h0,bu,QO fun x hx=>?_]
    obtain ⟨i,hi,_,rfl⟩:=cD.1 hx;exact h i hi,fun k _ _=>rfl⟩
   obtain ⟨n,M,m1,m2,m3,m4⟩:=aUl hp p.length m (m+1) p (by omega) hd
   refine ⟨n,M,aL ?_,m2,m3,m4⟩;unfold bB lW;simp only [aJ (show (m:Int)<(p.length:Int) by omega),cond_true,aD p m (by omega),aB,aJ (show p[m]!<0 by omega),beq_self_eq_true,eO (show (m:Int)≠ -1 by omega),cond_false,aU (show m<1000000000 by omega),m1]
 unfold cO;exact key p.length 0 (by omega) (c7 _) (fun k hk=>absurd hk (Nat.not_lt_zero k))
def aDI (n:Nat):Prop:= ∃i,i<7/\n=2^i
theorem ZF {n:Nat} (h1:1<=n) (h2:n<=64):HK .i64 (n:Int) ((n-1:Nat):Int)=0↔aDI n:=by
 have key: ∀k:Fin 65,1<=k.val->((HK .i64 (k.val:Int) ((k.val-1:Nat):Int)=0)↔ ∃i,i<7/\k.val=2^i):=by decide+kernel
 exact key ⟨n,by omega⟩ h1
theorem dbl {q:Nat} (h:q<=64):aA .i64 ((q:Int)*2)=((2*q:Nat):Int):=by rw [oB ⟨by omega,by omega⟩];omega
theorem aNM (i:Nat):2^(i+1)=2*2^i:=by rw [Nat.pow_succ];omega
theorem QP {n:Nat}:zZ (n:Int)=some (decide (aDI n)):=by
 have st:=qP (body:=sP) (fun i=>((n:Int),((2^i:Nat):Int))) 7 (fun i=>n≠2^i) (r:=true) (e:=false) (fun i hi=>by
  have b1:2^i<=64:=Nat.le_trans (cp (by omega) (show i<=6 by omega)) (by decide)
  unfold sP;simp only [aJ (show ((2^i:Nat):Int)<=64 by omega),cond_true]
  by_cases h:n=2^i
  · rw [eY (by omega)];exact ⟨fun _=>rfl,fun k=>absurd h k⟩
  · rw [eO (by omega),cond_false,dbl b1,aNM]
    exact ⟨fun k=>absurd h k,fun _=>rfl⟩) (by
  unfold sP
  rfl)
 unfold zZ;refine (show _=_ from st).trans ?_
 by_cases h:aDI n
 · obtain ⟨i,hi,e⟩:=h
   rw [if_neg (fun k=>k i hi e),aJ ⟨i,hi,e⟩]
 rw [if_pos (fun i hi e=>h ⟨i,hi,e⟩),dec_f h]
theorem rO (f:List Pt):(rL f).length=f.length:=ce ..
theorem DK {f:List Pt} {i:Nat} (h:i<f.length):(rL f)[i]! =(f[i]!).1:=by
 unfold rL;rw [getElem!_pos _ i (by rw [ce];exact h),getElem!_pos f i h,List.getElem_map]
section
variable {f : List Pt} (h64 : f.length <= 64)
include h64
end
theorem aA3:EY=E2:=rfl
structure wV (k:cE):Prop where
 clk:bG k.bg
 br:ZB k.bi.bc k.bi.be
 pow:aDI k.bi.bc.length
 perm:(rL k.bg.ax.aa).Perm (iS k.bi.bc)
 right:k.bi.be=cK k.bg.ax.aa k.bg.au k.bi.bc
 cert:(k.bg.ay.ar.map fun x=>x.2).Perm (kJ k.bi.bc k.bi.be)
theorem LR {p:List Int} {x:Int}:x∈iS p↔x∈p/\0<=x:=by unfold iS;rw [List.mem_filter];simp
theorem IJ {f:List Pt} {p w:List Int} (br:ZB p w) (pm:(rL f).Perm (iS p)):II f p:=by
 refine ⟨br.one,br.most,br.once,fun x hx=>?_⟩
 have:=br.rng x hx
 by_cases h:0<=x
 · exact .inr ⟨h,M9.1 (pm.mem_iff.2 (LR.2 ⟨hx,h⟩))⟩
 exact .inl (by omega)
theorem aA4 {p:List Int} (h:GI p):(iS p).Nodup:=by
 have go: ∀(j:Nat),j<=p.length->(iS (p.take j)).Nodup:=by
  intro j
  induction j with
  |zero=>intro _;simp [iS]
  |succ j ih=>
   intro hj;rw [pX (by omega)]
   by_cases h0:0<=p[j]!
   · rw [if_pos h0]
     refine List.nodup_append.2 ⟨ih (by omega),by simp,fun a ha b hb e=>?_⟩
     obtain rfl:b=p[j]!:=by simpa using hb
     subst e;have hm:=(LR.1 ha).1;obtain ⟨i,hi,_,e⟩:=cD.1 hm
     have:=h i j hi (by omega) e
     omega
   rw [if_neg h0,bu];exact ih (by omega)
 have:=go p.length (ck _)
 rwa [cf] at this
theorem aA5 {f:List Pt} (h:iI f):(rL f).Pairwise (· <= ·):=by
 refine List.pairwise_iff_getElem.2 fun i j hi hj hij=>?_
 rw [rO] at hi hj
 have:=gU h hij hj
 rw [<- getElem!_pos (rL f) i (by rw [rO];exact hi),<- getElem!_pos (rL f) j (by rw [rO];exact hj),DK hi,DK hj]
 omega
theorem ZG {f:List Pt} (h:iI f) (l:List Int):oH l=rL f↔(rL f).Perm l:=by
 constructor
 · intro e;rw [<- e];exact yB l
 intro pm
 exact List.Perm.eq_of_pairwise (le:=(· <= ·)) (fun a b _ _ h1 h2=>Int.le_antisymm h1 h2) (CO l) (aA5 h) ((yB l).trans pm.symm)
theorem RC (l:List Int) (f:List Pt) (hl:l.length<=1000):cT l f ()=some (decide (l=rL f)):=by
 unfold cT;simp only [aF]
 by_cases h:l.length=f.length
 case neg=>rw [cN (by omega),cond_true,dec_f (fun e=>h (by rw [e,rO]))]
 rw [bF (by omega),cond_false]
 have key:=qP (body:=cJ) (fun i=>(f,l,(l.length:Int),(i:Int))) l.length (fun i=>l[i]! =(f[i]!).1) (r:=false) (e:=true) (fun i hi=>by
  unfold cJ yH;simp only [aJ (show (i:Int)<(l.length:Int) by omega),cond_true,aD l i hi,aD f i (by omega),aB,aU (show i<1000000000 by omega)]
  by_cases q:l[i]! =(f[i]!).1
  · rw [eY q];exact ⟨fun w=>absurd q w,fun _=>rfl⟩
  · rw [eO q];exact ⟨fun _=>rfl,fun w=>absurd w q⟩) (by
  unfold cJ;simp only [dec_f (show¬(l.length:Int)<(l.length:Int) by omega),cond_false])
 refine (show _=_ from key).trans ?_
 by_cases q:l=rL f
 · rw [if_pos (fun i hi=>by rw [q,DK (by omega)]),aJ q]
 rw [if_neg (fun w=>q (wH (by rw [rO];exact h) fun i hi=>by rw [w i hi,DK (by omega)])),dec_f q]
theorem VJ (a b:List Int) (ha:a.length<=1000):pE a b=some (decide (a=b)):=by
 unfold pE;simp only [aF]
 by_cases h:a.length=b.length
 case neg=>rw [cN (by omega),cond_true,dec_f (fun e=>h (by rw [e]))]
 rw [bF (by omega),cond_false]
 have key:=qP (body:=lM) (fun i=>(a,b,(a.length:Int),(i:Int))) a.length (fun i=>a[i]! =b[i]!) (r:=false) (e:=true) (fun i hi=>by
  unfold lM;simp only [aJ (show (i:Int)<(a.length:Int) by omega),cond_true,aD a i hi,aD b i (by omega),aB,aU (show i<1000000000 by omega)]
  by_cases q:a[i]! =b[i]!
  · rw [bF q];exact ⟨fun w=>absurd q w,fun _=>rfl⟩
  · rw [cN q];exact ⟨fun _=>rfl,fun w=>absurd w q⟩) (by
  unfold lM;simp only [dec_f (show¬(a.length:Int)<(a.length:Int) by omega),cond_false])
 refine (show _=_ from key).trans ?_
 by_cases q:a=b
 · rw [if_pos (fun i _=>by rw [q]),aJ q]
 rw [if_neg (fun w=>q (wH h w)),dec_f q]
theorem ZH {n:Nat} {M:List Int} (hn:n<=M.length) (hm:M.length<=1000):F0s TQ n M=some (oH (M.take n)++M.drop n):=by
 unfold F0s LZ TQ;rw [if_pos hn,if_pos (by rw [bw];omega)]
 simp only [xP,if_true,Option.map_some]
theorem S7 {c:aQ} (ok:bG c) {es:List (Int×Int)} (_nd:es.Nodup):(es.length=c.ay.ar.length/\ ∀i,i<c.ay.ar.length->(c.ay.ar[i]!).2∈es)↔(c.ay.ar.map fun x=>x.2).Perm es:=by
 have cl:(c.ay.ar.map fun x=>x.2).length=c.ay.ar.length:=ce ..
 constructor
 · rintro ⟨h1,h2⟩
   exact yY (MH ok.crt) (fun x hx=>by
    obtain ⟨i,hi,rfl⟩:=FD.2 hx;exact h2 i hi) (by omega)
 intro h
 exact ⟨by rw [<- h.length_eq,cl],fun i hi=>h.mem_iff.1 (FD.1 ⟨i,hi,rfl⟩)⟩
theorem D0 {k:cE} (fit:wI k.bg) (hl:k.bi.bc.length<=1000) (wl:k.bi.be.length<=1000):sE k=some (if wV k then 0 else 8):=by
 unfold sE;rw [oY fit,aB]
 by_cases ok:bG k.bg
 case neg=>rw [if_neg ok,if_neg (fun h=>ok h.clk)];rfl
 rw [if_pos ok,bF rfl,cond_false,show pR k.bi=_ from LQ k.bi.bc k.bi.be hl wl,aB]
 by_cases br:ZB k.bi.bc k.bi.be
 case neg=>rw [if_neg br,if_neg (fun h=>br h.br)];rfl
 have b1:=br.one;have b2:=br.most;rw [if_pos br,bF rfl,cond_false,aF,qF (by omega) b1]
 by_cases pw:aDI k.bi.bc.length
 case neg=>rw [cN (fun h=>pw ((ZF b1 b2).1 h)),cond_true,if_neg (fun h=>pw h.pow)]
 rw [bF ((ZF b1 b2).2 pw),cond_false,aT (by omega),aB]
 obtain ⟨n,M,e1,e2,e3,e4⟩:=RA k.bi.bc hl;have nl:n<=M.length:=by
  have:=cm (fun x:Int=>decide (0<=x)) k.bi.bc
  rw [e2,e3];exact this
 have tk:(oH (M.take n)++M.drop n).take n=oH (iS k.bi.bc):=by
  rw [ci (by rw [xP,bw];omega),List.take_of_length_le (by rw [xP,bw];omega),e4]
 have ll:(oH (M.take n)++M.drop n).length=M.length:=by rw [bq,xP,bw,c6];omega
 have fe:k.bg.ax=⟨k.bg.ax.aa⟩:=rfl;rw [e1,aB];dsimp only;rw [ZH nl (by omega),aB,ll,beq_self_eq_true,cond_true,tk,RC _ _ (by rw [xP];omega),aB]
 by_cases pm:(rL k.bg.ax.aa).Perm (iS k.bi.bc)
 case neg=>rw [dec_f (fun h=>pm ((ZG ok.fld.2.2 _).1 h)),if_neg (fun h=>pm h.perm)];rfl
 have pl:=IJ br pm;rw [aJ ((ZG ok.fld.2.2 _).2 pm),bz,cond_false,fe,QM ok.fld ok.nowv ok.now64 pl,aB];dsimp only;obtain ⟨_,nd,el⟩:=zB ok.fld ok.now64 (t:=k.bg.au) pl;have R:=gC (f:=k.bg.ax.aa) (t:=k.bg.au) pl.one;rw [VJ _ _ (by have:=R.1;omega),aB]
 by_cases hw:cK k.bg.ax.aa k.bg.au k.bi.bc=k.bi.be
 case neg=>rw [dec_f hw,if_neg (fun h=>hw h.right.symm)];rfl
 rw [aJ hw,bz,cond_false,aA3,aNI _ _ (by omega) (by have:=ok.bd;omega),aB]
 by_cases hc:(k.bg.ay.ar.map fun x=>x.2).Perm (kJ k.bi.bc (cK k.bg.ax.aa k.bg.au k.bi.bc))
 · rw [aJ ((S7 ok nd).2 hc),if_pos ⟨ok,br,pw,pm,hw.symm,by rw [<- hw];exact hc⟩];rfl
 rw [dec_f (fun h=>hc ((S7 ok nd).1 h)),if_neg (fun h=>hc (by rw [hw];exact h.cert))];rfl
theorem QQ {f:List Pt} (fok:bS f) (p:List Int) (hp:p.length<=1000):AA ⟨f⟩ p=some (decide (∀i,i<p.length->p[i]! = -1\/kI f p[i]!)):=by
 have st:=qP (body:=sQ) (fun i=>(p,(i:Int),f)) p.length (fun i=>p[i]! = -1\/kI f p[i]!) (r:=false) (e:=true) (fun i hi=>by
  unfold sQ;simp only [aF,aJ (show (i:Int)<(p.length:Int) by omega),cond_true,aD p i hi,aB,aU (show i<1000000000 by omega)]
  by_cases h:p[i]! = -1
  · rw [bF h];exact ⟨fun k=>absurd (.inl h) k,fun _=>rfl⟩
  · rw [cN h,cond_true]
    by_cases h2:kI f p[i]!
    · obtain ⟨m,_,e,_⟩:=DC fok h2
      rw [e,aB,dec_f (by omega)];exact ⟨fun k=>absurd (.inr h2) k,fun _=>rfl⟩
    rw [LK fok h2,aB]
    exact ⟨fun _=>rfl,fun k=>by rcases k with k|k;exact absurd k h;exact absurd k h2⟩) (by
  unfold sQ;simp only [aF,dec_f (show¬(p.length:Int)<(p.length:Int) by omega),cond_false])
 unfold AA;refine (show _=_ from st).trans ?_
 by_cases h: ∀i,i<p.length->p[i]! = -1\/kI f p[i]!
 · rw [if_pos h,aJ h]
 rw [if_neg h,dec_f h]
theorem RD {f:List Pt} (fok:bS f) {t:Int×Int} (r64:tH t) {p w:List Int} (br:ZB p w) (pl:II f p):yP ⟨p,w⟩ ⟨f⟩ t=some (decide (w=cK f t p)):=by
 have b2:=br.most;have b3:=br.len;have st:=qP (body:=uW) (fun i=>((i:Int),p,w,f,t)) w.length (fun i=>w[i]! =DH f t (bJ p w (2*i+1)) (bJ p w (2*i+2))) (r:=false) (e:=true) (fun i hi=>by
  have k1:=qQ (i:=i) (by omega) 1 (by omega)
  have k2:=qQ (i:=i) (by omega) 2 (by omega)
  unfold uW;simp only [aF,aJ (show (i:Int)<(w.length:Int) by omega),cond_true,show aA .i64 (aA .i64 (2*(i:Int))+1)=((2*i+1:Nat):Int) from k1,show aA .i64 (aA .i64 (2*(i:Int))+2)=((2*i+2:Nat):Int) from k2,
   rN (p:=p) (w:=w) (i:=2*i+1) (by omega) (by omega),rN (p:=p) (w:=w) (i:=2*i+2) (by omega) (by omega),aB,aD w i hi,aU (show i<1000000000 by omega),
   J5 fok r64 (pl.ids _ (mH b3 br.cho (i:=2*i+1) (by omega))) (pl.ids _ (mH b3 br.cho (i:=2*i+2) (by omega)))]
  by_cases h:w[i]! =DH f t (bJ p w (2*i+1)) (bJ p w (2*i+2))
  · rw [bF h];exact ⟨fun k=>absurd h k,fun _=>rfl⟩
  · rw [cN h];exact ⟨fun _=>rfl,fun k=>absurd k h⟩) (by
  unfold uW;simp only [aF,dec_f (show¬(w.length:Int)<(w.length:Int) by omega),cond_false])
 unfold yP;refine (show _=_ from st).trans ?_;have R:=gC (f:=f) (t:=t) pl.one
 by_cases h:w=cK f t p
 · rw [if_pos (by rw [h];exact R.2),aJ h]
 rw [if_neg (fun k=>h (aDE ⟨b3,k⟩ R)),dec_f h]
theorem ZI {f:List Pt} (fok:bS f) {t:Int×Int} {p:List Int} (pl:II f p) {e:Int×Int} (he:e∈kJ p (cK f t p)):hY (iU f e.2) (iU f e.1) t:=by
 have R:=gC (f:=f) (t:=t) pl.one;have R1:=R.1;obtain ⟨i,hi,h⟩:=P8.1 he;obtain ⟨a1,a2,a3⟩:=DI h;have ne:=NB R.1 R.chosen pl.once hi a1;have hx:=(pl.ids _ (mH R.1 R.chosen (i:=2*i+1) (by omega))).has a1
 have hy:=(pl.ids _ (mH R.1 R.chosen (i:=2*i+2) (by omega))).has a2
 have wv:=R.2 i hi;unfold DH at wv;rw [if_neg (by omega),if_neg (by omega)] at wv
 by_cases ld:hY (iU f (bJ p (cK f t p) (2*i+1))) (iU f (bJ p (cK f t p) (2*i+2))) t
 · rw [if_pos ld] at wv
   rcases a3 with ⟨rfl,_⟩|⟨_,h⟩
   · exact ld
   exact absurd wv h
 rw [if_neg ld] at wv
 rcases a3 with ⟨_,h⟩|⟨rfl,_⟩
 · rw [wv] at h;exact absurd h.symm ne
 exact FE t (by rw [(fT fok hx).2,(fT fok hy).2];exact ne) ld
theorem FH {k:cE} (fit:wI k.bg) (hl:k.bi.bc.length<=1000) (wl:k.bi.be.length<=1000):oS k=some (if wV k then 0 else 8):=by
 unfold oS;rw [P1 fit,aB]
 by_cases ok:bG k.bg
 case neg=>rw [if_neg ok,if_neg (fun h=>ok h.clk)];rfl
 rw [if_pos ok,bF rfl,cond_false,show wG k.bi=_ from QL k.bi.bc k.bi.be hl wl,aB]
 by_cases br:ZB k.bi.bc k.bi.be
 case neg=>rw [if_neg br,if_neg (fun h=>br h.br)];rfl
 have b1:=br.one;have b2:=br.most;rw [if_pos br,bF rfl,cond_false,aF,QP,aB]
 by_cases pw:aDI k.bi.bc.length
 case neg=>rw [dec_f pw,if_neg (fun h=>pw h.pow)];rfl
 have fe:k.bg.ax=⟨k.bg.ax.aa⟩:=rfl;rw [aJ pw,bz,cond_false,fe,QQ ok.fld _ hl,aB]
 by_cases pm:(rL k.bg.ax.aa).Perm (iS k.bi.bc)
 case neg=>
  by_cases kn: ∀i,i<k.bi.bc.length->k.bi.bc[i]! = -1\/kI k.bg.ax.aa k.bi.bc[i]!
  case neg=>rw [dec_f kn,if_neg (fun h=>pm h.perm)];rfl
  rw [aJ kn,bz,cond_false,J8 _ hl,aB,aF,aF,if_neg (fun h=>pm h.perm)]
  rw [cN (fun h=>pm ?_)]
  · rfl
  have h:((iS k.bi.bc).length:Int)=(k.bg.ax.aa.length:Int):=h;refine (yY (aA4 br.once) (fun x hx=>?_) (by rw [rO];omega)).symm
  obtain ⟨h1,h2⟩:=LR.1 hx;obtain ⟨i,hi,rfl⟩:=aY.1 h1;rcases kn i hi with e|e
  · omega
  exact M9.2 e
 have pl:=IJ br pm;have kn: ∀i,i<k.bi.bc.length->k.bi.bc[i]! = -1\/kI k.bg.ax.aa k.bi.bc[i]!:=fun i hi=>by
  rcases pl.ids _ (bH hi) with e|e
  · exact .inl e
  exact .inr e.2
 rw [aJ kn,bz,cond_false,J8 _ hl,aB,aF,aF,bF (by rw [<- pm.length_eq,rO]),cond_false,show yP k.bi ⟨k.bg.ax.aa⟩ k.bg.au=_ from RD ok.fld ok.now64 br pl,aB]
 by_cases hw:k.bi.be=cK k.bg.ax.aa k.bg.au k.bi.bc
 case neg=>rw [dec_f hw,if_neg (fun h=>hw h.right)];rfl
 obtain ⟨eok,nd,el⟩:=zB ok.fld ok.now64 (t:=k.bg.au) pl;rw [aJ hw,bz,cond_false,show BP k.bi=_ from MJ br.len b2,aB];rw [hw];rw [aND ok _ eok.kn,aB]
 by_cases hc:(k.bg.ay.ar.map fun x=>x.2).Perm (kJ k.bi.bc (cK k.bg.ax.aa k.bg.au k.bi.bc))
 · rw [aJ (show _/\_ from ⟨by rw [<- hc.length_eq,ce],fun i hi=>⟨FD.2 (hc.mem_iff.2 (bH hi)),ZI ok.fld pl (bH hi)⟩⟩),if_pos ⟨ok,br,pw,pm,hw,by rw [hw];exact hc⟩];rfl
 rw [dec_f (fun h=>hc ?_),if_neg (fun h=>hc (by have:=h.cert;rw [hw] at this;exact this))]
 · rfl
 have cl:(k.bg.ay.ar.map fun x=>x.2).length=k.bg.ay.ar.length:=ce ..
 refine (yY nd (fun x hx=>?_) (by omega)).symm
 obtain ⟨i,hi,rfl⟩:=aY.1 hx;exact FD.1 (h.2 i hi).1
section
variable {f : List Pt} (fok : bS f) {t : Int × Int} {p w : List Int} (pl : II f p) (R : P6 f t p w)
include fok pl R
end
theorem aA6: ∀e,e<=6->dL [-1] ((2^e:Nat):Int)=some (bn (2^e) (-1)):=by
 have go: ∀(n:Nat) (m:Nat),n<1000->aA .u64 (n:Int)=(n:Int)->(2^m=n)->gW (aA .u64 (Int.ofNat ([-1]:List Int).length)) (aA .u64 (n:Int))=some (0,(n:Int)):=fun n m hn h _=>by
  rw [show aA .u64 (Int.ofNat ([-1]:List Int).length)=1 from by kernel_rfl,h,JO ⟨by decide,by decide⟩ ⟨by omega,by omega⟩]
  have e1:(1*(n:Int)) / 18446744073709551616=0:=by omega
  have e2:(1*(n:Int))%18446744073709551616=(n:Int):=by omega
  rw [e1,e2]
 intro e he;have he:e=0\/e=1\/e=2\/e=3\/e=4\/e=5\/e=6:=by omega
 rcases he with rfl|rfl|rfl|rfl|rfl|rfl|rfl
 · unfold dL iC;rw [go 1 0 (by omega) (by kernel_rfl) rfl];exact (by kernel_rfl:_=aH dK (1,-1::bn 0 0)).trans (jP.2 ⟨20,by kernel_rfl⟩)
 · unfold dL iC;rw [go 2 1 (by omega) (by kernel_rfl) rfl];exact (by kernel_rfl:_=aH dK (1,-1::bn 1 0)).trans (jP.2 ⟨20,by kernel_rfl⟩)
 · unfold dL iC;rw [go 4 2 (by omega) (by kernel_rfl) rfl];exact (by kernel_rfl:_=aH dK (1,-1::bn 3 0)).trans (jP.2 ⟨20,by kernel_rfl⟩)
 · unfold dL iC;rw [go 8 3 (by omega) (by kernel_rfl) rfl];exact (by kernel_rfl:_=aH dK (1,-1::bn 7 0)).trans (jP.2 ⟨20,by kernel_rfl⟩)
 · unfold dL iC;rw [go 16 4 (by omega) (by kernel_rfl) rfl];exact (by kernel_rfl:_=aH dK (1,-1::bn 15 0)).trans (jP.2 ⟨20,by kernel_rfl⟩)
 · unfold dL iC;rw [go 32 5 (by omega) (by kernel_rfl) rfl];exact (by kernel_rfl:_=aH dK (1,-1::bn 31 0)).trans (jP.2 ⟨20,by kernel_rfl⟩)
 unfold dL iC;rw [go 64 6 (by omega) (by kernel_rfl) rfl];exact (by kernel_rfl:_=aH dK (1,-1::bn 63 0)).trans (jP.2 ⟨20,by kernel_rfl⟩)
structure zD (k:cE):Prop where
 c:P5 k.bg
 p:k.bi.bc.length<=1000
 w:k.bi.be.length<=1000
theorem nW:zD J7:=⟨Q6,c7 _,c7 _⟩
theorem IK {k:cE} (h:zD k):tZ k k=some true:=by
 have h1:=h.p;have h2:=h.w;unfold tZ IA;rw [aAX h.c,aB,cond_true,Y5 _ (by omega),aB,cond_true,Y5 _ (by omega),aB,aB]
theorem aA7 {k:cE} (h:zD k):yE k=some k:=by
 have h1:=h.p;have h2:=h.w;unfold yE CQ;rw [aAY h.c,aB,aT (by omega),aB,aT (by omega),aB,aB]
theorem ZJ (k:cE):vW k=some true\/(vW k=some false/\zD k):=by
 unfold vW EV
 rcases Y2 k.bg with e|⟨e,sh⟩
 · rw [e];exact .inl rfl
 rw [e,aB,cond_false];simp only [aF]
 by_cases h:70<k.bi.bc.length
 · rw [aJ (by omega)];exact .inl rfl
 rw [dec_f (by omega),cond_false,aB]
 by_cases h2:70<k.bi.be.length
 · rw [aJ (by omega)];exact .inl rfl
 rw [dec_f (by omega)];exact .inr ⟨rfl,sh,by omega,by omega⟩
theorem aUk.short {c:aQ} {f:List Pt} {p:List Int} {k:cE} (pl:II f p) (h:aUk c f p k):zD k:=by
 have R:=gC (f:=f) (t:=c.au) pl.one;have b2:=pl.most;have b3:=R.1;refine ⟨h.ren.ok.short,by rw [h.bc];show p.length<=1000;omega,by rw [h.bc];show (cK f c.au p).length<=1000;omega⟩
theorem wV.fit (k:cE) (n:aDD k.bg) (sh:zD k):wI k.bg:=⟨n.au,⟨sh.c.s3,sh.c.h,sh.c.w,n.at64⟩,sh.c.d⟩
structure aWV (c:aQ) (l:List Int):Prop where
 ok:bG c
 pm:(rL c.ax.aa).Perm l
 ct:(c.ay.ar.map fun x=>x.2).Perm (FC l)
theorem aWV.bd {c:aQ} {l:List Int} (h:aWV c l):l.length<=64:=by
 have:=h.ok.bd
 have:l.length=c.ax.aa.length:=by rw [<- h.pm.length_eq];exact ce ..
 omega
theorem aF9 (l:List Int) (x:Int) (hl:l.length<=1000) (h1:1<=l.length):aH pT (l,l++[x])=some (.done (l++[x]++bn (l.length-1) (-1))):=by
 have key:=cA (body:=pT) (fun j=>(l,l++[x]++bn j (-1))) (l.length-1) (fun j hj=>by
  unfold pT;have e:aA .i64 (2*(l.length:Int))=2*(l.length:Int):=oB ⟨by omega,by omega⟩
  simp only [aF,bq,bo,bv,e];rw [aJ (show ((l.length+1+j:Nat):Int)<2*(l.length:Int) by omega),cond_true,cI (by simp;omega),aB,cj (l++[x]),<- List.replicate_succ'])
 rw [List.replicate_zero,bu] at key;rw [key];refine aL ?_;unfold pT;have e:aA .i64 (2*(l.length:Int))=2*(l.length:Int):=oB ⟨by omega,by omega⟩
 simp only [aF,bq,bo,bv,e];rw [dec_f (show¬((l.length+1+(l.length-1):Nat):Int)<2*(l.length:Int) by omega),cond_false]
inductive aCw (l:List Int) (x:Int):List Int->Prop
 |at_ (k:Nat) (hk:k<l.length) (e:l[k]! = -1) (h: ∀j,j<k->l[j]!≠ -1) (hi:jV l (-1)=some (k:Int)):aCw l x (l.set k x)
 |end_ (h: ∀j,j<l.length->l[j]!≠ -1) (hi:jV l (-1)=some (-1)):aCw l x (l++[x]++bn (l.length-1) (-1))
theorem aNN {l:List Int} (h1:1<=l.length) (hl:l.length<=1000) (hr: ∀x∈l,-1<=x) (x:Int): ∃m,yQ l x=some m/\aCw l x m:=by
 have neg: ∀j,j<l.length->(l[j]!<0↔l[j]! = -1):=fun j hj=>by
  have:=hr _ (bH hj)
  omega
 unfold yQ;rw [aT (by omega),aB]
 have key:=lA (body:=uY) (fun i=>(l,x,(i:Int),l)) l.length (fun i=>l[i]!<0) (fun i=>l.set i x) (e:=l++[x]++bn (l.length-1) (-1)) (fun i hi=>by
  unfold uY;simp only [aF,aJ (show (i:Int)<(l.length:Int) by omega),cond_true,aD l i hi,aB,aU (show i<1000000000 by omega),oV]
  refine ⟨fun h=>?_,fun h=>?_⟩
  · rw [aJ h];rfl
  · rw [dec_f h];rfl) (by
  unfold uY;simp only [aF,dec_f (show¬(l.length:Int)<(l.length:Int) by omega),cond_false]
  rw [cI (by simp;omega),aB]
  exact aF9 l _ (by omega) (by omega))
 have ix:=aF0 l (-1) (by omega)
 by_cases h: ∃i,i<l.length/\l[i]!<0
 · obtain ⟨k,k1,k2,k3⟩:=G1 h
   have k3': ∀j,j<k->l[j]!≠ -1:=fun j hj e=>k3 j hj ((neg j (by omega)).2 e)
   exact ⟨_,key.1 k k1 k2 k3,.at_ k k1 ((neg k k1).1 k2) k3' (ix.1 k k1 ((neg k k1).1 k2) k3')⟩
 have h': ∀i,i<l.length-> ¬l[i]!<0:=fun i hi hx=>h ⟨i,hi,hx⟩
 have h2: ∀j,j<l.length->l[j]!≠ -1:=fun j hj e=>h' j hj ((neg j hj).2 e)
 exact ⟨_,key.2 h',.end_ h2 (ix.2 h2)⟩
theorem aNO {f:List Pt} {m:Nat} {p:Pt} {x:Int} (h:kI f x):kI (A6 f m p) x:=by
 obtain ⟨i,hi,rfl⟩:=h;obtain ⟨j,hj,e⟩:=aY.1 (aCu (m:=m) (p:=p).2 (.inr (bH hi)));exact ⟨j,hj,by rw [e]⟩
theorem aCx (f:List Pt) (m:Nat) (p:Pt):kI (A6 f m p) p.1:=by
 obtain ⟨j,hj,e⟩:=aY.1 (aCu (f:=f) (m:=m) (p:=p).2 (.inl rfl));exact ⟨j,hj,by rw [e]⟩
theorem MT.ins {f:List Pt} {m:Nat} {p:Pt} {x:Int} (h:MT f x):MT (A6 f m p) x:=h.imp id fun h=>⟨h.1,aNO h.2⟩
theorem aA8 {f:List Pt} {l:List Int} (pl:II f l) {p:Pt} (p0:0<=p.1) (nh: ¬kI f p.1) {m:Nat} (h32:(∀j,j<l.length->l[j]!≠ -1)->l.length<=32) {q:List Int} (h:aCw l p.1 q):II (A6 f m p) q:=by
 have one:=pl.one;have most:=pl.most;have ne: ∀j,j<l.length->l[j]!≠p.1:=fun j hj e=>by
  rcases pl.ids _ (bH hj) with h|h
  · omega
  exact nh (e▸h.2)
 cases h with
 |at_ k hk e h hi=>
  refine ⟨by rw [cd];exact one,by rw [cd];exact most,fun i j hij hj he=>?_,fun x hx=>?_⟩
  · rw [cd] at hj
    rw [aZ,aZ] at he;rw [aZ]
    by_cases a:i=k
    · rw [if_pos ⟨a,by omega⟩,if_neg (by omega)] at he
      exact absurd he.symm (ne j hj)
    rw [if_neg (fun h=>a h.1)] at he ⊢
    by_cases b:j=k
    · rw [if_pos ⟨b,by omega⟩] at he
      exact absurd he (ne i (by omega))
    rw [if_neg (fun h=>b h.1)] at he
    exact pl.once i j hij hj he
  rcases List.mem_or_eq_of_mem_set hx with h|h
  · exact (pl.ids x h).ins
  subst h;exact .inr ⟨p0,aCx f m p⟩
 |end_ h hi=>
  have h32:=h32 h;have ll:(l++[p.1]++bn (l.length-1) (-1:Int)).length=2*l.length:=by
   rw [bq,bq,bo,bv];omega
  have g1: ∀i,i<l.length->(l++[p.1]++bn (l.length-1) (-1:Int))[i]! =l[i]!:=fun i hi=>by
   rw [eJ (by rw [bq];omega),eJ hi]
  have g2:(l++[p.1]++bn (l.length-1) (-1:Int))[l.length]! =p.1:=by
   rw [eJ (by rw [bq,bo];omega),fQ (ck _),de];rfl
  have g3: ∀i,l.length<i->i<2*l.length->(l++[p.1]++bn (l.length-1) (-1:Int))[i]! = -1:=fun i h1 h2=>by
   rw [fQ (by rw [bq,bo];omega)]
   rw [bq,bo]
   have:=bH (l:=bn (l.length-1) (-1:Int)) (i:=i- (l.length+1)) (by rw [bv];omega)
   exact (cq.1 this).2
  refine ⟨by rw [ll];omega,by rw [ll];omega,fun i j hij hj he=>?_,fun x hx=>?_⟩
  · rw [ll] at hj
    rcases cz i l.length with a|a|a
    · rw [g1 i a] at he ⊢
      rcases cz j l.length with b|b|b
      · rw [g1 j b] at he;exact pl.once i j hij b he
      · rw [b,g2] at he;exact absurd he (ne i a)
      rw [g3 j b hj] at he;omega
    · rw [a,g2,g3 j (by omega) hj] at he;omega
    rw [g3 i a (by omega)];omega
  rcases c9.1 hx with hx|hx
  · rcases c9.1 hx with hx|hx
    · exact (pl.ids x hx).ins
    obtain rfl:=List.mem_singleton.1 hx
    exact .inr ⟨p0,aCx f m p⟩
  exact .inl (cq.1 hx).2
theorem wV.bc {k:cE} (ok:wV k):II k.bg.ax.aa k.bi.bc:=IJ ok.br ok.perm
theorem aNP {k:cE} (ok:wV k) (hlt:k.bg.ax.aa.length<64) (h: ∀j,j<k.bi.bc.length->k.bi.bc[j]!≠ -1):k.bi.bc.length<=32:=by
 have all:iS k.bi.bc=k.bi.bc:=QO fun x hx=>by
  obtain ⟨j,hj,rfl⟩:=aY.1 hx
  have:=h j hj
  rcases ok.bc.ids _ (bH hj) with e|e
  · exact absurd e this
  exact e.1
 have e:=ok.perm.length_eq;rw [all,rO] at e;obtain ⟨i,hi,hp⟩:=ok.pow
 have:i<=5:=by
  rcases Nat.lt_or_ge i 6 with h|h
  · omega
  obtain rfl:i=6:=by omega
  omega
 have:=cp (show 0<2 by omega) this
 omega
section
variable {k : cE} (n : aDD k.bg) (sh : zD k)
include n sh
theorem QR (p:Pt): ∃R:cE×Int,BO k p=some R/\BQ k p=some R/\zD R.1:=by
 have c1:=D0 (wV.fit k n sh) sh.p sh.w;have c2:=FH (wV.fit k n sh) sh.p sh.w
 by_cases ok:wV k
 · rw [if_pos ok] at c1 c2
   have fok:=ok.clk.fld;have pl:=ok.bc;unfold BO BQ;rw [c1,aB,bF rfl,cond_false,c2,aB,bF rfl,cond_false];rcases P9 fok p with ⟨e,e0,t1,t2⟩|⟨m,hm,hp,po,hlt,t1,t2⟩
   · have t1:nO k.bg.ax p=some (⟨[]⟩,e):=t1
     have t2:nQ k.bg.ax p=some (⟨[]⟩,e):=t2;rw [t1,aB,cN e0,cond_true,t2,aB,cN e0,cond_true];exact ⟨_,rfl,rfl,nW⟩
   have t1:nO k.bg.ax p=some (⟨A6 k.bg.ax.aa m p⟩,0):=t1;have t2:nQ k.bg.ax p=some (⟨A6 k.bg.ax.aa m p⟩,0):=t2;have fok':=aNE fok po hm hlt;have most:=pl.most;have one:=pl.one;obtain ⟨q,w1,w2⟩:=aNN one (by omega) (fun x hx=>(pl.rng fok x hx).1) p.1
   have p0:0<=p.1:=by have:=po;unfold gV at this;omega
   have pl':II (A6 k.bg.ax.aa m p) q:=aA8 pl p0 hp (aNP ok hlt) w2;obtain ⟨R,s1,s2,s3⟩:=zC ok.clk fok' pl';have shR:zD R.1:=by
    rcases s3 with ⟨_,h⟩|h
    · exact h.short pl'
    rw [h];exact nW
   refine ⟨R,?_,?_,shR⟩
   · rw [t1,aB,bF rfl,cond_false,aT (by omega),aB]
     cases w2 with
     |at_ j hj e h hi=>
      rw [hi,aB,dec_f (show¬(j:Int)<0 by omega),cond_false,aD _ j hj,aB,oV,s1,aB]
     |end_ h hi=>
      obtain ⟨i,hi7,hpw⟩:=ok.pow;have rep:=aA6 i (by omega)
      rw [<- hpw] at rep;rw [hi,aB,aJ (show (-1:Int)<0 by decide),cond_true,aF,rep,aB]
      have em:(bn k.bi.bc.length (-1:Int)).isEmpty=false:=by
       cases hh:k.bi.bc.length with
       |zero=>omega
       |succ _=>rfl
      rw [em,cond_false,cI (by rw [bv];omega),aB,aD _ _ (by rw [bq,bv];omega),aB,oV]
      have:(k.bi.bc++bn k.bi.bc.length (-1:Int)).set k.bi.bc.length p.1=k.bi.bc++[p.1]++bn (k.bi.bc.length-1) (-1):=by
       rw [List.set_append_right _ _ (ck _),de];cases hh:k.bi.bc.length with
       |zero=>omega
       |succ n=>simp [List.replicate_succ]
      rw [this,s1,aB]
   rw [t2,aB,bF rfl,cond_false,w1,aB,s2,aB]
 rw [if_neg ok] at c1 c2
 refine ⟨(J7,8),?_,?_,nW⟩
 · unfold BO;rw [c1,aB,cN (by decide),cond_true];rfl
 unfold BQ;rw [c2,aB,cN (by decide),cond_true,aB];rfl
theorem J9 (p:Pt): ∃R:cE×Int,sV k p=some R/\sW k p=some R/\zD R.1:=by
 have c1:=D0 (wV.fit k n sh) sh.p sh.w;have c2:=FH (wV.fit k n sh) sh.p sh.w
 by_cases ok:wV k
 · rw [if_pos ok] at c1 c2
   have fok:=ok.clk.fld;have pl:=ok.bc;unfold sV sW;rw [c1,aB,bF rfl,cond_false,c2,aB,bF rfl,cond_false];rcases J4 fok p with ⟨e,e0,t1,t2⟩|⟨q,hq,he,po,t1,t2⟩
   · have t1:jK k.bg.ax p=some (⟨[]⟩,e):=t1
     have t2:jL k.bg.ax p=some (⟨[]⟩,e):=t2;rw [t1,aB,cN e0,cond_true,t2,aB,cN e0,cond_true];exact ⟨_,rfl,rfl,nW⟩
   have t1:jK k.bg.ax p=some (⟨k.bg.ax.aa.set q p⟩,0):=t1;have t2:jL k.bg.ax p=some (⟨k.bg.ax.aa.set q p⟩,0):=t2;have fok':=aUh fok po hq he;have has': ∀x,kI k.bg.ax.aa x->kI (k.bg.ax.aa.set q p) x:=fun x ⟨i,hi,e⟩=>by
    refine ⟨i,by rw [cd];exact hi,?_⟩
    rw [aZ]
    by_cases a:i=q
    · rw [if_pos ⟨a,hq⟩,<- he,<- a];exact e
    rw [if_neg (fun h=>a h.1)];exact e
   have pl':II (k.bg.ax.aa.set q p) k.bi.bc:=⟨pl.one,pl.most,pl.once,fun x hx=>(pl.ids x hx).imp id fun h=>⟨h.1,has' x h.2⟩⟩
   obtain ⟨R,s1,s2,s3⟩:=zC ok.clk fok' pl';have shR:zD R.1:=by
    rcases s3 with ⟨_,h⟩|h
    · exact h.short pl'
    rw [h];exact nW
   refine ⟨R,?_,?_,shR⟩
   · rw [t1,aB,bF rfl,cond_false,s1,aB]
   rw [t2,aB,bF rfl,cond_false,s2,aB]
 rw [if_neg ok] at c1 c2
 refine ⟨(J7,8),?_,?_,nW⟩
 · unfold sV;rw [c1,aB,cN (by decide),cond_true];rfl
 unfold sW;rw [c2,aB,cN (by decide),cond_true,aB];rfl
end
theorem FI (k:cE) (p q:Pt) (n:aDD k.bg):wS k p q=some true:=by
 unfold wS;rcases ZJ k with e|⟨e,sh⟩
 · rw [e];rfl
 obtain ⟨A,a1,a2,a3⟩:=QR n sh p;obtain ⟨B,b1,b2,b3⟩:=J9 n sh q;rw [e,aB,cond_false,aA7 sh,aB,a1,aB,a2,aB,b1,aB,b2,aB,IK a3,aB,cond_true,eY rfl,cond_true,IK b3,aB,cond_true,eY rfl,cond_true,IK sh,aB]
theorem aDD.of {c:aQ} (h1:RT.wf [.i .i64,.i .i64] c.au) (h2: ∀a∈c.az.aj,RT.wf [.i .i64,.i .i64,.i .i64,.i .i64,.i .i64] a):aDD c where
 au:=⟨T8 h1.1,T8 h1.2⟩
 at64 w hw:=by
  have:=h2 (c.az.aj[w]!) (by rw [getElem!_pos c.az.aj w hw];exact List.getElem_mem hw)
  exact ⟨T8 this.1,T8 this.2.1⟩
end Go.Proofs.YtogihpogmfjoiaaGreat
