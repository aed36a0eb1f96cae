/- Plain laws (5). -/
import Derived.Test.YtlnclppkepgdmaaGreatAQM4
import Derived.Test.YtlnclppkepgdmaaGreatAQS2
import Derived.Test.YtlnclppkepgdmaaGreatAVm3
namespace Go.Proofs.YtlnclppkepgdmaaGreat
open Go.Vm Classical
structure Y8 (p w:List Int):Prop where
 one:1<=p.length
 most:p.length<=64
 len:w.length+1=p.length
 once:IA p
 rng: ∀x∈p,-1<=x/\x<=65535
 cho:DB p w
 none_: ∀i,i<w.length->w[i]!<0->bE p w (2*i+1)<0/\bE p w (2*i+2)<0
def VG (p w:List Int) (i:Nat):Prop:=(w[i]! =bE p w (2*i+1)\/w[i]! =bE p w (2*i+2))/\ ¬(w[i]!<0/\(0<=bE p w (2*i+1)\/0<=bE p w (2*i+2)))
def aDG (p w:List Int) (i:Nat):Prop:=(w[i]! =bE p w (2*i+1)\/w[i]! =bE p w (2*i+2))/\ ¬(w[i]! = -1/\(bE p w (2*i+1)≠ -1\/bE p w (2*i+2)≠ -1))
def Q7 (p:List Int) (i:Nat):Prop:= -1<=p[i]!/\p[i]!<=65535
def QF (p:List Int) (i:Nat):Prop:= ∀j,j<i->p[j]! =p[i]!->p[i]!<0
theorem J0 {p:List Int}:(∀i,i<p.length->QF p i)↔IA p:=
 ⟨fun h i j hij hj e=>by rw [e];exact h j hj i hij e,fun h i hi j hj e=>by have:=h j i hj hi e;rw [e] at this;exact this⟩
theorem VH {p:List Int}:(∀i,i<p.length->Q7 p i)↔ ∀x∈p,-1<=x/\x<=65535:=(E9 (P:=fun x=> -1<=x/\x<=65535)).symm
theorem aF1 {p w:List Int} (h1:1<=p.length) (h64:p.length<=64) (hl:w.length+1=p.length):
 Y8 p w↔(∀i,i<p.length->QF p i)/\(∀i,i<p.length->Q7 p i)/\ ∀i,i<w.length->VG p w i:=by
 rw [J0,VH];constructor
 · intro h
   refine ⟨h.once,h.rng,fun i hi=>⟨h.cho i hi,fun ⟨a,b⟩=>?_⟩⟩
   have:=h.none_ i hi a
   omega
 · rintro ⟨a,b,c⟩
   exact ⟨h1,h64,hl,a,b,fun i hi=>(c i hi).1,fun i hi h0=>by have:=(c i hi).2;omega⟩
theorem Y9 {p w:List Int} (hl:w.length+1=p.length) (hr: ∀x∈p,-1<=x/\x<=65535):(∀i,i<w.length->VG p w i)↔ ∀i,i<w.length->aDG p w i:=by
 constructor<;>intro h i hi
 · have hc:DB p w:=fun i hi=>(h i hi).1
   have a1:=hr _ (jY hl hc (i:=2*i+1) (by omega))
   have a2:=hr _ (jY hl hc (i:=2*i+2) (by omega))
   obtain ⟨b1,b2⟩:=h i hi;exact ⟨b1,by omega⟩
 · have hc:DB p w:=fun i hi=>(h i hi).1
   have a1:=hr _ (jY hl hc (i:=2*i+1) (by omega))
   have a2:=hr _ (jY hl hc (i:=2*i+2) (by omega))
   obtain ⟨b1,b2⟩:=h i hi;exact ⟨b1,by omega⟩
theorem aT0 {p q:Prop} [Decidable p] [Decidable q] [Decidable (p/\q)] {a b:Int}:(if p then (if q then a else b) else b)=if p/\q then a else b:=by
 by_cases hp:p
 · rw [if_pos hp];exact JY ⟨fun h=>⟨hp,h⟩,fun h=>h.2⟩
 · rw [if_neg hp,if_neg (fun h=>hp h.1)]
theorem BU (p w:List Int) (hl:p.length<=1000) (wl:w.length<=1000):kS ⟨p,w⟩=some (if Y8 p w then 0 else 8):=by
 unfold kS;simp only [aF]
 by_cases h1:(p.length:Int)<1
 · rw [aK h1,cond_true,if_neg (fun h=>by have:=h.one;omega)]
 rw [dec_f h1,cond_false]
 by_cases h2:(64:Int)<(p.length:Int)
 · rw [aK h2,cond_true,if_neg (fun h=>by have:=h.most;omega)]
 rw [dec_f h2,cond_false,qA (by omega) (by omega)]
 by_cases h3:w.length+1=p.length
 case neg=>rw [cQ (by omega),cond_true,if_neg (fun h=>h3 h.len)]
 rw [bS (by omega),cond_false]
 have l1:=qI (body:=jN) (fun i=>(w,(w.length:Int),(i:Int),p,w)) w.length (VG p w) (r:= .done (.done 8)) (e:= .done (.done 0)) (fun i hi=>by
  unfold jN VG;have k1:=sW (i:=i) (by omega) 1 (by omega)
  have k2:=sW (i:=i) (by omega) 2 (by omega)
  simp only [aK (show (i:Int)<(w.length:Int) by omega),cond_true,aE w i hi,aD,show aA .i64 (aA .i64 (2*(i:Int))+1)=((2*i+1:Nat):Int) from k1,show aA .i64 (aA .i64 (2*(i:Int))+2)=((2*i+2:Nat):Int) from k2,
   mY (p:=p) (w:=w) (i:=2*i+1) (by omega) (by omega),mY (p:=p) (w:=w) (i:=2*i+2) (by omega) (by omega),aT (show i<1000000000 by omega)]
  generalize bE p w (2*i+1)=x;generalize bE p w (2*i+2)=y;generalize w[i]! =v
  by_cases a1:v=x
  · rw [bS a1,cond_false]
    by_cases a3:v<0
    · rw [aK a3,cond_true]
      by_cases a4:0<=(if y>x then y else x)
      · rw [aK a4,cond_true]
        exact ⟨fun _=>rfl,fun h=>by split at a4<;>omega⟩
      · rw [dec_f a4,cond_false]
        exact ⟨fun h=>by split at a4<;>omega,fun _=>rfl⟩
    · rw [dec_f a3,cond_false]
      exact ⟨fun h=>by omega,fun _=>rfl⟩
  · rw [cQ a1,cond_true]
    by_cases a2:v=y
    · rw [bS a2,cond_false]
      by_cases a3:v<0
      · rw [aK a3,cond_true]
        by_cases a4:0<=(if y>x then y else x)
        · rw [aK a4,cond_true]
          exact ⟨fun _=>rfl,fun h=>by split at a4<;>omega⟩
        · rw [dec_f a4,cond_false]
          exact ⟨fun h=>by split at a4<;>omega,fun _=>rfl⟩
      · rw [dec_f a3,cond_false]
        exact ⟨fun h=>by omega,fun _=>rfl⟩
    · rw [cQ a2,cond_true]
      exact ⟨fun _=>rfl,fun h=>by omega⟩) (by
  unfold jN;simp only [dec_f (show¬(w.length:Int)<(w.length:Int) by omega),cond_false])
 have l1':aH jN (w,(w.length:Int),0,p,w)=some (.done (.done (if∀i,i<w.length->VG p w i then 0 else 8))):=by
  refine (show _=_ from l1).trans ?_
  by_cases h: ∀i,i<w.length->VG p w i
  · rw [if_pos h,if_pos h]
  · rw [if_neg h,if_neg h]
 have l2: ∀m,aH jO (p,(p.length:Int),0,p,w,m)=some (.done (if (∀i,i<p.length->Q7 p i)/\ ∀i,i<w.length->VG p w i then 0 else 8)):=fun m=>by
  have l2:=qI (body:=jO) (fun i=>(p,(p.length:Int),(i:Int),p,w,m)) p.length (Q7 p) (r:= .done 8) (e:= .done (if∀i,i<w.length->VG p w i then 0 else 8)) (fun i hi=>by
   unfold jO wM Q7;simp only [aK (show (i:Int)<(p.length:Int) by omega),cond_true,aE p i hi,aD,aT (show i<1000000000 by omega)]
   generalize p[i]! =v
   by_cases a1: -1<=v
   · rw [aK a1,cond_true,aD]
     by_cases a2:v<=65535
     · rw [aK a2];exact ⟨fun h=>absurd ⟨a1,a2⟩ h,fun _=>rfl⟩
     · rw [dec_f a2]
       refine ⟨fun _=>?_,fun h=>absurd h.2 a2⟩
       rw [aK (show (0:Int)<=(i:Int) by omega)];rfl
   · rw [dec_f a1,cond_false,aD]
     refine ⟨fun _=>?_,fun h=>absurd h.1 a1⟩
     rw [aK (show (0:Int)<=(i:Int) by omega)];rfl) (by
   unfold jO;simp only [dec_f (show¬(p.length:Int)<(p.length:Int) by omega),cond_false,aF,l1'])
  refine (show _=_ from l2).trans ?_
  by_cases h: ∀i,i<p.length->Q7 p i
  · rw [if_pos h];congr 2;exact JY ⟨fun k=>⟨h,k⟩,fun k=>k.2⟩
  · rw [if_neg h,if_neg (fun k=>h k.1)]
 have l3:=qI (body:=oW) (fun i=>(p,(p.length:Int),(i:Int),p,w,QD p i)) p.length (QF p) (r:=8) (e:=if (∀i,i<p.length->Q7 p i)/\ ∀i,i<w.length->VG p w i then 0 else 8) (fun i hi=>by
  unfold oW;simp only [aK (show (i:Int)<(p.length:Int) by omega),cond_true,aE p i hi,aD,QE,aT (show i<1000000000 by omega)]
  by_cases a:QF p i
  · rw [dec_f (show¬(0<=p[i]!/\ ∃j,j<i/\p[j]! =p[i]!) from fun ⟨h0,j,hj,e⟩=>by have:=a j hj e;omega)]
    exact ⟨fun h=>absurd a h,fun _=>rfl⟩
  · rw [aK (show 0<=p[i]!/\ ∃j,j<i/\p[j]! =p[i]! from by
     unfold QF at a;obtain ⟨j,hj⟩:=Classical.not_forall.1 a;obtain ⟨hj,h⟩:=Classical.not_imp.1 hj;obtain ⟨h,h0⟩:=Classical.not_imp.1 h;exact ⟨by omega,j,hj,h⟩)]
    refine ⟨fun _=>?_,fun h=>absurd h a⟩
    rw [aK (show (0:Int)<=(i:Int) by omega)];rfl) (by
  unfold oW;simp only [dec_f (show¬(p.length:Int)<(p.length:Int) by omega),cond_false,aF,l2])
 refine (show _=_ from l3).trans ?_;rw [JY (aF1 (by omega) (by omega) h3)]
 congr 1
 exact aT0
theorem QG (p:List Int) (hl:p.length<=1000):EZ p=some (!decide (IA p)):=by
 have l2:=qI (body:=sN) (fun i=>(p,(i:Int))) p.length (QF p) (r:=true) (e:=false) (fun i hi=>by
  have l1:=qI (body:=sM) (fun j=>(p,(i:Int),(j:Int))) i (fun j=>p[j]! =p[i]!->p[i]!<0) (r:= .done true) (e:= .next (p,((i+1:Nat):Int))) (fun j hj=>by
   unfold sM;simp only [aK (show (j:Int)<(i:Int) by omega),cond_true,aE p i hi,aE p j (by omega),aD,aT (show j<1000000000 by omega)]
   by_cases a:0<=p[i]!
   · rw [aK a,cond_true]
     by_cases b:p[j]! =p[i]!
     · rw [eV b];exact ⟨fun _=>rfl,fun h=>by have:=h b;omega⟩
     · rw [eJ b];exact ⟨fun h=>absurd (fun k=>absurd k b) h,fun _=>rfl⟩
   · rw [dec_f a,cond_false]
     exact ⟨fun h=>absurd (fun _=>by omega) h,fun _=>rfl⟩) (by
   unfold sM;simp only [dec_f (show¬(i:Int)<(i:Int) by omega),cond_false,aT (show i<1000000000 by omega)])
  have l1:=(show _=_ from l1);unfold sN;simp only [aF,aK (show (i:Int)<(p.length:Int) by omega),cond_true]
  by_cases a:QF p i
  · rw [if_pos (show∀j,j<i->p[j]! =p[i]!->p[i]!<0 from a)] at l1
    exact ⟨fun h=>absurd a h,fun _=>l1⟩
  · rw [if_neg (show¬ ∀j,j<i->p[j]! =p[i]!->p[i]!<0 from a)] at l1
    exact ⟨fun _=>l1,fun h=>absurd h a⟩) (by
  unfold sN;simp only [aF,dec_f (show¬(p.length:Int)<(p.length:Int) by omega),cond_false])
 refine (show _=_ from l2).trans ?_
 by_cases h:IA p
 · rw [if_pos (J0.2 h),aK h];rfl
 · rw [if_neg (fun k=>h (J0.1 k)),dec_f h];rfl
theorem QH (p w:List Int) (hl:p.length<=1000) (wl:w.length<=1000):vZ ⟨p,w⟩=some (if Y8 p w then 0 else 8):=by
 unfold vZ;simp only [aF]
 by_cases h1:(p.length:Int)<1
 · rw [aK h1,cond_true,if_neg (fun h=>by have:=h.one;omega)]
 rw [dec_f h1,cond_false]
 by_cases h2:(64:Int)<(p.length:Int)
 · rw [aK h2,cond_true,if_neg (fun h=>by have:=h.most;omega)]
 rw [dec_f h2,cond_false,qA (by omega) (by omega)]
 by_cases h3:w.length+1=p.length
 case neg=>rw [cQ (by omega),cond_true,if_neg (fun h=>h3 h.len)]
 rw [bS (by omega),cond_false,QG p hl,aD]
 by_cases ho:IA p
 case neg=>rw [dec_f ho,if_neg (fun h=>ho h.once)];rfl
 rw [aK ho,Bool.not_true,cond_false];have l1:=qI (body:=oH) (fun i=>((i:Int),p,w)) w.length (aDG p w) (r:= .done 8) (e:= .done 0) (fun i hi=>by
  unfold oH aDG;have k1:=sW (i:=i) (by omega) 1 (by omega)
  have k2:=sW (i:=i) (by omega) 2 (by omega)
  simp only [aF,aK (show (i:Int)<(w.length:Int) by omega),cond_true,aE w i hi,aD,show aA .i64 (aA .i64 (2*(i:Int))+1)=((2*i+1:Nat):Int) from k1,show aA .i64 (aA .i64 (2*(i:Int))+2)=((2*i+2:Nat):Int) from k2,
   rI (p:=p) (w:=w) (i:=2*i+1) (by omega) (by omega),rI (p:=p) (w:=w) (i:=2*i+2) (by omega) (by omega),aT (show i<1000000000 by omega)]
  generalize bE p w (2*i+1)=x;generalize bE p w (2*i+2)=y;generalize w[i]! =v
  by_cases a1:v=x
  · rw [bS a1,cond_false]
    by_cases a3:v= -1
    · rw [eV a3,cond_true]
      by_cases a4:x= -1
      · rw [bS a4,cond_false]
        by_cases a5:y= -1
        · rw [bS a5,cond_false];exact ⟨fun h=>by omega,fun _=>rfl⟩
        · rw [cQ a5,cond_true];exact ⟨fun _=>rfl,fun h=>by omega⟩
      · rw [cQ a4,cond_true];exact ⟨fun _=>rfl,fun h=>by omega⟩
    · rw [eJ a3,cond_false];exact ⟨fun h=>by omega,fun _=>rfl⟩
  · rw [cQ a1,cond_true]
    by_cases a2:v=y
    · rw [bS a2,cond_false]
      by_cases a3:v= -1
      · rw [eV a3,cond_true]
        by_cases a4:x= -1
        · rw [bS a4,cond_false]
          by_cases a5:y= -1
          · rw [bS a5,cond_false];exact ⟨fun h=>by omega,fun _=>rfl⟩
          · rw [cQ a5,cond_true];exact ⟨fun _=>rfl,fun h=>by omega⟩
        · rw [cQ a4,cond_true];exact ⟨fun _=>rfl,fun h=>by omega⟩
      · rw [eJ a3,cond_false];exact ⟨fun h=>by omega,fun _=>rfl⟩
    · rw [cQ a2,cond_true]
      exact ⟨fun _=>rfl,fun h=>by omega⟩) (by
  unfold oH;simp only [aF,dec_f (show¬(w.length:Int)<(w.length:Int) by omega),cond_false])
 have l1':aH oH (0,p,w)=some (.done (if∀i,i<w.length->aDG p w i then 0 else 8)):=by
  refine (show _=_ from l1).trans ?_
  by_cases h: ∀i,i<w.length->aDG p w i
  · rw [if_pos h,if_pos h]
  · rw [if_neg h,if_neg h]
 have l2:=qI (body:=sO) (fun i=>((p.length:Int),(i:Int),p,w)) p.length (Q7 p) (r:=8) (e:=if∀i,i<w.length->aDG p w i then 0 else 8) (fun i hi=>by
  unfold sO Q7;simp only [aK (show (i:Int)<(p.length:Int) by omega),cond_true,aE p i hi,aD,aT (show i<1000000000 by omega)]
  generalize p[i]! =v
  by_cases a1:v< -1
  · rw [aK a1];exact ⟨fun _=>rfl,fun h=>by omega⟩
  · rw [dec_f a1,cond_false]
    by_cases a2:65535<v
    · rw [aK a2];exact ⟨fun _=>rfl,fun h=>by omega⟩
    · rw [dec_f a2];exact ⟨fun h=>by omega,fun _=>rfl⟩) (by
  unfold sO;simp only [dec_f (show¬(p.length:Int)<(p.length:Int) by omega),cond_false,l1'])
 refine (show _=_ from l2).trans ?_;rw [JY (aF1 (by omega) (by omega) h3)]
 congr 1
 by_cases hr: ∀i,i<p.length->Q7 p i
 · rw [if_pos hr]
   exact JY ⟨fun h=>⟨J0.2 ho,hr,(Y9 h3 (VH.1 hr)).2 h⟩,fun h=>(Y9 h3 (VH.1 hr)).1 h.2.2⟩
 · rw [if_neg hr,if_neg (fun h=>hr h.2.1)]
def hP (c:aQ) (r:Int) (N:List Nd) (to:Int×Int) (out:List (Int×Int)):=
 (c.now.1,c.now.2,c.field.points,c.certs.next_,c.certs.list,c.agenda.slots.uses,c.agenda.slots.used,c.agenda.slots.free,c.agenda.heap,c.agenda.where_,c.due,r,N,to.1,to.2,(0:Int),(0:Int),(0:Int),(0:Int),out)
noncomputable def A2 (p w:List Int) (k:Nat):List (Int×Int):=(List.range k).filterMap (G1 p w)
theorem MG (p w:List Int) (k:Nat):A2 p w (k+1)=A2 p w k++(match G1 p w k with|some e=>[e]|none=>[]):=by
 unfold A2;rw [List.range_succ,List.filterMap_append];cases h:G1 p w k<;>simp [h]
theorem QI (p w:List Int) (k:Nat):(A2 p w k).length<=k:=by
 have:=List.length_filterMap_le (G1 p w) (List.range k)
 rwa [List.length_range] at this
section
variable {p w : List Int} (hl : w.length + 1 = p.length) (h64 : p.length <= 64) (hc : DB p w)
include hl h64
theorem FE:vW ⟨p,w⟩=some (iU p w):=by
 have st:=bQ (body:=zT) (fun i=>((i:Int),p,w,A2 p w i)) w.length (fun i hi=>by
  have k1:=sW (i:=i) (by omega) 1 (by omega)
  have k2:=sW (i:=i) (by omega) 2 (by omega)
  have el:=QI p w i;rw [MG];unfold zT;simp only [aF,aK (show (i:Int)<(w.length:Int) by omega),cond_true,show aA .i64 (aA .i64 (2*(i:Int))+1)=((2*i+1:Nat):Int) from k1,show aA .i64 (aA .i64 (2*(i:Int))+2)=((2*i+2:Nat):Int) from k2,
   rI (p:=p) (w:=w) (i:=2*i+1) (by omega) (by omega),rI (p:=p) (w:=w) (i:=2*i+2) (by omega) (by omega),aD,aE w i hi,aT (show i<1000000000 by omega)]
  unfold G1;generalize bE p w (2*i+1)=x;generalize bE p w (2*i+2)=y;generalize w[i]! =v
  by_cases a1:x<0
  · rw [aK a1,cond_true,if_pos (.inl a1)];simp
  rw [dec_f a1,cond_false]
  by_cases a2:y<0
  · rw [aK a2,cond_true,if_pos (.inr a2)];simp
  rw [dec_f a2,cond_false,if_neg (by omega)]
  by_cases a3:v=x
  · rw [eV a3,cond_true,if_pos a3,eC (by rw [List.length_singleton];omega),aD]
  · rw [eJ a3,cond_false,if_neg a3,eC (by rw [List.length_singleton];omega),aD])
 unfold vW;refine (show _=_ from st).trans (aL ?_);unfold zT;simp only [aF,dec_f (show¬(w.length:Int)<(w.length:Int) by omega),cond_false]
 rfl
include hc
theorem ZA (hr: ∀x∈p,-1<=x/\x<=65535):aH nW (w,(w.length:Int),0,p,w,[])=some (⟨p,w⟩,iU p w):=by
 have st:=bQ (body:=nW) (fun i=>(w,(w.length:Int),(i:Int),p,w,A2 p w i)) w.length (fun i hi=>by
  have k1:=sW (i:=i) (by omega) 1 (by omega)
  have k2:=sW (i:=i) (by omega) 2 (by omega)
  have el:=QI p w i;have m1:=hr _ (jY hl hc (i:=2*i+1) (by omega))
  have m2:=hr _ (jY hl hc (i:=2*i+2) (by omega))
  have cv:=hc i hi;have fin: ∀(x y v:Int),(-1<=x/\x<=65535)->(-1<=y/\y<=65535)->(v=x\/v=y)->
   (bif decide (0<=x) then
    bif decide (0<=y) then (bT (A2 p w i) [(aA .i64 (aA .i64 (x+y) -v),v)]).bind fun l3=>some (bO.next (ρ:=bH×List (Int×Int)) (w,(w.length:Int),aA .i64 ((i:Int)+1),p,w,l3))
    else some (bO.next (w,(w.length:Int),aA .i64 ((i:Int)+1),p,w,A2 p w i))
   else some (bO.next (w,(w.length:Int),aA .i64 ((i:Int)+1),p,w,A2 p w i)))=
   some (bO.next (w,(w.length:Int),((i+1:Nat):Int),p,w,A2 p w i++(match (if x<0\/y<0 then none else if v=x then some (y,x) else some (x,y)) with|some e=>[e]|none=>[]))):=by
   intro x y v hx hy hv;rw [aT (show i<1000000000 by omega)]
   by_cases a1:x<0
   · rw [dec_f (by omega),cond_false,if_pos (.inl a1)];simp
   rw [aK (by omega),cond_true]
   by_cases a2:y<0
   · rw [dec_f (by omega),cond_false,if_pos (.inr a2)];simp
   rw [aK (by omega),cond_true,if_neg (by omega),eC (by rw [List.length_singleton];omega),aD,rD (n:=x+y) ⟨by omega,by omega⟩,rD ⟨by omega,by omega⟩]
   by_cases a3:v=x
   · rw [if_pos a3,a3,show x+y-x=y by omega]
   · rw [if_neg a3,show x+y-v=x by omega,show v=y by omega]
  rw [MG];unfold nW;have e1:bE p w (2*i+1)=if 2*i+1<w.length then w[2*i+1]! else p[2*i+1-w.length]!:=rfl
  have e2:bE p w (2*i+2)=if 2*i+2<w.length then w[2*i+2]! else p[2*i+2-w.length]!:=rfl
  have f1:=fin _ _ _ m1 m2 cv;simp only [aF,aK (show (i:Int)<(w.length:Int) by omega),cond_true,show aA .i64 (aA .i64 (2*(i:Int))+1)=((2*i+1:Nat):Int) from k1,show aA .i64 (aA .i64 (2*(i:Int))+2)=((2*i+2:Nat):Int) from k2,aE w i hi,aD,beq_self_eq_true]
  by_cases b1:2*i+1<w.length
  · rw [if_pos b1] at e1
    rw [aK (show ((2*i+1:Nat):Int)<(w.length:Int) by omega),cond_true,aE w _ b1,aD,<- e1]
    by_cases b2:2*i+2<w.length
    · rw [if_pos b2] at e2
      rw [aK (show ((2*i+2:Nat):Int)<(w.length:Int) by omega),cond_true,aE w _ b2,aD,<- e2]
      exact f1
    · rw [if_neg b2] at e2
      rw [dec_f (show¬((2*i+2:Nat):Int)<(w.length:Int) by omega),cond_false,rD ⟨by omega,by omega⟩,show ((2*i+2:Nat):Int) - (w.length:Int)=((2*i+2-w.length:Nat):Int) by omega,aE p _ (by omega),aD,<- e2]
      exact f1
  · rw [if_neg b1] at e1
    rw [if_neg (show¬2*i+2<w.length by omega)] at e2
    rw [dec_f (show¬((2*i+1:Nat):Int)<(w.length:Int) by omega),cond_false,rD (n:=((2*i+1:Nat):Int) - (w.length:Int)) ⟨by omega,by omega⟩,show ((2*i+1:Nat):Int) - (w.length:Int)=((2*i+1-w.length:Nat):Int) by omega,aE p _ (by omega),aD,<- e1,
     dec_f (show¬((2*i+2:Nat):Int)<(w.length:Int) by omega),cond_false,rD (n:=((2*i+2:Nat):Int) - (w.length:Int)) ⟨by omega,by omega⟩,show ((2*i+2:Nat):Int) - (w.length:Int)=((2*i+2-w.length:Nat):Int) by omega,aE p _ (by omega),aD,<- e2]
    exact f1)
 refine (show _=_ from st).trans (aL ?_);unfold nW;simp only [dec_f (show¬(w.length:Int)<(w.length:Int) by omega),cond_false]
 rfl
end
structure QJ (f:List Pt) (p:List Int):Prop where
 one:1<=p.length
 most:p.length<=64
 once:IA p
 ids: ∀x∈p,Q6 f x
theorem QJ.rng {f:List Pt} (fok:cJ f) {p:List Int} (h:QJ f p): ∀x∈p,-1<=x/\x<=65535:=fun x hx=>by
 rcases h.ids x hx with e|⟨e,hp⟩
 · omega
 · have:=(eD fok hp).1
   have e2:=(eD fok hp).2;unfold iG at this;omega
section
variable {f : List Pt} (fok : cJ f) {t : Int × Int} (r : cH t) (r64 : rE t) {p : List Int} (pl : QJ f p)
include fok r64 pl
theorem Q8:CT ⟨f⟩ t p=some ⟨p,cI f t p⟩:=by
 unfold CT;rw [QC fok r64 pl.one pl.most pl.ids];rfl
theorem yS:JX f (iU p (cI f t p))/\(iU p (cI f t p)).Nodup/\(iU p (cI f t p)).length<=63:=by
 have _:=r64;have R:=fJ (f:=f) (t:=t) pl.one;have m:=pl.most
 have:=R.1
 have el:=IB p (cI f t p);exact ⟨aDE fok R.1 pl.most R.chosen pl.once fun x hx h0=>(pl.ids x hx).has h0,VD R.1 R.chosen pl.once,by omega⟩
include r
theorem yT:nX ⟨f⟩ t p=some (⟨p,cI f t p⟩,iU p (cI f t p)):=by
 have R:=fJ (f:=f) (t:=t) pl.one;unfold nX;rw [LJ fok r r64 pl.one pl.most pl.ids pl.once,aD];exact ZA R.1 pl.most R.chosen (pl.rng fok)
end
def J1:dV:=⟨eE,⟨[],[]⟩⟩
structure aT1 (c:aQ) (f:List Pt) (p:List Int) (k:dV):Prop where
 ren:P2 c f (iU p (cI f c.now p)) k.clock
 places:k.bracket=⟨p,cI f c.now p⟩
theorem VI {c:aQ} (ok:bF c) {f:List Pt} (fok:cJ f) {p:List Int} (pl:QJ f p):
 ∃R:aQ×Int,qW c ⟨f⟩ (iU p (cI f c.now p))=some R/\nD c ⟨f⟩ (iU p (cI f c.now p))=some R/\(R.2=0/\P2 c f (iU p (cI f c.now p)) R.1\/R=(eE,18)):=by
 obtain ⟨eok,nd,el⟩:=yS fok ok.now64 (t:=c.now) pl;obtain ⟨R,r1,r2,r3⟩:=aNm ok fok eok;have ee:pD f (iU p (cI f c.now p))=0:=by
  unfold pD;rw [if_neg (Classical.not_not.2 eok.cv),if_neg (Classical.not_not.2 nd),if_neg (fun h=>h eok.kn)]
 have rn:=P6 ok fok (es:=iU p (cI f c.now p)) (by omega) (fun _=>r1)
 rw [if_pos ee] at rn;exact ⟨R,rn,r2,r3⟩
theorem IC {c:aQ} (ok:bF c) {f:List Pt} (fok:cJ f) {p:List Int} (pl:QJ f p):
 ∃R:dV×Int,lK c ⟨f⟩ p=some R/\nE c ⟨f⟩ p=some R/\(R.2=0/\aT1 c f p R.1\/R=(J1,18)):=by
 have h1:=yT fok ok.nowv ok.now64 pl;have g1:=Q8 fok (t:=c.now) ok.now64 pl;have B:=fJ (f:=f) (t:=c.now) pl.one;have eo:=FE B.1 pl.most;obtain ⟨R,r1,r2,r3⟩:=VI ok fok pl;rcases r3 with ⟨q0,qq⟩|he
 · refine ⟨(⟨R.1,⟨p,cI f c.now p⟩⟩,0),?_,?_,.inl ⟨rfl,qq,rfl⟩⟩
   · unfold lK
     simp only [h1,aD,r1,q0,show ((0:Int) !=0)=false from rfl,cond_false]
   · unfold nE
     simp only [g1,aD,eo,r2,q0,show ((0:Int) !=0)=false from rfl,cond_false]
 · refine ⟨(J1,18),?_,?_,.inr rfl⟩
   · unfold lK
     simp only [h1,aD,r1,he,show ((18:Int) !=0)=true from rfl,cond_true];rfl
   · unfold nE
     simp only [g1,aD,eo,r2,he,show ((18:Int) !=0)=true from rfl,cond_true];rfl
def yU:aV:=⟨List.replicate 200 0,List.replicate 200 false,(List.range 200).map fun j:Nat=>(199:Int) - (j:Int)⟩
def J2:aO:=⟨yU,[],List.replicate 200 (-1)⟩
def QK (f:Field) (t:Int×Int):aQ:=⟨t,f,⟨0,[]⟩,J2,[]⟩
theorem ZB:JF 200=some (yU,0):=
 (by kernel_rfl:JF 200=aH L2 (200,200,0,List.replicate 200 0,List.replicate 200 false,List.replicate 200 0)).trans (fI.2 ⟨300,by kernel_rfl⟩)
theorem aDH:bY [-1] 200=some (List.replicate 200 (-1)):=by
 unfold bY gG;have m:fS (aA .u64 (Int.ofNat ([-1]:List Int).length)) (aA .u64 200)=some (0,200):=by
  rw [show aA .u64 (Int.ofNat ([-1]:List Int).length)=1 from by kernel_rfl,show aA .u64 200=200 from by kernel_rfl,E1 ⟨by decide,by decide⟩ ⟨by decide,by decide⟩]
  rfl
 rw [m];exact (by kernel_rfl:_=aH cU (1,-1::List.replicate 199 0)).trans (fI.2 ⟨20,by kernel_rfl⟩)
theorem Q9:CL 200=some (J2,0):=by
 unfold CL;rw [ZB,aD,bS rfl,cond_false,aDH];rfl
theorem aA4:zP 200=some yU:=
 (by kernel_rfl:zP 200=aH EW (199,List.replicate 200 0,List.replicate 200 false,[])).trans (fI.2 ⟨300,by kernel_rfl⟩)
theorem aA5:zQ 200=some J2:=by
 unfold zQ;rw [aA4,aD];exact fI.2 ⟨300,by kernel_rfl⟩
theorem aA6 {f:Field} (hf:f.points.length<=64) (t:Int×Int):zR f t=some (QK f t):=by
 unfold zR oA;rw [bC (by omega),aD,aD,aA5]
 rfl
theorem VJ (f:Field) {t:Int×Int} (r64:rE t):FT f t=some (if kL f.points≠0 then (eE,kL f.points) else if cH t then (QK f t,0) else (eE,8)):=by
 unfold FT;rw [lU,aD]
 by_cases h:kL f.points=0
 · have fok:=kM.1 h
   have f1:=fok.1;rw [bS h,cond_false,fP r64,aD,if_neg (show¬kL f.points≠0 from fun k=>k h)]
   by_cases rt:cH t
   · rw [if_pos rt,if_pos rt,bS rfl,cond_false,Q9,aD,bC (show f.points.length<=1048576 by omega),aD]
     rfl
   · rw [if_neg rt,if_neg rt,cQ (by decide),cond_true]
 · rw [cQ h,cond_true,if_pos h]
theorem yV {α:Type} [Inhabited α] {n i:Nat} (a:α) (h:i<n):(List.replicate n a)[i]! =a:=by
 rw [getElem!_pos _ i (by rw [List.length_replicate];exact h),List.getElem_replicate]
theorem aNt {i:Nat} (hi:i<200):(i:Int)∈yU.free:=by
 refine List.mem_map.2 ⟨199-i,List.mem_range.2 (by omega),?_⟩
 show (199:Int) - ((199-i:Nat):Int)=(i:Int);omega
theorem pQ:yU.uses.length=200:=List.length_replicate ..
set_option maxRecDepth 100000 in
theorem aF2:yU.free.length=200:=by
 unfold yU;exact (List.length_map _).trans List.length_range
theorem aDI:fB yU where
 n1:=by rw [pQ];omega
 n2:=by rw [pQ];omega
 ul:=by rw [pQ];exact List.length_replicate ..
 fr:=fun x hx=>by
  obtain ⟨j,hj,rfl⟩:=List.mem_map.1 hx
  have:=List.mem_range.1 hj
  rw [pQ];omega
 fd:=by
  refine yQ List.nodup_range fun i hi j hj h=>?_
  have h:(199:Int) - (i:Int)=199- (j:Int):=h;omega
 uf:=fun i hi=>by
  rw [pQ] at hi;rw [show yU.used[i]! =false from yV false hi];constructor
  · intro h;cases h
  · intro h;exact absurd (aNt hi) h
 us:=fun i hi=>by
  rw [pQ] at hi;rw [show yU.uses[i]! =0 from yV 0 hi,show yU.used[i]! =false from yV false hi];exact ⟨by decide,by decide,fun h=>by cases h⟩
set_option maxRecDepth 100000 in
theorem aA7:fE J2 where
 so:=aDI
 wl:=(List.length_replicate (n:=200) (a:=(-1:Int))).trans pQ.symm
 hl:=((Nat.zero_add _).trans aF2).trans pQ.symm
 fwd:=fun i hi h=>by
  rw [show J2.slots.used[i]! =false from yV false (by rw [<- pQ];exact hi)] at h
  cases h
 un:=fun i hi _=>yV (-1) (by rw [<- pQ];exact hi)
 ev:=fun w hw=>absurd hw (Nat.not_lt_zero w)
 nd:=fun v w _ hw=>absurd hw (Nat.not_lt_zero w)
 ord:=fun k _ hk=>absurd hk (Nat.not_lt_zero k)
theorem aDJ {f:Field} (fok:cJ f.points) {t:Int×Int} (r:cH t) (r64:rE t):bF (QK f t) where
 nowv:=r
 now64:=r64
 fld:=fok
 crt:=(⟨by decide,by decide,by decide,fun i hi=>absurd hi (Nat.not_lt_zero i),fun i hi=>absurd hi (Nat.not_lt_zero i),fun i j _ hj=>absurd hj (Nat.not_lt_zero j),fun i j _ hj=>absurd hj (Nat.not_lt_zero j)⟩:fC ⟨0,[]⟩)
 agd:=aA7
 w200:=List.length_replicate ..
 hd:=rfl
 known:=fun i hi=>absurd hi (Nat.not_lt_zero i)
 fol:=rfl
def iF (p:List Int):List Int:=p.filter fun x=>decide (0<=x)
theorem pR {p:List Int} {j:Nat} (hj:j<p.length):iF (p.take (j+1))=iF (p.take j)++if 0<=p[j]! then [p[j]!] else []:=by
 unfold iF;rw [fQ hj,List.filter_append]
 by_cases h:0<=p[j]!
 · rw [if_pos h,List.filter_cons_of_pos (by simpa using h),List.filter_nil]
 · rw [if_neg h,List.filter_cons_of_neg (by simpa using h),List.filter_nil]
theorem aF3 (p:List Int) (j:Nat):(iF (p.take j)).length<=j:=by
 have:=List.length_filter_le (fun x:Int=>decide (0<=x)) (p.take j)
 rw [List.length_take] at this;unfold iF;omega
theorem J3 (p:List Int) (hl:p.length<=1000):F1 p=some (iF p):=by
 have st:=bQ (body:=xE) (fun i=>(p,(i:Int),iF (p.take i))) p.length (fun i hi=>by
  have el:=aF3 p i;rw [pR hi];unfold xE;simp only [aF,aK (show (i:Int)<(p.length:Int) by omega),cond_true,aE p i hi,aD,aT (show i<1000000000 by omega)]
  by_cases h:0<=p[i]!
  · rw [aK h,cond_true,if_pos h,eC (by rw [List.length_singleton];omega),aD]
  · rw [dec_f h,cond_false,if_neg h,List.append_nil])
 unfold F1;refine (show _=_ from st).trans (aL ?_);unfold xE;simp only [aF,dec_f (show¬(p.length:Int)<(p.length:Int) by omega),cond_false,List.take_length]
structure S6 (p:List Int) (i j:Nat) (L:List Int):Prop where
 len:L.length=p.length
 le:i<=j
 lt:j<=p.length
 got:L.take i=iF (p.take j)
 rest: ∀k,j<=k->k<p.length->L[k]! =p[k]!
theorem S6.cnt {p:List Int} {i j:Nat} {L:List Int} (h:S6 p i j L):i=(iF (p.take j)).length:=by
 have:=congrArg List.length h.got
 rw [List.length_take,h.len] at this
 have:=h.le;have:=h.lt
 omega
theorem aNu {p:List Int} {i:Nat} {L:List Int} (h:S6 p i p.length L): ∃M:List Int,aY p ((i:Int),(p.length:Int),L)=some (.done (.done (i,p.length,M)))/\M.length=p.length/\M.take i=iF p:=by
 have hl:=h.len;have hi:=h.le;have got:=h.got;rw [List.take_length] at got;unfold aY
 simp only [aF,hl,dec_f (show¬(p.length:Int)<(p.length:Int) by omega),cond_false,aK (show (0:Int)<=(i:Int) by omega),aK (show (i:Int)<=(p.length:Int) by omega),aK (show (p.length:Int)<=(p.length:Int) by omega),Bool.and_self,cond_true,Int.toNat_natCast,Nat.zero_add,Bool.not_false,Bool.and_true]
 by_cases h0:p.length-i=0
 · have n1:Nat.beq (p.length-i) 0=true:=by rw [h0];rfl
   rw [n1,cond_true,lV L i (by omega),aD,beq_self_eq_true,cond_true]
   exact ⟨L,rfl,hl,got⟩
 · have n1:Nat.beq (p.length-i) 0=false:=by
    cases hb:Nat.beq (p.length-i) 0 with
    |false=>rfl
    |true=>have:=Nat.eq_of_beq_eq_true hb;omega
   have n2:Nat.ble (i+(p.length-i)) p.length=true:=Nat.ble_eq_true_of_le (by omega)
   have ll:(jJ L i (List.replicate (p.length-i) (0:Int))).length=p.length:=by
    unfold jJ;simp;omega
   rw [n1,cond_false,n2,cond_true,lV _ i (by rw [ll];omega),aD,ll,beq_self_eq_true,cond_true]
   refine ⟨_,rfl,ll,?_⟩;rw [<- got];unfold jJ;rw [List.append_assoc,List.take_append_of_le_length (by rw [List.length_take];omega),List.take_take,Nat.min_self]
theorem aT2 {p:List Int} (hp:p.length<=1000): ∀(d i j:Nat) (L:List Int),p.length-j<=d->S6 p i j L->
 ∃(n:Nat) (M:List Int),aH (aY p) ((i:Int),(j:Int),L)=some (.done (n,p.length,M))/\n=(iF p).length/\M.length=p.length/\M.take n=iF p:=by
 have fin: ∀(i j:Nat) (L:List Int),p.length<=j->S6 p i j L-> ∃(n:Nat) (M:List Int),aH (aY p) ((i:Int),(j:Int),L)=some (.done (n,p.length,M))/\n=(iF p).length/\M.length=p.length/\M.take n=iF p:=by
  intro i j L hj h;obtain rfl:j=p.length:=by have:=h.lt;omega
  obtain ⟨M,m1,m2,m3⟩:=aNu h;exact ⟨i,M,aL m1,by rw [h.cnt,List.take_length],m2,m3⟩
 intro d
 induction d with
 |zero=>exact fun i j L hd h=>fin i j L (by omega) h
 |succ d ih=>
  intro i j L hd h
  by_cases hj:p.length<=j
  · exact fin i j L hj h
  have hl:=h.len;have hle:=h.le;have e:L[j]! =p[j]!:=h.rest j (Nat.le_refl _) (by omega)
  have st:aY p ((i:Int),(j:Int),L)=some (.next (((if 0<=p[j]! then i+1 else i:Nat):Int),((j+1:Nat):Int),if 0<=p[j]! then L.set i p[j]! else L)):=by
   unfold aY lN;simp only [aF,hl,aK (show (j:Int)<(p.length:Int) by omega),cond_true,aE L j (by omega),aD,e,aT (show i<1000000000 by omega),aT (show j<1000000000 by omega)]
   by_cases h0:0<=p[j]!
   · rw [dec_f (by omega),Bool.not_false,cond_true,aE L i (by omega),aD,if_pos h0,if_pos h0];rfl
   · rw [aK (by omega),Bool.not_true,cond_false,if_neg h0,if_neg h0]
  rw [bA st];refine ih _ _ _ (by omega) ?_
  by_cases h0:0<=p[j]!
  · rw [if_pos h0,if_pos h0]
    refine ⟨by rw [List.length_set];exact hl,by omega,by omega,?_,fun k hk hk2=>?_⟩
    · rw [pR (by omega),if_pos h0,<- h.got,fQ (by rw [List.length_set];omega),bB,if_pos ⟨rfl,by omega⟩,List.take_set_of_le (Nat.le_refl i)]
    · rw [bB,if_neg (by omega)];exact h.rest k (by omega) hk2
  · rw [if_neg h0,if_neg h0]
    refine ⟨hl,by omega,by omega,?_,fun k hk hk2=>h.rest k (by omega) hk2⟩
    rw [pR (by omega),if_neg h0,List.append_nil];exact h.got
theorem ZC: ∀{l:List Int},(∀x∈l,0<=x)->iF l=l:=fun {l} h=>List.filter_eq_self.2 fun x hx=>by simpa using h x hx
theorem RA (p:List Int) (hp:p.length<=1000): ∃(n:Nat) (M:List Int),cK p=some (n,p.length,M)/\n=(iF p).length/\M.length=p.length/\M.take n=iF p:=by
 have key: ∀(d m:Nat),p.length-m<=d->m<=p.length->(∀k,k<m->0<=p[k]!)-> ∃(n:Nat) (M:List Int),aH (aZ p) ((p.length:Int),(m:Int),p)=some (n,p.length,M)/\n=(iF p).length/\M.length=p.length/\M.take n=iF p:=by
  intro d;have fin: ∀m,m=p.length->(∀k,k<m->0<=p[k]!)-> ∃(n:Nat) (M:List Int),aH (aZ p) ((p.length:Int),(m:Int),p)=some (n,p.length,M)/\n=(iF p).length/\M.length=p.length/\M.take n=iF p:=by
   intro m hm h;subst hm;have e:iF p=p:=ZC fun x hx=>by
    obtain ⟨i,hi,rfl⟩:=aW.1 hx;exact h i hi
   refine ⟨p.length,p,aL ?_,by rw [e],rfl,by rw [List.take_length,e]⟩
   unfold aZ;simp only [dec_f (show¬(p.length:Int)<(p.length:Int) by omega),cond_false,beq_self_eq_true,cond_true]
  induction d with
  |zero=>exact fun m h1 h2 h=>fin m (by omega) h
  |succ d ih=>
   intro m h1 h2 h
   by_cases hm:m=p.length
   · exact fin m hm h
   by_cases h0:0<=p[m]!
   · have st:aZ p ((p.length:Int),(m:Int),p)=some (.next ((p.length:Int),((m+1:Nat):Int),p)):=by
      unfold aZ lN;simp only [aK (show (m:Int)<(p.length:Int) by omega),cond_true,aE p m (by omega),aD,dec_f (show¬p[m]!<0 by omega),cond_false,aT (show m<1000000000 by omega)]
     rw [bA st];refine ih (m+1) (by omega) (by omega) fun k hk=>?_
     by_cases e:k=m
     · rw [e];exact h0
     · exact h k (by omega)
   · have hd:S6 p m (m+1) p:=⟨rfl,by omega,by omega,by
      rw [pR (by omega),if_neg h0,List.append_nil,ZC fun x hx=>?_]
      obtain ⟨i,hi,_,rfl⟩:=cD.1 hx;exact h i hi,fun k _ _=>rfl⟩
     obtain ⟨n,M,m1,m2,m3,m4⟩:=aT2 hp p.length m (m+1) p (by omega) hd
     refine ⟨n,M,aL ?_,m2,m3,m4⟩;unfold aZ lN;simp only [aK (show (m:Int)<(p.length:Int) by omega),cond_true,aE p m (by omega),aD,aK (show p[m]!<0 by omega),beq_self_eq_true,eJ (show (m:Int)≠ -1 by omega),cond_false,aT (show m<1000000000 by omega),m1]
 unfold cK;exact key p.length 0 (by omega) (Nat.zero_le _) (fun k hk=>absurd hk (Nat.not_lt_zero k))
def aDK (n:Nat):Prop:= ∃i,i<7/\n=2^i
theorem ZD {n:Nat} (h1:1<=n) (h2:n<=64):HD .i64 (n:Int) ((n-1:Nat):Int)=0↔aDK n:=by
 have key: ∀k:Fin 65,1<=k.val->((HD .i64 (k.val:Int) ((k.val-1:Nat):Int)=0)↔ ∃i,i<7/\k.val=2^i):=by decide+kernel
 exact key ⟨n,by omega⟩ h1
theorem dbl {q:Nat} (h:q<=64):aA .i64 ((q:Int)*2)=((2*q:Nat):Int):=by rw [rD ⟨by omega,by omega⟩];omega
theorem VK (i:Nat):2^(i+1)=2*2^i:=by rw [Nat.pow_succ];omega
theorem QL {n:Nat}:zZ (n:Int)=some (decide (aDK n)):=by
 have st:=qI (body:=sP) (fun i=>((n:Int),((2^i:Nat):Int))) 7 (fun i=>n≠2^i) (r:=true) (e:=false) (fun i hi=>by
  have b1:2^i<=64:=Nat.le_trans (Nat.pow_le_pow_right (by omega) (show i<=6 by omega)) (by decide)
  unfold sP;simp only [aK (show ((2^i:Nat):Int)<=64 by omega),cond_true]
  by_cases h:n=2^i
  · rw [eV (by omega)];exact ⟨fun _=>rfl,fun k=>absurd h k⟩
  · rw [eJ (by omega),cond_false,dbl b1,VK]
    exact ⟨fun k=>absurd h k,fun _=>rfl⟩) (by
  unfold sP
  rfl)
 unfold zZ;refine (show _=_ from st).trans ?_
 by_cases h:aDK n
 · obtain ⟨i,hi,e⟩:=h
   rw [if_neg (fun k=>k i hi e),aK ⟨i,hi,e⟩]
 · rw [if_pos (fun i hi e=>h ⟨i,hi,e⟩),dec_f h]
theorem S7 (n:Nat) (h:n<=64): ∃e,e<=6/\n<=2^e/\ ∀k,k<e->2^k<n:=by
 have key: ∀m:Fin 65,∃e,e<=6/\m.val<=2^e/\ ∀k,k<e->2^k<m.val:=by decide+kernel
 exact key ⟨n,by omega⟩
noncomputable def lg (n:Nat):Nat:=if h: ∃e,e<=6/\n<=2^e/\ ∀k,k<e->2^k<n then h.choose else 0
theorem NA {n:Nat} (h:n<=64):lg n<=6/\n<=2^lg n/\ ∀k,k<lg n->2^k<n:=by
 unfold lg;rw [dif_pos (S7 n h)];exact (S7 n h).choose_spec
noncomputable def fH (f:List Pt):List Int:=pP f++List.replicate (2^lg f.length-f.length) (-1)
theorem fL (f:List Pt):(pP f).length=f.length:=List.length_map ..
theorem oN {f:List Pt} {i:Nat} (h:i<f.length):(pP f)[i]! =(f[i]!).1:=by
 unfold pP;rw [getElem!_pos _ i (by rw [List.length_map];exact h),getElem!_pos f i h,List.getElem_map]
section
variable {f : List Pt} (h64 : f.length <= 64)
include h64
theorem DF:(fH f).length=2^lg f.length:=by
 have:=NA h64
 unfold fH;rw [List.length_append,fL,List.length_replicate];omega
theorem aF4:1<=2^lg f.length/\2^lg f.length<=64:=
 ⟨Nat.pow_pos (by omega),Nat.le_trans (Nat.pow_le_pow_right (by omega) (NA h64).1) (by decide)⟩
theorem QM:vT ⟨f⟩=some (fH f):=by
 obtain ⟨g1,g2,g3⟩:=NA h64;obtain ⟨b1,b2⟩:=aF4 h64;have in1:=bQ (body:=sD) (fun i=>(((2^lg f.length:Nat):Int),(i:Int),f,(fH f).take i)) (2^lg f.length) (fun i hi=>by
  have fl:=DF h64;rw [fQ (show i<(fH f).length by omega)]
  unfold sD;simp only [aF,aK (show (i:Int)<((2^lg f.length:Nat):Int) by omega),cond_true,aT (show i<1000000000 by omega)]
  have tl:((fH f).take i).length=i:=by rw [List.length_take];omega
  by_cases h:i<f.length
  · rw [aK (by omega),cond_true,aE f i h,aD,eC (by rw [List.length_singleton];omega),aD]
    rw [show (fH f)[i]! =(f[i]!).1 from by unfold fH;rw [eA (by rw [fL];exact h),oN h]]
  · rw [dec_f (by omega),cond_false,eC (by rw [List.length_singleton];omega),aD]
    rw [show (fH f)[i]! = -1 from by unfold fH;rw [gQ (by rw [fL];omega),fL,yV _ (by omega)]])
 have out:=bQ (body:=sE) (fun i=>(((2^i:Nat):Int),f)) (lg f.length) (fun i hi=>by
  have:=g3 i hi
  unfold sE;simp only [aF,aK (show ((2^i:Nat):Int)<(f.length:Int) by omega),cond_true]
  rw [dbl (by omega),VK])
 unfold vT;refine (show _=_ from out).trans (aL ?_);unfold sE;simp only [aF,dec_f (show¬((2^lg f.length:Nat):Int)<(f.length:Int) by omega),cond_false]
 refine (show _=_ from in1).trans (aL ?_);unfold sD;simp only [dec_f (show¬((2^lg f.length:Nat):Int)<((2^lg f.length:Nat):Int) by omega),cond_false]
 rw [List.take_of_length_le (by rw [DF h64];omega)]
end
theorem aA8:EY=E0:=rfl
structure ID (k:dV):Prop where
 clk:bF k.clock
 br:Y8 k.bracket.places k.bracket.wins
 pow:aDK k.bracket.places.length
 perm:(pP k.clock.field.points).Perm (iF k.bracket.places)
 right:k.bracket.wins=cI k.clock.field.points k.clock.now k.bracket.places
 cert:(k.clock.certs.list.map fun x=>x.2).Perm (iU k.bracket.places k.bracket.wins)
theorem BV {p:List Int} {x:Int}:x∈iF p↔x∈p/\0<=x:=by unfold iF;rw [List.mem_filter];simp
theorem DG {f:List Pt} {p w:List Int} (br:Y8 p w) (pm:(pP f).Perm (iF p)):QJ f p:=by
 refine ⟨br.one,br.most,br.once,fun x hx=>?_⟩
 have:=br.rng x hx
 by_cases h:0<=x
 · exact .inr ⟨h,DA.1 (pm.mem_iff.2 (BV.2 ⟨hx,h⟩))⟩
 · exact .inl (by omega)
theorem aA9 {p:List Int} (h:IA p):(iF p).Nodup:=by
 have go: ∀(j:Nat),j<=p.length->(iF (p.take j)).Nodup:=by
  intro j
  induction j with
  |zero=>intro _;simp [iF]
  |succ j ih=>
   intro hj;rw [pR (by omega)]
   by_cases h0:0<=p[j]!
   · rw [if_pos h0]
     refine List.nodup_append.2 ⟨ih (by omega),by simp,fun a ha b hb e=>?_⟩
     obtain rfl:b=p[j]!:=by simpa using hb
     subst e;have hm:=(BV.1 ha).1;obtain ⟨i,hi,_,e⟩:=cD.1 hm
     have:=h i j hi (by omega) e
     omega
   · rw [if_neg h0,List.append_nil];exact ih (by omega)
 have:=go p.length (Nat.le_refl _)
 rwa [List.take_length] at this
theorem aBa {f:List Pt} (h:gW f):(pP f).Pairwise (· <= ·):=by
 refine List.pairwise_iff_getElem.2 fun i j hi hj hij=>?_
 rw [fL] at hi hj
 have:=pB h hij hj
 rw [<- getElem!_pos (pP f) i (by rw [fL];exact hi),<- getElem!_pos (pP f) j (by rw [fL];exact hj),oN hi,oN hj]
 omega
theorem ZE {f:List Pt} (h:gW f) (l:List Int):nQ l=pP f↔(pP f).Perm l:=by
 constructor
 · intro e;rw [<- e];exact xV l
 · intro pm
   exact List.Perm.eq_of_pairwise (le:=(· <= ·)) (fun a b _ _ h1 h2=>Int.le_antisymm h1 h2) (CK l) (aBa h) ((xV l).trans pm.symm)
theorem RC (l:List Int) (f:List Pt) (hl:l.length<=1000):cR l f ()=some (decide (l=pP f)):=by
 unfold cR;simp only [aF]
 by_cases h:l.length=f.length
 case neg=>rw [cQ (by omega),cond_true,dec_f (fun e=>h (by rw [e,fL]))]
 rw [bS (by omega),cond_false]
 have key:=qI (body:=cE) (fun i=>(f,l,(l.length:Int),(i:Int))) l.length (fun i=>l[i]! =(f[i]!).1) (r:=false) (e:=true) (fun i hi=>by
  unfold cE yH;simp only [aK (show (i:Int)<(l.length:Int) by omega),cond_true,aE l i hi,aE f i (by omega),aD,aT (show i<1000000000 by omega)]
  by_cases q:l[i]! =(f[i]!).1
  · rw [eV q];exact ⟨fun w=>absurd q w,fun _=>rfl⟩
  · rw [eJ q];exact ⟨fun _=>rfl,fun w=>absurd w q⟩) (by
  unfold cE;simp only [dec_f (show¬(l.length:Int)<(l.length:Int) by omega),cond_false])
 refine (show _=_ from key).trans ?_
 by_cases q:l=pP f
 · rw [if_pos (fun i hi=>by rw [q,oN (by omega)]),aK q]
 · rw [if_neg (fun w=>q (wC (by rw [fL];exact h) fun i hi=>by rw [w i hi,oN (by omega)])),dec_f q]
theorem VL (a b:List Int) (ha:a.length<=1000):oX a b=some (decide (a=b)):=by
 unfold oX;simp only [aF]
 by_cases h:a.length=b.length
 case neg=>rw [cQ (by omega),cond_true,dec_f (fun e=>h (by rw [e]))]
 rw [bS (by omega),cond_false]
 have key:=qI (body:=lB) (fun i=>(a,b,(a.length:Int),(i:Int))) a.length (fun i=>a[i]! =b[i]!) (r:=false) (e:=true) (fun i hi=>by
  unfold lB;simp only [aK (show (i:Int)<(a.length:Int) by omega),cond_true,aE a i hi,aE b i (by omega),aD,aT (show i<1000000000 by omega)]
  by_cases q:a[i]! =b[i]!
  · rw [bS q];exact ⟨fun w=>absurd q w,fun _=>rfl⟩
  · rw [cQ q];exact ⟨fun _=>rfl,fun w=>absurd w q⟩) (by
  unfold lB;simp only [dec_f (show¬(a.length:Int)<(a.length:Int) by omega),cond_false])
 refine (show _=_ from key).trans ?_
 by_cases q:a=b
 · rw [if_pos (fun i _=>by rw [q]),aK q]
 · rw [if_neg (fun w=>q (wC h w)),dec_f q]
theorem ZF {n:Nat} {M:List Int} (hn:n<=M.length) (hm:M.length<=1000):FK TR n M=some (nQ (M.take n)++M.drop n):=by
 unfold FK LU TR;rw [if_pos hn,if_pos (by rw [List.length_take];omega)]
 simp only [xI,if_true,Option.map_some]
theorem S8 {c:aQ} (ok:bF c) {es:List (Int×Int)} (_nd:es.Nodup):(es.length=c.certs.list.length/\ ∀i,i<c.certs.list.length->(c.certs.list[i]!).2∈es)↔(c.certs.list.map fun x=>x.2).Perm es:=by
 have cl:(c.certs.list.map fun x=>x.2).length=c.certs.list.length:=List.length_map ..
 constructor
 · rintro ⟨h1,h2⟩
   exact yP (ME ok.crt) (fun x hx=>by
    obtain ⟨i,hi,rfl⟩:=FA.2 hx;exact h2 i hi) (by omega)
 · intro h
   exact ⟨by rw [<- h.length_eq,cl],fun i hi=>h.mem_iff.1 (FA.1 ⟨i,hi,rfl⟩)⟩
theorem MQ {k:dV} (fit:wD k.clock) (hl:k.bracket.places.length<=1000) (wl:k.bracket.wins.length<=1000):jG k=some (if ID k then 0 else 8):=by
 unfold jG;rw [oM fit,aD]
 by_cases ok:bF k.clock
 case neg=>rw [if_neg ok,if_neg (fun h=>ok h.clk)];rfl
 rw [if_pos ok,bS rfl,cond_false,show kS k.bracket=_ from BU k.bracket.places k.bracket.wins hl wl,aD]
 by_cases br:Y8 k.bracket.places k.bracket.wins
 case neg=>rw [if_neg br,if_neg (fun h=>br h.br)];rfl
 have b1:=br.one;have b2:=br.most;rw [if_pos br,bS rfl,cond_false,aF,qA (by omega) b1]
 by_cases pw:aDK k.bracket.places.length
 case neg=>rw [cQ (fun h=>pw ((ZD b1 b2).1 h)),cond_true,if_neg (fun h=>pw h.pow)]
 rw [bS ((ZD b1 b2).2 pw),cond_false,bC (by omega),aD]
 obtain ⟨n,M,e1,e2,e3,e4⟩:=RA k.bracket.places hl;have nl:n<=M.length:=by
  have:=List.length_filter_le (fun x:Int=>decide (0<=x)) k.bracket.places
  rw [e2,e3];exact this
 have tk:(nQ (M.take n)++M.drop n).take n=nQ (iF k.bracket.places):=by
  rw [List.take_append_of_le_length (by rw [xI,List.length_take];omega),List.take_of_length_le (by rw [xI,List.length_take];omega),e4]
 have ll:(nQ (M.take n)++M.drop n).length=M.length:=by rw [List.length_append,xI,List.length_take,List.length_drop];omega
 have fe:k.clock.field=⟨k.clock.field.points⟩:=rfl;rw [e1,aD];dsimp only;rw [ZF nl (by omega),aD,ll,beq_self_eq_true,cond_true,tk,RC _ _ (by rw [xI];omega),aD]
 by_cases pm:(pP k.clock.field.points).Perm (iF k.bracket.places)
 case neg=>rw [dec_f (fun h=>pm ((ZE ok.fld.2.2 _).1 h)),if_neg (fun h=>pm h.perm)];rfl
 have pl:=DG br pm;rw [aK ((ZE ok.fld.2.2 _).2 pm),Bool.not_true,cond_false,fe,yT ok.fld ok.nowv ok.now64 pl,aD];dsimp only;obtain ⟨_,nd,el⟩:=yS ok.fld ok.now64 (t:=k.clock.now) pl;have R:=fJ (f:=k.clock.field.points) (t:=k.clock.now) pl.one;rw [VL _ _ (by have:=R.1;omega),aD]
 by_cases hw:cI k.clock.field.points k.clock.now k.bracket.places=k.bracket.wins
 case neg=>rw [dec_f hw,if_neg (fun h=>hw h.right.symm)];rfl
 rw [aK hw,Bool.not_true,cond_false,aA8,aNs _ _ (by omega) (by have:=ok.bd;omega),aD]
 by_cases hc:(k.clock.certs.list.map fun x=>x.2).Perm (iU k.bracket.places (cI k.clock.field.points k.clock.now k.bracket.places))
 · rw [aK ((S8 ok nd).2 hc),if_pos ⟨ok,br,pw,pm,hw.symm,by rw [<- hw];exact hc⟩];rfl
 · rw [dec_f (fun h=>hc ((S8 ok nd).1 h)),if_neg (fun h=>hc (by rw [hw];exact h.cert))];rfl
theorem QN {f:List Pt} (fok:cJ f) (p:List Int) (hp:p.length<=1000):AA ⟨f⟩ p=some (decide (∀i,i<p.length->p[i]! = -1\/oK f p[i]!)):=by
 have st:=qI (body:=sQ) (fun i=>(p,(i:Int),f)) p.length (fun i=>p[i]! = -1\/oK f p[i]!) (r:=false) (e:=true) (fun i hi=>by
  unfold sQ;simp only [aF,aK (show (i:Int)<(p.length:Int) by omega),cond_true,aE p i hi,aD,aT (show i<1000000000 by omega)]
  by_cases h:p[i]! = -1
  · rw [bS h];exact ⟨fun k=>absurd (.inl h) k,fun _=>rfl⟩
  · rw [cQ h,cond_true]
    by_cases h2:oK f p[i]!
    · obtain ⟨m,_,e,_⟩:=C8 fok h2
      rw [e,aD,dec_f (by omega)];exact ⟨fun k=>absurd (.inr h2) k,fun _=>rfl⟩
    · rw [aAX fok h2,aD]
      exact ⟨fun _=>rfl,fun k=>by rcases k with k|k;exact absurd k h;exact absurd k h2⟩) (by
  unfold sQ;simp only [aF,dec_f (show¬(p.length:Int)<(p.length:Int) by omega),cond_false])
 unfold AA;refine (show _=_ from st).trans ?_
 by_cases h: ∀i,i<p.length->p[i]! = -1\/oK f p[i]!
 · rw [if_pos h,aK h]
 · rw [if_neg h,dec_f h]
theorem RD {f:List Pt} (fok:cJ f) {t:Int×Int} (r64:rE t) {p w:List Int} (br:Y8 p w) (pl:QJ f p):yK ⟨p,w⟩ ⟨f⟩ t=some (decide (w=cI f t p)):=by
 have b2:=br.most;have b3:=br.len;have st:=qI (body:=uV) (fun i=>((i:Int),p,w,f,t)) w.length (fun i=>w[i]! =FB f t (bE p w (2*i+1)) (bE p w (2*i+2))) (r:=false) (e:=true) (fun i hi=>by
  have k1:=sW (i:=i) (by omega) 1 (by omega)
  have k2:=sW (i:=i) (by omega) 2 (by omega)
  unfold uV;simp only [aF,aK (show (i:Int)<(w.length:Int) by omega),cond_true,show aA .i64 (aA .i64 (2*(i:Int))+1)=((2*i+1:Nat):Int) from k1,show aA .i64 (aA .i64 (2*(i:Int))+2)=((2*i+2:Nat):Int) from k2,
   rI (p:=p) (w:=w) (i:=2*i+1) (by omega) (by omega),rI (p:=p) (w:=w) (i:=2*i+2) (by omega) (by omega),aD,aE w i hi,aT (show i<1000000000 by omega),
   JZ fok r64 (pl.ids _ (jY b3 br.cho (i:=2*i+1) (by omega))) (pl.ids _ (jY b3 br.cho (i:=2*i+2) (by omega)))]
  by_cases h:w[i]! =FB f t (bE p w (2*i+1)) (bE p w (2*i+2))
  · rw [bS h];exact ⟨fun k=>absurd h k,fun _=>rfl⟩
  · rw [cQ h];exact ⟨fun _=>rfl,fun k=>absurd k h⟩) (by
  unfold uV;simp only [aF,dec_f (show¬(w.length:Int)<(w.length:Int) by omega),cond_false])
 unfold yK;refine (show _=_ from st).trans ?_;have R:=fJ (f:=f) (t:=t) pl.one
 by_cases h:w=cI f t p
 · rw [if_pos (by rw [h];exact R.2),aK h]
 · rw [if_neg (fun k=>h (aDD ⟨b3,k⟩ R)),dec_f h]
theorem ZG {f:List Pt} (fok:cJ f) {t:Int×Int} {p:List Int} (pl:QJ f p) {e:Int×Int} (he:e∈iU p (cI f t p)):fT (gU f e.2) (gU f e.1) t:=by
 have R:=fJ (f:=f) (t:=t) pl.one;have R1:=R.1;obtain ⟨i,hi,h⟩:=P5.1 he;obtain ⟨a1,a2,a3⟩:=DD h;have ne:=M8 R.1 R.chosen pl.once hi a1;have hx:=(pl.ids _ (jY R.1 R.chosen (i:=2*i+1) (by omega))).has a1
 have hy:=(pl.ids _ (jY R.1 R.chosen (i:=2*i+2) (by omega))).has a2
 have wv:=R.2 i hi;unfold FB at wv;rw [if_neg (by omega),if_neg (by omega)] at wv
 by_cases ld:fT (gU f (bE p (cI f t p) (2*i+1))) (gU f (bE p (cI f t p) (2*i+2))) t
 · rw [if_pos ld] at wv
   rcases a3 with ⟨rfl,_⟩|⟨_,h⟩
   · exact ld
   · exact absurd wv h
 · rw [if_neg ld] at wv
   rcases a3 with ⟨_,h⟩|⟨rfl,_⟩
   · rw [wv] at h;exact absurd h.symm ne
   · exact AF t (by rw [(eD fok hx).2,(eD fok hy).2];exact ne) ld
theorem QO {k:dV} (fit:wD k.clock) (hl:k.bracket.places.length<=1000) (wl:k.bracket.wins.length<=1000):iD k=some (if ID k then 0 else 8):=by
 unfold iD;rw [P0 fit,aD]
 by_cases ok:bF k.clock
 case neg=>rw [if_neg ok,if_neg (fun h=>ok h.clk)];rfl
 rw [if_pos ok,bS rfl,cond_false,show vZ k.bracket=_ from QH k.bracket.places k.bracket.wins hl wl,aD]
 by_cases br:Y8 k.bracket.places k.bracket.wins
 case neg=>rw [if_neg br,if_neg (fun h=>br h.br)];rfl
 have b1:=br.one;have b2:=br.most;rw [if_pos br,bS rfl,cond_false,aF,QL,aD]
 by_cases pw:aDK k.bracket.places.length
 case neg=>rw [dec_f pw,if_neg (fun h=>pw h.pow)];rfl
 have fe:k.clock.field=⟨k.clock.field.points⟩:=rfl;rw [aK pw,Bool.not_true,cond_false,fe,QN ok.fld _ hl,aD]
 by_cases pm:(pP k.clock.field.points).Perm (iF k.bracket.places)
 case neg=>
  by_cases kn: ∀i,i<k.bracket.places.length->k.bracket.places[i]! = -1\/oK k.clock.field.points k.bracket.places[i]!
  case neg=>rw [dec_f kn,if_neg (fun h=>pm h.perm)];rfl
  rw [aK kn,Bool.not_true,cond_false,J3 _ hl,aD,aF,aF,if_neg (fun h=>pm h.perm)]
  rw [cQ (fun h=>pm ?_)]
  · rfl
  have h:((iF k.bracket.places).length:Int)=(k.clock.field.points.length:Int):=h;refine (yP (aA9 br.once) (fun x hx=>?_) (by rw [fL];omega)).symm
  obtain ⟨h1,h2⟩:=BV.1 hx;obtain ⟨i,hi,rfl⟩:=aW.1 h1;rcases kn i hi with e|e
  · omega
  · exact DA.2 e
 have pl:=DG br pm;have kn: ∀i,i<k.bracket.places.length->k.bracket.places[i]! = -1\/oK k.clock.field.points k.bracket.places[i]!:=fun i hi=>by
  rcases pl.ids _ (bJ hi) with e|e
  · exact .inl e
  · exact .inr e.2
 rw [aK kn,Bool.not_true,cond_false,J3 _ hl,aD,aF,aF,bS (by rw [<- pm.length_eq,fL]),cond_false,show yK k.bracket ⟨k.clock.field.points⟩ k.clock.now=_ from RD ok.fld ok.now64 br pl,aD]
 by_cases hw:k.bracket.wins=cI k.clock.field.points k.clock.now k.bracket.places
 case neg=>rw [dec_f hw,if_neg (fun h=>hw h.right)];rfl
 obtain ⟨eok,nd,el⟩:=yS ok.fld ok.now64 (t:=k.clock.now) pl;rw [aK hw,Bool.not_true,cond_false,show vW k.bracket=_ from FE br.len b2,aD];rw [hw];rw [aNp ok _ eok.kn,aD]
 by_cases hc:(k.clock.certs.list.map fun x=>x.2).Perm (iU k.bracket.places (cI k.clock.field.points k.clock.now k.bracket.places))
 · rw [aK (show _/\_ from ⟨by rw [<- hc.length_eq,List.length_map],fun i hi=>⟨FA.2 (hc.mem_iff.2 (bJ hi)),ZG ok.fld pl (bJ hi)⟩⟩),if_pos ⟨ok,br,pw,pm,hw,by rw [hw];exact hc⟩];rfl
 · rw [dec_f (fun h=>hc ?_),if_neg (fun h=>hc (by have:=h.cert;rw [hw] at this;exact this))]
   · rfl
   have cl:(k.clock.certs.list.map fun x=>x.2).length=k.clock.certs.list.length:=List.length_map ..
   refine (yP nd (fun x hx=>?_) (by omega)).symm
   obtain ⟨i,hi,rfl⟩:=aW.1 hx;exact FA.1 (h.2 i hi).1
noncomputable def rkN (f:List Pt) (t:Int×Int) (k:Nat):Nat->Nat
 |0=>0
 |j+1=>rkN f t k j+(if j≠k/\ahP f t j k then 1 else 0)
theorem aBb (f:List Pt) (t:Int×Int) (k:Nat): ∀j,rkN f t k j<=j/\(k<j->rkN f t k j+1<=j)
 |0=>⟨Nat.le_refl _,fun h=>by omega⟩
 |j+1=>by
  obtain ⟨h1,h2⟩:=aBb f t k j;rw [rkN]
  by_cases c:j≠k/\ahP f t j k
  · rw [if_pos c]
    exact ⟨by omega,fun h=>by have:=h2 (by omega);omega⟩
  · rw [if_neg c]
    exact ⟨by omega,fun h=>by omega⟩
theorem VM {f:List Pt} (h:gW f) {t:Int×Int} {i:Nat} (tp:G2 (ahP f t) 0 f.length i): ∀j,j<=f.length->rkN f t i j=0
 |0,_=>rfl
 |j+1,hj=>by
  have hi:=tp.hi;rw [rkN,VM h tp j (by omega),if_neg (fun w=>(aCy h t).asy j i (by omega) hi w.2 (tp.top j (Nat.zero_le _) (by omega) w.1))]
theorem S9 {f:List Pt} {t:Int×Int} {i k:Nat} (tp:G2 (ahP f t) 0 f.length i) (hk:k<f.length) (hne:k≠i): ∀j,i<j->1<=rkN f t k j
 |0,h=>by omega
 |j+1,h=>by
  rw [rkN]
  by_cases q:i=j
  · rw [if_pos ⟨by omega,by rw [<- q];exact tp.top k (Nat.zero_le _) hk hne⟩];omega
  · have:=S9 tp hk hne j (by omega);omega
theorem aDL {f:List Pt} (fok:cJ f) {t:Int×Int} (r64:rE t) {k:Nat} (hk:k<f.length):xF ⟨f⟩ f[k]! t=some (rkN f t k f.length:Int):=by
 have f1:=fok.1;have key:=bQ (body:=mW) (fun j=>((rkN f t k j:Int),(j:Int),f,(f[k]!).1,(f[k]!).2.1,(f[k]!).2.2,t)) f.length (fun j hj=>by
  have g:=aE f j hj;have le:=(aBb f t k j).1;have ld:=JM (fok.2.1 _ (bJ hj)) (fok.2.1 _ (bJ hk)) r64;have peta:((f[k]!).1,(f[k]!).2.1,(f[k]!).2.2)=f[k]!:=rfl;unfold mW;rw [rkN]
  by_cases q:j=k
  · subst q
    simp only [aF,aK (show (j:Int)<(f.length:Int) by omega),cond_true,g,aD,bS rfl,cond_false,aT (show j<1000000000 by omega),if_neg (show¬(j≠j/\ahP f t j j) from fun w=>w.1 rfl),Nat.add_zero]
  · have ne:(f[j]!).1≠(f[k]!).1:=fun h=>q (tZ fok.2.2 hj hk h)
    by_cases c:ahP f t j k
    · rw [show decide (fT f[j]! f[k]! t)=true from aK c] at ld
      simp only [aF,aK (show (j:Int)<(f.length:Int) by omega),cond_true,g,aD,cQ ne,peta,ld,aT (show j<1000000000 by omega),aT (show rkN f t k j<1000000000 by omega),if_pos (show j≠k/\ahP f t j k from ⟨q,c⟩)]
    · rw [show decide (fT f[j]! f[k]! t)=false from dec_f c] at ld
      simp only [aF,aK (show (j:Int)<(f.length:Int) by omega),cond_true,g,aD,cQ ne,peta,ld,cond_false,aT (show j<1000000000 by omega),if_neg (show¬(j≠k/\ahP f t j k) from fun w=>c w.2),Nat.add_zero])
 unfold xF;rw [show aH mW (0,0,f,(f[k]!).1,(f[k]!).2.1,(f[k]!).2.2,t)=_ from key];refine aL ?_;unfold mW;simp only [aF,dec_f (show¬(f.length:Int)<(f.length:Int) by omega),cond_false]
noncomputable def VN (f:List Pt) (t:Int×Int):Nat->List Int
 |0=>List.replicate f.length 0
 |i+1=>(VN f t i).set (rkN f t i f.length) (f[i]!).1
theorem J4 (f:List Pt) (t:Int×Int): ∀i,(VN f t i).length=f.length
 |0=>List.length_replicate ..
 |i+1=>by rw [VN,List.length_set,J4 f t i]
theorem QP {f:List Pt} (h:gW f) {t:Int×Int} {i:Nat} (tp:G2 (ahP f t) 0 f.length i): ∀j,j<=f.length->i<j->(VN f t j)[0]! =(f[i]!).1
 |0,_,hi=>by omega
 |j+1,hj,hi=>by
  have hn:=tp.hi;rw [VN,bB]
  by_cases q:j=i
  · subst q
    rw [if_pos ⟨by rw [VM h tp _ (Nat.le_refl _)],by rw [VM h tp _ (Nat.le_refl _),J4];omega⟩]
  · have:=S9 tp (show j<f.length by omega) q f.length hn
    rw [if_neg (fun w=>by omega)]
    exact QP h tp j (by omega) (by omega)
theorem aBc {f:List Pt} (fok:cJ f) {t:Int×Int} (r64:rE t):pL ⟨f⟩ t=some (VN f t f.length):=by
 have f1:=fok.1;have mk:tB (f.length:Int) (0:Int)=some (List.replicate f.length 0):=by
  unfold tB;rw [if_pos ⟨by omega,by omega⟩,Int.toNat_natCast]
 have key:=bQ (body:=lR) (fun i=>((i:Int),f,t.1,t.2,VN f t i)) f.length (fun i hi=>by
  have g:=aE f i hi;have le:=(aBb f t i f.length).2 hi;have go:=aE (VN f t i) (rkN f t i f.length) (by rw [J4];omega)
  unfold lR;simp only [aF,aK (show (i:Int)<(f.length:Int) by omega),cond_true,g,aD,show ((t.1,t.2):Int×Int)=t from rfl,aDL fok r64 hi,go,wB,aT (show i<1000000000 by omega)]
  rfl)
 unfold pL;simp only [aF,beq_self_eq_true,cond_true,mk,aD];rw [show aH lR (0,f,t.1,t.2,List.replicate f.length 0)=_ from key];refine aL ?_;unfold lR;simp only [aF,dec_f (show¬(f.length:Int)<(f.length:Int) by omega),cond_false]
theorem aBd (j:Nat):jB 0 j:=by
 have key: ∀(n m:Nat),m<=n->1<=m-> ∃d,m / 2^d=1:=by
  intro n
  induction n with
  |zero=>intro m h1 h2;omega
  |succ n ih=>
   intro m h1 h2
   by_cases h:m=1
   · exact ⟨0,by rw [h]⟩
   obtain ⟨d,hd⟩:=ih (m / 2) (by omega) (by omega)
   refine ⟨d+1,?_⟩;rw [Nat.pow_succ,Nat.mul_comm,<- Nat.div_div_eq_div_mul];exact hd
 obtain ⟨d,hd⟩:=key (j+1) (j+1) (Nat.le_refl _) (by omega)
 exact ⟨d,by omega⟩
theorem ZH {i j:Nat} (h:jB i j) (hne:j≠i):jB (2*i+1) j\/jB (2*i+2) j:=by
 obtain ⟨d,hd⟩:=h;cases d with
 |zero=>rw [Nat.pow_zero,Nat.div_one] at hd;omega
 |succ d=>
  rw [Nat.pow_succ,<- Nat.div_div_eq_div_mul] at hd
  by_cases e:(j+1) / 2^d=2*(i+1)
  · exact .inl ⟨d,by omega⟩
  · exact .inr ⟨d,by omega⟩
theorem aF5 {i j:Nat} (h:jB i j) (hne:j≠i):2*i+1<=j:=by
 obtain ⟨d,hd⟩:=h;cases d with
 |zero=>rw [Nat.pow_zero,Nat.div_one] at hd;omega
 |succ d=>
  rw [Nat.pow_succ,Nat.mul_comm,<- Nat.div_div_eq_div_mul] at hd
  have:=Nat.div_le_self ((j+1) / 2) (2^d)
  omega
section
variable {f : List Pt} (fok : cJ f) {t : Int × Int} {p w : List Int} (pl : QJ f p) (R : P4 f t p w)
include fok pl R
theorem QQ {i:Nat} (hi:i<w.length+p.length):Q6 f (bE p w i):=by
 have _:=fok;exact pl.ids _ (jY R.1 R.chosen hi)
theorem aF6: ∀(d i:Nat),w.length+p.length-i<=d->i<w.length+p.length-> ∀j,w.length<=j->j<w.length+p.length->jB i j->0<=p[j-w.length]!->
 0<=bE p w i/\(bE p w i=p[j-w.length]!\/fT (gU f (bE p w i)) (gU f p[j-w.length]!) t):=by
 have hl:=R.1;intro d
 induction d with
 |zero=>intro i h1 h2;omega
 |succ d ih=>
  intro i h1 h2 j j1 j2 hu h0
  by_cases hi:i<w.length
  · have hne:j≠i:=by omega
    have wv:bE p w i=FB f t (bE p w (2*i+1)) (bE p w (2*i+2)):=by
     rw [<- R.2 i hi];unfold bE;rw [if_pos hi]
    have ix:=QQ fok pl R (i:=2*i+1) (by omega)
    have iy:=QQ fok pl R (i:=2*i+2) (by omega)
    have kn:=M8 hl R.chosen pl.once hi;rw [wv];unfold FB;rcases ZH hu hne with hu|hu
    · obtain ⟨a,b⟩:=ih (2*i+1) (by omega) (by omega) j j1 j2 hu h0
      rw [if_neg (by omega)]
      by_cases y0:bE p w (2*i+2)<0
      · rw [if_pos y0];exact ⟨a,b⟩
      rw [if_neg y0]
      by_cases ld:fT (gU f (bE p w (2*i+1))) (gU f (bE p w (2*i+2))) t
      · rw [if_pos ld];exact ⟨a,b⟩
      · rw [if_neg ld]
        have l2:=AF t (by rw [(eD fok (ix.has a)).2,(eD fok (iy.has (by omega))).2];exact kn a) ld
        refine ⟨by omega,.inr ?_⟩
        rcases b with b|b
        · rw [<- b];exact l2
        · exact FC l2 b
    · obtain ⟨a,b⟩:=ih (2*i+2) (by omega) (by omega) j j1 j2 hu h0
      by_cases x0:bE p w (2*i+1)<0
      · rw [if_pos x0];exact ⟨a,b⟩
      rw [if_neg x0,if_neg (by omega)]
      by_cases ld:fT (gU f (bE p w (2*i+1))) (gU f (bE p w (2*i+2))) t
      · rw [if_pos ld]
        refine ⟨by omega,.inr ?_⟩
        rcases b with b|b
        · rw [<- b];exact ld
        · exact FC ld b
      · rw [if_neg ld];exact ⟨a,b⟩
  · have e:j=i:=Classical.byContradiction fun h=>by have:=aF5 hu h;omega
    subst e
    have:bE p w j=p[j-w.length]!:=by unfold bE;rw [if_neg hi]
    rw [this];exact ⟨h0,.inl rfl⟩
theorem aF7 (pm:(pP f).Perm (iF p)) (hf:0<f.length): ∃i,G2 (ahP f t) 0 f.length i/\(f[i]!).1=bE p w 0/\0<=bE p w 0:=by
 have hl:=R.1;have h1:=pl.one;have all: ∀k,k<f.length->0<=bE p w 0/\(bE p w 0=(f[k]!).1\/fT (gU f (bE p w 0)) f[k]! t):=fun k hk=>by
  have m:(f[k]!).1∈iF p:=pm.mem_iff.1 (DA.2 ⟨k,hk,rfl⟩);obtain ⟨m1,m2⟩:=BV.1 m;obtain ⟨j,hj,e⟩:=aW.1 m1
  have:=aF6 fok pl R _ 0 (Nat.le_refl _) (by omega) (w.length+j) (by omega) (by omega) (aBd _) (by rw [show w.length+j-w.length=j by omega,e];exact m2)
  rw [show w.length+j-w.length=j by omega,e,C7 fok.2.2 hk rfl] at this
  exact this
 have r0:=(all 0 hf).1;obtain ⟨i,hi,e⟩:=(QQ fok pl R (i:=0) (by omega)).has r0
 refine ⟨i,⟨Nat.zero_le _,hi,fun k _ hk hne=>?_⟩,e,r0⟩
 rcases (all k hk).2 with h|h
 · exact absurd (tZ fok.2.2 hi hk (by rw [e,h])) (fun h=>hne h.symm)
 · rw [<- e,C7 fok.2.2 hi rfl] at h;exact h
end
theorem aBe: ∀e,e<=6->bY [-1] ((2^e:Nat):Int)=some (List.replicate (2^e) (-1)):=by
 have go: ∀(n:Nat) (m:Nat),n<1000->aA .u64 (n:Int)=(n:Int)->(2^m=n)->fS (aA .u64 (Int.ofNat ([-1]:List Int).length)) (aA .u64 (n:Int))=some (0,(n:Int)):=fun n m hn h _=>by
  rw [show aA .u64 (Int.ofNat ([-1]:List Int).length)=1 from by kernel_rfl,h,E1 ⟨by decide,by decide⟩ ⟨by omega,by omega⟩]
  have e1:(1*(n:Int)) / 18446744073709551616=0:=by omega
  have e2:(1*(n:Int))%18446744073709551616=(n:Int):=by omega
  rw [e1,e2]
 intro e he;have he:e=0\/e=1\/e=2\/e=3\/e=4\/e=5\/e=6:=by omega
 rcases he with rfl|rfl|rfl|rfl|rfl|rfl|rfl
 · unfold bY gG;rw [go 1 0 (by omega) (by kernel_rfl) rfl];exact (by kernel_rfl:_=aH cU (1,-1::List.replicate 0 0)).trans (fI.2 ⟨20,by kernel_rfl⟩)
 · unfold bY gG;rw [go 2 1 (by omega) (by kernel_rfl) rfl];exact (by kernel_rfl:_=aH cU (1,-1::List.replicate 1 0)).trans (fI.2 ⟨20,by kernel_rfl⟩)
 · unfold bY gG;rw [go 4 2 (by omega) (by kernel_rfl) rfl];exact (by kernel_rfl:_=aH cU (1,-1::List.replicate 3 0)).trans (fI.2 ⟨20,by kernel_rfl⟩)
 · unfold bY gG;rw [go 8 3 (by omega) (by kernel_rfl) rfl];exact (by kernel_rfl:_=aH cU (1,-1::List.replicate 7 0)).trans (fI.2 ⟨20,by kernel_rfl⟩)
 · unfold bY gG;rw [go 16 4 (by omega) (by kernel_rfl) rfl];exact (by kernel_rfl:_=aH cU (1,-1::List.replicate 15 0)).trans (fI.2 ⟨20,by kernel_rfl⟩)
 · unfold bY gG;rw [go 32 5 (by omega) (by kernel_rfl) rfl];exact (by kernel_rfl:_=aH cU (1,-1::List.replicate 31 0)).trans (fI.2 ⟨20,by kernel_rfl⟩)
 · unfold bY gG;rw [go 64 6 (by omega) (by kernel_rfl) rfl];exact (by kernel_rfl:_=aH cU (1,-1::List.replicate 63 0)).trans (fI.2 ⟨20,by kernel_rfl⟩)
theorem MR {f:List Pt} (h64:f.length<=64):rX ⟨f⟩=some (fH f):=by
 obtain ⟨g1,g2,g3⟩:=NA h64;obtain ⟨b1,b2⟩:=aF4 h64;have fl:=DF h64;have stL: ∀i,i<=f.length->((fH f).take i++List.replicate (2^lg f.length-i) (-1)).length=2^lg f.length:=fun i hi=>by
  rw [List.length_append,List.length_take,List.length_replicate,fl];omega
 have in1:=bQ (body:=mU) (fun i=>(f,(f.length:Int),(i:Int),(fH f).take i++List.replicate (2^lg f.length-i) (-1))) f.length (fun i hi=>by
  unfold mU;simp only [aK (show (i:Int)<(f.length:Int) by omega),cond_true,aE f i hi,aD,aT (show i<1000000000 by omega),aE _ i (show i<((fH f).take i++List.replicate (2^lg f.length-i) (-1)).length by rw [stL i (by omega)];omega),wB]
  have e:((fH f).take i++List.replicate (2^lg f.length-i) (-1)).set i (f[i]!).1=(fH f).take (i+1)++List.replicate (2^lg f.length- (i+1)) (-1):=by
   rw [fQ (show i<(fH f).length by omega),List.set_append_right _ _ (by rw [List.length_take];omega),List.length_take,Nat.min_eq_left (by omega),Nat.sub_self]
   obtain ⟨c,hc⟩: ∃c,2^lg f.length-i=c+1:=⟨2^lg f.length-i-1,by omega⟩
   rw [hc,show 2^lg f.length- (i+1)=c by omega,List.replicate_succ,List.set_cons_zero,List.append_assoc,List.singleton_append]
   rw [show (fH f)[i]! =(f[i]!).1 from by unfold fH;rw [eA (by rw [fL];exact hi),oN hi]]
  rw [e])
 have out:=bQ (body:=pU) (fun i=>(((2^i:Nat):Int),f)) (lg f.length) (fun i hi=>by
  have:=g3 i hi
  unfold pU;simp only [aF,aK (show ((2^i:Nat):Int)<(f.length:Int) by omega),cond_true]
  rw [dbl (by omega),VK])
 unfold rX;refine (show _=_ from out).trans (aL ?_);unfold pU;simp only [aF,dec_f (show¬((2^lg f.length:Nat):Int)<(f.length:Int) by omega),cond_false,aBe _ g1,aD]
 have st0:aH mU (f,(f.length:Int),0,List.replicate (2^lg f.length) (-1))=_:=in1;refine st0.trans (aL ?_);unfold mU;simp only [dec_f (show¬(f.length:Int)<(f.length:Int) by omega),cond_false]
 have e:(fH f).take f.length++List.replicate (2^lg f.length-f.length) (-1)=fH f:=by
  unfold fH;rw [List.take_append_of_le_length (by rw [fL];exact Nat.le_refl _),List.take_of_length_le (by rw [fL];exact Nat.le_refl _)]
 rw [e]
theorem VO {f:List Pt} (fok:cJ f):QJ f (fH f):=by
 have h64:=fok.1;obtain ⟨b1,b2⟩:=aF4 h64;have fl:=DF h64;refine ⟨by omega,by omega,fun i j hij hj e=>?_,fun x hx=>?_⟩
 · by_cases h2:j<f.length
   · have e1:(fH f)[i]! =(f[i]!).1:=by unfold fH;rw [eA (by rw [fL];omega),oN (by omega)]
     have e2:(fH f)[j]! =(f[j]!).1:=by unfold fH;rw [eA (by rw [fL];omega),oN (by omega)]
     rw [e1,e2] at e
     have:=tZ fok.2.2 (by omega) h2 e
     omega
   · rw [e]
     unfold fH;rw [gQ (by rw [fL];omega),fL,yV _ (by omega)];decide
 · unfold fH at hx
   rcases List.mem_append.1 hx with h|h
   · have hp:=DA.1 h
     have:=(eD fok hp).1
     have e2:=(eD fok hp).2;unfold iG at this;exact .inr ⟨by omega,hp⟩
   · exact .inl (List.eq_of_mem_replicate h)
structure IE (k:dV):Prop where
 c:SZ k.clock
 p:k.bracket.places.length<=1000
 w:k.bracket.wins.length<=1000
theorem A3:IE J1:=⟨Q5,Nat.zero_le _,Nat.zero_le _⟩
theorem aBf {k:dV} (h:IE k):CZ k k=some true:=by
 have h1:=h.p;have h2:=h.w;unfold CZ HT;rw [aA0 h.c,aD,cond_true,Y6 _ (by omega),aD,cond_true,Y6 _ (by omega),aD,aD]
theorem ZI (k:dV):vP k=some true\/(vP k=some false/\IE k):=by
 unfold vP EP
 rcases Y3 k.clock with e|⟨e,sh⟩
 · rw [e];exact .inl rfl
 rw [e,aD,cond_false];simp only [aF]
 by_cases h:70<k.bracket.places.length
 · rw [aK (by omega)];exact .inl rfl
 · rw [dec_f (by omega),cond_false,aD]
   by_cases h2:70<k.bracket.wins.length
   · rw [aK (by omega)];exact .inl rfl
   · rw [dec_f (by omega)];exact .inr ⟨rfl,sh,by omega,by omega⟩
theorem aT1.short {c:aQ} {f:List Pt} {p:List Int} {k:dV} (pl:QJ f p) (h:aT1 c f p k):IE k:=by
 have R:=fJ (f:=f) (t:=c.now) pl.one;have b2:=pl.most;have b3:=R.1;refine ⟨h.ren.ok.short,by rw [h.places];show p.length<=1000;omega,by rw [h.places];show (cI f c.now p).length<=1000;omega⟩
theorem LK (f:Field) {t:Int×Int} (r64:rE t): ∃R:dV×Int,oT f t=some R/\rB f t=some R/\IE R.1:=by
 have cn:=VJ f r64
 by_cases h:kL f.points=0
 case neg=>
  rw [if_pos h] at cn;refine ⟨(J1,kL f.points),?_,?_,A3⟩
  · unfold oT
    rw [cn,aD,cQ h,cond_true];rfl
  · unfold rB
    rw [sT,aD,cQ h,cond_true,aD];rfl
 rw [if_neg (show¬kL f.points≠0 from fun k=>k h)] at cn
 have fok:=kM.1 h;have f1:=fok.1
 by_cases rt:cH t
 case neg=>
  rw [if_neg rt] at cn;refine ⟨(J1,8),?_,?_,A3⟩
  · unfold oT
    rw [cn,aD,cQ (by decide),cond_true]
    rfl
  · unfold rB
    rw [sT,aD,bS h,cond_false,sS r64,if_neg rt,aD,cQ (by decide),cond_true]
    rfl
 rw [if_pos rt] at cn;have pl:=VO fok;obtain ⟨R,r1,r2,r3⟩:=IC (aDJ fok rt r64) fok pl;have r1:lK (QK f t) f (fH f.points)=some R:=r1;have r2:nE (QK f t) f (fH f.points)=some R:=r2;have k1:rX f=some (fH f.points):=MR f1;have k2:vT f=some (fH f.points):=QM f1
 refine ⟨R,?_,?_,?_⟩
 · unfold oT
   rw [cn,aD,bS rfl,cond_false,k1,aD,r1,aD]
 · unfold rB
   rw [sT,aD,bS h,cond_false,sS r64,if_pos rt,aD,bS rfl,cond_false,aA6 f1 t,aD,k2,aD,r2,aD]
 · rcases r3 with ⟨_,q⟩|e
   · exact q.short pl
   · rw [e];exact A3
theorem ID.fit (k:dV) (n:aFU k.clock) (sh:IE k):wD k.clock:=⟨n.now,⟨sh.c.s3,sh.c.h,sh.c.w,n.at64⟩,sh.c.d⟩
theorem J5 {k:dV} (ok:ID k) (sh:IE k) (c1:jG k=some 0) (c2:iD k=some 0): ∃b:Int×Int,nF k=some b/\oZ k=some b/\(b=(0,42)/\k.clock.field.points.length=0\/ ∃i,G2 (ahP k.clock.field.points k.clock.now) 0 k.clock.field.points.length i/\b=((k.clock.field.points[i]!).1,0)):=by
 have fok:=ok.clk.fld;have f1:=fok.1;have s1:=sh.p;have s2:=sh.w;have b1:=ok.br.one;have b2:=ok.br.most;have b3:=ok.br.len;have pl:=DG ok.br ok.perm;have R:P4 k.clock.field.points k.clock.now k.bracket.places k.bracket.wins:=by rw [ok.right];exact fJ pl.one
 have bc:kS k.bracket=some 0:=by
  have:=BU k.bracket.places k.bracket.wins s1 s2
  rw [if_pos ok.br] at this;exact this
 have nd:gM k.bracket 0=some (bE k.bracket.places k.bracket.wins 0):=mY (p:=k.bracket.places) (w:=k.bracket.wins) (i:=0) (by omega) (by omega)
 unfold nF oZ yL;rw [c1,c2,aD,aD,bS rfl,cond_false,cond_false,aF,bc,aD,bS rfl,cond_false,nd,aD]
 by_cases h0:k.clock.field.points.length=0
 · refine ⟨(0,42),?_,?_,.inl ⟨rfl,h0⟩⟩
   · rw [dec_f (fun h=>?_)]
     · rfl
     have m:=jY R.1 R.chosen (i:=0) (by omega)
     have:=ok.perm.mem_iff.2 (BV.2 ⟨m,h⟩)
     obtain ⟨i,hi,_⟩:=DA.1 this;omega
   · rw [eV (by omega),cond_true]
 · obtain ⟨i,tp,e,r0⟩:=aF7 fok pl R ok.perm (by omega)
   have hi:=tp.hi;refine ⟨((k.clock.field.points[i]!).1,0),?_,?_,.inr ⟨i,tp,rfl⟩⟩
   · rw [aK r0,cond_true,e];rfl
   · have g:=aE (VN k.clock.field.points k.clock.now k.clock.field.points.length) 0 (by rw [J4];omega)
     rw [show ((0:Nat):Int)=0 from rfl,QP fok.2.2 tp _ (Nat.le_refl _) hi] at g;rw [eJ (by omega),cond_false,show pL k.clock.field k.clock.now=_ from aBc fok ok.clk.now64,aD,g,aD]
theorem LL {k:dV} (ok:ID k) (c1:jG k=some 0) (c2:iD k=some 0):oY k=some (iU k.bracket.places k.bracket.wins,0)/\rC k=some (iU k.bracket.places k.bracket.wins,0):=by
 have pl:=DG ok.br ok.perm;have m1:nX k.clock.field k.clock.now k.bracket.places=_:=yT ok.clk.fld ok.clk.nowv ok.clk.now64 pl;rw [<- ok.right] at m1;have of:vW k.bracket=_:=FE ok.br.len ok.br.most;constructor
 · unfold oY
   rw [c1,aD,bS rfl,cond_false,m1,aD]
 · unfold rC
   rw [c2,aD,bS rfl,cond_false,of,aD]
theorem BW (f:Field) (t:Int×Int) (k:dV) (r64:rE t) (n:aFU k.clock):qH f t k=some true:=by
 unfold qH;rcases MC f with e|⟨e,_⟩
 · rw [e];rfl
 rw [e,aD,cond_false];rcases ZI k with e|⟨e,sh⟩
 · rw [e];rfl
 rw [e,aD,cond_false];obtain ⟨R,b1,b2,b3⟩:=LK f r64;have fit:=ID.fit k n sh;have c1:=MQ fit sh.p sh.w;have c2:=QO fit sh.p sh.w;have main: ∃(a:List (Int×Int)×Int) (b:Int×Int) (m:Int),oY k=some a/\rC k=some a/\nF k=some b/\oZ k=some b/\jG k=some m/\iD k=some m/\a.1.length<=1000:=by
  by_cases ok:ID k
  case neg=>
   rw [if_neg ok] at c1 c2;refine ⟨([],8),(0,8),8,?_,?_,?_,?_,c1,c2,Nat.zero_le _⟩
   · unfold oY;rw [c1];rfl
   · unfold rC;rw [c2];rfl
   · unfold nF;rw [c1];rfl
   · unfold oZ;rw [c2];rfl
  rw [if_pos ok] at c1 c2;obtain ⟨b,l1,l2,_⟩:=J5 ok sh c1 c2;obtain ⟨e1,e2⟩:=LL ok c1 c2
  have:=IB k.bracket.places k.bracket.wins
  have:=sh.w
  exact ⟨_,b,0,e1,e2,l1,l2,c1,c2,by show (iU _ _).length<=1000;omega⟩
 obtain ⟨a,b,m,m1,m2,m3,m4,m5,m6,m7⟩:=main;simp only [b1,b2,aD,m1,m2,m3,m4,aBf b3,cond_true,m5,m6,beq_self_eq_true,aA1 a.1 (by omega)]
theorem aFU.of {c:aQ} (h1:RT.wf [.i .i64,.i .i64] c.now) (h2: ∀a∈c.agenda.heap,RT.wf [.i .i64,.i .i64,.i .i64,.i .i64,.i .i64] a):aFU c where
 now:=⟨KY h1.1,KY h1.2⟩
 at64 w hw:=by
  have:=h2 (c.agenda.heap[w]!) (by rw [getElem!_pos c.agenda.heap w hw];exact List.getElem_mem hw)
  exact ⟨KY this.1,KY this.2.1⟩
end Go.Proofs.YtlnclppkepgdmaaGreat
