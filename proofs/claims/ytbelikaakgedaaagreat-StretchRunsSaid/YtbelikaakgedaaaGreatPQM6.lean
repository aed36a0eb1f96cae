/- Plain laws (6). -/
import Derived.Test.YtbelikaakgedaaaGreatPQM5
import Derived.Test.YtbelikaakgedaaaGreatPVm3
import Derived.Test.YtbelikaakgedaaaGreatPQS4
open List renaming replicate->If,append_nil->PP,length_singleton->Y,length_replicate->WF,length_set->Pc,length_append->Sw,length_take->KJ,length_map->Xc,mem_map->Ii,length_filter_le->YH,take_append_of_le_length->SI,pairwise_iff_getElem->Mp,take_length->YI,take_of_length_le->GH,drop_of_length_le->QK,mem_append->YJ,replicate_succ'->SK,replicate_zero->Sv,mem_replicate->KL,append_assoc->Pg,length_drop->D8,range->Vf,take_set->xc,length->Su
open Int renaming ofNat->IR,toNat_natCast->Mi,tdiv_eq_ediv_of_nonneg->SH
open Bool renaming not_true->NE,not_false->Mq,and_self->al,true->Ih,false->Ml
open Classical renaming not_not->Md,not_imp->YF
open Nat renaming zero_le->YG,lt_trichotomy->SG,le_refl->EE,pow_le_pow_right->SJ
open List.Perm renaming refl->Mg
open Option renaming some->g'
open Decidable renaming decide->KO
namespace Go.Proofs.YtbelikaakgedaaaGreat
open Go.Vm Classical
structure R0(p w:List Int):Prop where
 one:1<=Su p
 gX:(Su p)<=64
 len:(Su w)+1=Su p
 once:FG p
 Wm: ∀x∈p,-1<=x/\x<=65535
 sx:HU p w
 none_: ∀i,i<Su w->w[i]!<0->bV p w (2*i+1)<0/\bV p w (2*i+2)<0
def R2(p w:J Int)(i:Nat):Prop:=(w[i]! =bV p w (2*i+1)\/w[i]! =bV p w (2*i+2))/\ ¬(w[i]!<0/\(0<=bV p w (2*i+1)\/0<=bV p w (2*i+2)))
def Yv(p w:J Int)(i:Nat):Prop:=(w[i]! =bV p w (2*i+1)\/w[i]! =bV p w (2*i+2))/\ ¬(w[i]! = -1/\(bV p w (2*i+1)≠ -1\/bV p w (2*i+2)≠ -1))
def O6(p:J Int)(i:Nat):Prop:= -1<=p[i]!/\p[i]!<=65535
def Oq(p:J Int)(i:Nat):Prop:= ∀j,j<i->p[j]! =p[i]!->p[i]!<0
theorem Jt{p:J Int}:(∀i,i<Su p->Oq p i)↔FG p:=
 ⟨λh i j rE hj e=>by rw[e];exact h j hj i rE e,λh i N j hj e=>by have:=h j i hj N e;omega⟩
theorem R3{p:J Int}:(∀i,i<Su p->O6 p i)↔ ∀x∈p,-1<=x/\x<=65535:=(Fy (P:=λx=> -1<=x/\x<=65535)).symm
theorem ad4{p w:J Int}(D:1<=Su p)(Ph:(Su p)<=64)(I:(Su w)+1=Su p):
 R0 p w↔(∀i,i<Su p->Oq p i)/\(∀i,i<Su p->O6 p i)/\ ∀i,i<Su w->R2 p w i:=by
 rw[Jt,R3];constructor
 ·intro h
  refine⟨h.once,h.Wm,λi N=>⟨h.sx i N,λ⟨a,b⟩=>?_⟩⟩;have:=h.none_ i N a;omega
 rintro⟨a,b,c⟩
 exact⟨D,Ph,I,a,b,λi N=>(c i N).1,λi N h0=>by have:=(c i N).2;omega⟩
theorem abJ{p w:J Int}(I:(Su w)+1=Su p)(hr: ∀x∈p,-1<=x/\x<=65535):(∀i,i<Su w->R2 p w i)↔ ∀i,i<Su w->Yv p w i:=by
 constructor<;>intro h i N
 ·have hc:=λi N=>(h i N).1
  have a1:=hr _ (mA I hc (i:=2*i+1) (by omega));have a2:=hr _ (mA I hc (i:=2*i+2) (by omega));obtain⟨b1,b2⟩:=h i N;exact⟨b1,by omega⟩
 have hc:=λi N=>(h i N).1
 have a1:=hr _ (mA I hc (i:=2*i+1) (by omega));have a2:=hr _ (mA I hc (i:=2*i+2) (by omega));obtain⟨b1,b2⟩:=h i N;exact⟨b1,by omega⟩
theorem qb4(p w:J Int)(I:(Su p)<=1000)(wl:(Su w)<=1000):xk ⟨p,w⟩=g' (if R0 p w then 0 else 8):=by
 unfold xk;simp[]
 by_cases D:((Su p):Int)<1
 ·rw[aA D,ww,EQ (λh=>by have:=h.one;omega)]
 rw[aF D,AC]
 by_cases S:(64:Int)<((Su p):Int)
 ·rw[aA S,ww,EQ (λh=>by have:=h.gX;omega)]
 rw[aF S,AC,p5 (by omega) (by omega)]
 by_cases h3:(Su w)+1=Su p
 case neg=>rw[cC (by omega),ww,EQ (λh=>h3 h.len)]
 rw[aY (by omega),AC];have l1:=mu (body:=lC) (λi=>(w,((Su w):Int),(i:Int),p,w)) (Su w) (R2 p w) (e:= .done (.done 0)) (λi N=>by
  unfold lC R2;have k1:=sZ (i:=i) (by omega) 1 (by omega);have k2:=sZ (i:=i) (by omega) 2 (by omega);simp (disch:=omega) only[aA,aq w i N,aj,show M d5 (M d5 (2*(i:Int))+1)=((2*i+1:Nat):Int)from k1,show M d5 (M d5 (2*(i:Int))+2)=((2*i+2:Nat):Int)from k2,yv,aN];generalize bV p w (2*i+1)=x;generalize bV p w (2*i+2)=y;generalize w[i]! =v
  by_cases a1:v=x
  ·rw[aY a1,AC]
   by_cases a3:v<0
   ·rw[aA a3,ww]
    by_cases a4:0<=(if y>x then y else x)
    ·rw[aA a4,ww]
     exact⟨λ_=>rfl,λh=>by split at a4<;>omega⟩
    rw[aF a4,AC]
    exact⟨λh=>by split at a4<;>omega,λ_=>rfl⟩
   rw[aF a3,AC]
   exact⟨λh=>by omega,λ_=>rfl⟩
  ·rw[cC a1,ww]
   by_cases a2:v=y
   ·rw[aY a2,AC]
    by_cases a3:v<0
    ·rw[aA a3,ww]
     by_cases a4:0<=(if y>x then y else x)
     ·rw[aA a4,ww]
      exact⟨λ_=>rfl,λh=>by split at a4<;>omega⟩
     rw[aF a4,AC]
     exact⟨λh=>by split at a4<;>omega,λ_=>rfl⟩
    rw[aF a3,AC]
    exact⟨λh=>by omega,λ_=>rfl⟩
   rw[cC a2,ww]
   exact⟨λ_=>rfl,λh=>by omega⟩) (by
  unfold lC;simp (disch:=omega) only[aF,AC])
 have cp:au lC (w,((Su w):Int),0,p,w)=g' (.done (.done (if∀i,i<Su w->R2 p w i then 0 else 8))):=by
  refine(l1).trans ?_
  by_cases h: ∀i,i<Su w->R2 p w i
  ·rw[Do h,Do h]
  rw[EQ h,EQ h]
 have l2: ∀m,au lD (p,((Su p):Int),0,p,w,m)=g' (.done (if(∀i,i<Su p->O6 p i)/\ ∀i,i<Su w->R2 p w i then 0 else 8)):=λm=>by
  have l2:=mu (body:=lD) (λi=>(p,((Su p):Int),(i:Int),p,w,m)) (Su p) (O6 p) (e:= .done (if∀i,i<Su w->R2 p w i then 0 else 8)) (λi N=>by
   unfold lD yk O6;simp only[aA (show(i:Int)<((Su p):Int) by omega),ww,aq p i N,aj,aN (show i<1000000000 by omega)];generalize p[i]! =v
   by_cases a1: -1<=v
   ·rw[aA a1,ww,aj]
    by_cases a2:v<=65535
    ·rw[aA a2];exact⟨λh=>absurd ⟨a1,a2⟩ h,λ_=>rfl⟩
    rw[aF a2]
    refine⟨λ_=>?_,λh=>absurd h.2 a2⟩;rw[aA (by omega)];rfl
   ·rw[aF a1,AC,aj]
    refine⟨λ_=>?_,λh=>absurd h.1 a1⟩;rw[aA (by omega)];rfl) (by
   unfold lD;simp (disch:=omega) only[aF,AC,aB,cp])
  refine(l2).trans ?_
  by_cases h: ∀i,i<Su p->O6 p i
  ·rw[Do h];congr 2;exact DO ⟨λk=>⟨h,k⟩,λk=>k.2⟩
  rw[EQ h,EQ (λk=>h k.1)]
 have l3:=mu (body:=q9) (λi=>(p,((Su p):Int),(i:Int),p,w,On p i)) (Su p) (Oq p) (e:=if(∀i,i<Su p->O6 p i)/\ ∀i,i<Su w->R2 p w i then 0 else 8) (λi N=>by
  unfold q9;simp only[aA (show(i:Int)<((Su p):Int) by omega),ww,aq p i N,aj,Oo,aN (show i<1000000000 by omega)]
  by_cases a:Oq p i
  ·rw[aF (λ⟨h0,j,hj,e⟩=>by have:=a j hj e;omega)]
   exact⟨λh=>absurd a h,λ_=>rfl⟩
  ·rw[aA (by
    unfold Oq at a;obtain⟨j,hj⟩:=Classical.not_forall.1 a;obtain⟨hj,h⟩:=YF.1 hj;obtain⟨h,h0⟩:=YF.1 h;exact⟨by omega,j,hj,h⟩)]
   refine⟨λ_=>?_,λh=>absurd h a⟩;rw[aA (by omega)];rfl) (by
  unfold q9;simp (disch:=omega) only[aF,AC,aB,l2])
 refine(l3).trans ?_;rw[DO (ad4 (by omega) (by omega) h3)]
 grind
theorem agf(p:J Int)(I:(Su p)<=1000):Fj p=g' (!KO (FG p)):=by
 have l2:=mu (body:=vz) (λi=>(p,(i:Int))) (Su p) (Oq p) (r:=Ih) (e:=Ml) (λi N=>by
  have l1:=mu (body:=vw) (λj=>(p,(i:Int),(j:Int))) i (λj=>p[j]! =p[i]!->p[i]!<0) (r:= .done Ih) (e:= .next (p,((i+1:Nat):Int))) (λj hj=>by
   unfold vw;simp (disch:=omega) only[aq,aN]
   grind) (by
   unfold vw;simp (disch:=omega) only[aF,AC,aN])
  unfold vz
  by_cases a:Oq p i
  ·rw[Do (show∀j,j<i->p[j]! =p[i]!->p[i]!<0 from a)]at l1
   grind
  ·rw[EQ (show¬ ∀j,j<i->p[j]! =p[i]!->p[i]!<0 from a)]at l1
   grind) (by
  unfold vz;simp)
 refine(l2).trans ?_
 by_cases h:FG p
 ·rw[Do (Jt.2 h),aA h];rfl
 rw[EQ (λk=>h (Jt.1 k)),aF h];rfl
theorem qb6(p w:J Int)(I:(Su p)<=1000)(wl:(Su w)<=1000):AU ⟨p,w⟩=g' (if R0 p w then 0 else 8):=by
 unfold AU;simp[]
 by_cases D:((Su p):Int)<1
 ·rw[aA D,ww,EQ (λh=>by have:=h.one;omega)]
 rw[aF D,AC]
 by_cases S:(64:Int)<((Su p):Int)
 ·rw[aA S,ww,EQ (λh=>by have:=h.gX;omega)]
 rw[aF S,AC,p5 (by omega) (by omega)]
 by_cases h3:(Su w)+1=Su p
 case neg=>rw[cC (by omega),ww,EQ (λh=>h3 h.len)]
 rw[aY (by omega),AC,agf p I,aj]
 by_cases ho:FG p
 case neg=>rw[aF ho,EQ (λh=>ho h.once)];rfl
 rw[aA ho,NE,AC];have l1:=mu (body:=qK) (λi=>((i:Int),p,w)) (Su w) (Yv p w) (e:= .done 0) (λi N=>by
  unfold qK Yv;have k1:=sZ (i:=i) (by omega) 1 (by omega);have k2:=sZ (i:=i) (by omega) 2 (by omega);simp (disch:=omega) only[aB,aA,aq w i N,aj,show M d5 (M d5 (2*(i:Int))+1)=((2*i+1:Nat):Int)from k1,show M d5 (M d5 (2*(i:Int))+2)=((2*i+2:Nat):Int)from k2,CH,aN];generalize bV p w (2*i+1)=x;generalize bV p w (2*i+2)=y;generalize w[i]! =v
  by_cases a1:v=x
  ·rw[aY a1,AC]
   by_cases a3:v= -1
   ·rw[ju a3,ww]
    by_cases a4:x= -1
    ·rw[aY a4,AC]
     by_cases a5:y= -1
     ·rw[aY a5,AC];exact⟨λh=>by omega,λ_=>rfl⟩
     rw[cC a5,ww];exact⟨λ_=>rfl,λh=>by omega⟩
    rw[cC a4,ww];exact⟨λ_=>rfl,λh=>by omega⟩
   rw[hO a3,AC];exact⟨λh=>by omega,λ_=>rfl⟩
  ·rw[cC a1,ww]
   by_cases a2:v=y
   ·rw[aY a2,AC]
    by_cases a3:v= -1
    ·rw[ju a3,ww]
     by_cases a4:x= -1
     ·rw[aY a4,AC]
      by_cases a5:y= -1
      ·rw[aY a5,AC];exact⟨λh=>by omega,λ_=>rfl⟩
      rw[cC a5,ww];exact⟨λ_=>rfl,λh=>by omega⟩
     rw[cC a4,ww];exact⟨λ_=>rfl,λh=>by omega⟩
    rw[hO a3,AC];exact⟨λh=>by omega,λ_=>rfl⟩
   rw[cC a2,ww]
   exact⟨λ_=>rfl,λh=>by omega⟩) (by
  unfold qK;simp (disch:=omega) only[aB,aF,AC])
 have cp:au qK (0,p,w)=g' (.done (if∀i,i<Su w->Yv p w i then 0 else 8)):=by
  refine(l1).trans ?_
  by_cases h: ∀i,i<Su w->Yv p w i
  ·rw[Do h,Do h]
  rw[EQ h,EQ h]
 have l2:=mu (body:=vA) (λi=>(((Su p):Int),(i:Int),p,w)) (Su p) (O6 p) (e:=if∀i,i<Su w->Yv p w i then 0 else 8) (λi N=>by
  unfold vA O6;simp (disch:=omega) only[aA,aq p i N,aj,aN];generalize p[i]! =v
  by_cases a1:v< -1
  ·rw[aA a1];exact⟨λ_=>rfl,λh=>by omega⟩
  ·rw[aF a1,AC]
   by_cases a2:65535<v
   ·rw[aA a2];exact⟨λ_=>rfl,λh=>by omega⟩
   rw[aF a2];exact⟨λh=>by omega,λ_=>rfl⟩) (by
  unfold vA;simp (disch:=omega) only[aF,AC,cp])
 refine(l2).trans ?_;rw[DO (ad4 (by omega) (by omega) h3)]
 congr 1
 by_cases hr: ∀i,i<Su p->O6 p i
 ·rw[Do hr]
  exact DO ⟨λh=>⟨Jt.2 ho,hr,(abJ h3 (R3.1 hr)).2 h⟩,λh=>(abJ h3 (R3.1 hr)).1 h.2.2⟩
 grind
noncomputable def Aj(p w:J Int)(k:Nat):J (Int×Int):=(Vf k).filterMap (Ed p w)
theorem FH(p w:J Int)(k:Nat):Aj p w (k+1)=Aj p w k++(match Ed p w k with|some e=>[e]|none=>[]):=by
 unfold Aj
 grind[List.range_succ]
theorem HX(p w:J Int)(k:Nat):(Aj p w k).length<=k:=by
 have:=List.length_filterMap_le (Ed p w) (Vf k)
 rwa [List.length_range]at this
section
variable {p w : J Int} (I : (Su w) + 1 = (Su p)) (Ph : (Su p) <= 64) (hc : HU p w)
include I Ph
theorem FI:IU ⟨p,w⟩=g' (kL p w):=by
 have st:=bc (body:=AW) (λi=>((i:Int),p,w,Aj p w i)) (Su w) (λi N=>by
  have k1:=sZ (i:=i) (by omega) 1 (by omega);have k2:=sZ (i:=i) (by omega) 2 (by omega);have el:=HX p w i;rw[FH];unfold AW;simp (disch:=omega) only[aB,aA,ww,show M d5 (M d5 (2*(i:Int))+1)=((2*i+1:Nat):Int)from k1,show M d5 (M d5 (2*(i:Int))+2)=((2*i+2:Nat):Int)from k2,CH,aj,aq w i N,aN];unfold Ed;generalize bV p w _=x;generalize bV p w _=y;generalize w[i]! =v
  by_cases a1:x<0
  ·grind
  rw[aF a1,AC]
  by_cases a2:y<0
  ·grind
  rw[aF a2,AC,EQ (by omega)]
  by_cases a3:v=x
  ·rw[ju a3,ww,Do a3,ba (by grind),aj]
  rw[hO a3,AC,EQ a3,ba (by grind),aj])
 refine(st).trans (ar ?_);unfold AW;simp (disch:=omega) only[aB,aF,];rfl
include hc
theorem qb8 (hr: ∀x∈p,-1<=x/\x<=65535):au qu (w,((Su w):Int),0,p,w,[])=g' (⟨p,w⟩,kL p w):=by
 have st:=bc (body:=qu) (fun i=>(w,((Su w):Int),(i:Int),p,w,Aj p w i)) (Su w) (fun i N=>by
  have k1:=sZ (i:=i) (by omega) 1 (by omega);have k2:=sZ (i:=i) (by omega) 2 (by omega);have el:=HX p w i;have m1:=hr _ (mA I hc (i:=2*i+1) (by omega));have m2:=hr _ (mA I hc (i:=2*i+2) (by omega));have cv:=hc i N;have fin: ∀(x y v:Int),(-1<=x/\x<=65535)->(-1<=y/\y<=65535)->(v=x\/v=y)->
   (bif KO (0<=x) then
    bif KO (0<=y) then (aQ (Aj p w i) [(M d5 (M d5 (x+y) -v),v)]).bind fun l3=>g' (Step.next (ρ:=bz×J (Int×Int)) (w,((Su w):Int),M d5 ((i:Int)+1),p,w,l3))
    else g' (Step.next (w,((Su w):Int),M d5 ((i:Int)+1),p,w,Aj p w i))
   else g' (Step.next (w,((Su w):Int),M d5 ((i:Int)+1),p,w,Aj p w i)))=
   g' (Step.next (w,((Su w):Int),((i+1:Nat):Int),p,w,Aj p w i++(match (if x<0\/y<0 then none else if v=x then g' (y,x) else g' (x,y)) with|some e=>[e]|none=>[]))):=by
   intro x y v X hy hv;rw [aN (by omega)]
   by_cases a1:x<0
   · rw [aF (by omega),AC,Do (.inl a1)];simp
   rw [aA (by omega),ww]
   by_cases a2:y<0
   · rw [aF (by omega),AC,Do (.inr a2)];simp
   rw [aA (by omega),ww,EQ (by omega),ba (by rw [Y];omega),aj,dN (n:=x+y) ⟨by omega,by omega⟩,dN ⟨by omega,by omega⟩]
   grind
  rw [FH];unfold qu;have e1:bV p w (2*i+1)=if 2*i+1<(Su w) then w[2*i+1]! else p[2*i+1-(Su w)]!:=rfl
  have e2:bV p w (2*i+2)=if 2*i+2<(Su w) then w[2*i+2]! else p[2*i+2-(Su w)]!:=rfl
  have f1:=fin _ _ _ m1 m2 cv;simp (disch:=omega) only [aB,aA,show M d5 (M d5 (2*(i:Int))+1)=((2*i+1:Nat):Int) from k1,show M d5 (M d5 (2*(i:Int))+2)=((2*i+2:Nat):Int) from k2,aq w i N,aj,beq_self_eq_true]
  by_cases b1:2*i+1<Su w
  · rw [Do b1] at e1
    rw [aA (by omega),ww,aq w _ b1,aj,<- e1]
    by_cases b2:2*i+2<Su w
    · rw [Do b2] at e2
      rw [aA (by omega),ww,aq w _ b2,aj,<- e2];exact f1
    rw [EQ b2] at e2
    rw [aF (by omega),AC,dN ⟨by omega,by omega⟩,show ((2*i+2:Nat):Int) - ((Su w):Int)=((2*i+2-(Su w):Nat):Int) by omega,aq p _ (by omega),aj,<- e2];exact f1
  rw [EQ b1] at e1
  rw [EQ (by omega)] at e2;rw [aF (by omega),AC,dN ⟨by omega,by omega⟩,show ((2*i+1:Nat):Int) - ((Su w):Int)=((2*i+1-(Su w):Nat):Int) by omega,aq p _ (by omega),aj,<- e1,
   aF (by omega),AC,dN ⟨by omega,by omega⟩,show ((2*i+2:Nat):Int) - ((Su w):Int)=((2*i+2-(Su w):Nat):Int) by omega,aq p _ (by omega),aj,<- e2]
  exact f1)
 refine (st).trans (ar ?_);unfold qu;simp (disch:=omega) only [aF,];rfl
end
structure yw(f:List Pt)(p:List Int):Prop where
 one:1<=Su p
 gX:(Su p)<=64
 once:FG p
 ids: ∀x∈p,LG f x
theorem yw.Wm{f:J Pt}(bj:aS f){p:J Int}(h:yw f p): ∀x∈p,-1<=x/\x<=65535:=λx X=>by
 rcases h.ids x X with e|⟨e,hp⟩
 ·omega
 have:=(bU bj hp).1
 have e2:=(bU bj hp).2;unfold gO at this;omega
section
variable {f : J Pt} (bj : aS f) {t : Int × Int} (r : bI t) (dK : jo t) {p : J Int} (pl : yw f p)
include bj dK pl
theorem abK:Dy ⟨f⟩ t p=g' ⟨p,cy f t p⟩:=by unfold Dy;rw[c70 bj dK pl.one pl.gX pl.ids];rfl
theorem qY:Bc f (kL p (cy f t p))/\(kL p (cy f t p)).Nodup/\(kL p (cy f t p)).length<=63:=by have:=dK;have R:=eh (f:=f) (t:=t) pl.one;have m:=pl.gX;have:=R.1;have el:=afu p (cy f t p);exact⟨aah bj R.1 pl.gX R.w5 pl.once λx X h0=>(pl.ids x X).has h0,age R.1 R.w5 pl.once,by omega⟩
include r
theorem Ak:qv ⟨f⟩ t p=g' (⟨p,cy f t p⟩,kL p (cy f t p)):=by have R:=eh (f:=f) (t:=t) pl.one;unfold qv;rw[ajK bj r dK pl.one pl.gX pl.ids pl.once,aj];exact qb8 R.1 pl.gX R.w5 (pl.Wm bj)
end
def Gy:bB:=⟨cE,⟨[],[]⟩⟩
structure Qd(c:aE)(f:List Pt)(p:List Int)(k:bB):Prop where
 tj:Bb c f (kL p (cy f c.io p)) k.lc
 aX:k.ls=⟨p,cy f c.io p⟩
theorem abL{c:aE}(ok:aV c){f:J Pt}(bj:aS f){p:J Int}(pl:yw f p):
 ∃R:aE×Int,fw c ⟨f⟩ (kL p (cy f c.io p))=g' R/\fu c ⟨f⟩ (kL p (cy f c.io p))=g' R/\(R.2=0/\Bb c f (kL p (cy f c.io p)) R.1\/R=(cE,18)):=by
 obtain⟨En,nd,el⟩:=qY bj ok.cO pl;obtain⟨R,r1,r2,r3⟩:=Jb ok bj En;have ee:lq f (kL p (cy f c.io p))=0:=by unfold lq;rw[EQ (Md.2 En.cv),EQ (Md.2 nd),EQ (λh=>h En.kn)]
 have rn:=vQ ok bj (by omega) (λ_=>r1)
 grind
theorem aj7{c:aE}(ok:aV c){f:J Pt}(bj:aS f){p:J Int}(pl:yw f p):
 ∃R:bB×Int,qx c ⟨f⟩ p=g' R/\fX c ⟨f⟩ p=g' R/\(R.2=0/\Qd c f p R.1\/R=(Gy,18)):=by
 have D:=Ak bj ok.ie ok.cO pl;have g1:=abK bj ok.cO pl;have B:=eh (f:=f) (t:=c.io) pl.one;have eo:=FI B.1 pl.gX;obtain⟨R,r1,r2,r3⟩:=abL ok bj pl;rcases r3 with⟨q0,qq⟩|he
 ·refine⟨(⟨R.1,⟨p,cy f c.io p⟩⟩,0),?_,?_,.inl ⟨rfl,qq,rfl⟩⟩
  ·unfold qx
   grind
  unfold fX
  grind
 refine⟨(Gy,18),?_,?_,.inr rfl⟩
 ·unfold qx
  simp[D,r1,he,];rfl
 unfold fX
 simp[g1,eo,r2,he,];rfl
def dS(p:J Int):J Int:=p.filter λx=>decide (0<=x)
theorem pS{p:J Int}{j:Nat}(hj:j<Su p):dS (p.take (j+1))=dS (p.take j)++if 0<=p[j]! then [p[j]!]else []:=by
 unfold dS;rw[cB hj,List.filter_append]
 grind
theorem ajL(p:J Int)(j:Nat):(dS (p.take j)).length<=j:=by have:=YH (λx:Int=>decide (0<=x)) (p.take j);rw[KJ]at this;unfold dS;omega
theorem h2'(p:J Int)(I:(Su p)<=1000):Kg p=g' (dS p):=by
 have st:=bc (body:=y7) (λi=>(p,(i:Int),dS (p.take i))) (Su p) (λi N=>by
  have el:=ajL p i;rw[pS N];unfold y7;simp (disch:=omega) only[aB,aA,ww,aq p i N,aj,aN]
  by_cases h:0<=p[i]!
  ·rw[aA h,ww,Do h,ba (by rw[Y];omega),aj]
  rw[aF h,AC,EQ h,PP])
 refine(st).trans (ar ?_);unfold y7;simp
structure Qs(p:List Int)(i j:Nat)(L:List Int):Prop where
 len:(Su L)=Su p
 le:i<=j
 lt:j<=Su p
 Yw:L.take i=dS (p.take j)
 rest: ∀k,j<=k->k<Su p->L[k]! =p[k]!
theorem Qs.PF{p:J Int}{i j:Nat}{L:J Int}(h:Qs p i j L):i=(dS (p.take j)).length:=by have:=congrArg List.length h.Yw;rw[KJ,h.len]at this;have:=h.le;have:=h.lt;omega
theorem ahe{p:J Int}{i:Nat}{L:J Int}(h:Qs p i (Su p) L): ∃B4:J Int,bG p ((i:Int),((Su p):Int),L)=g' (.done (.done (i,Su p,B4)))/\Su B4=Su p/\B4.take i=dS p:=by
 have I:=h.len;have N:=h.le;have Yw:=h.Yw;rw[YI]at Yw;unfold bG;simp (disch:=omega) only[aB,I,aF,AC,aA,Mi,Nat.zero_add,Bool.and_true]
 by_cases h0:(Su p)-i=0
 ·simp_all[lJ,]
 have n1:Nat.beq (Su p-i) 0=Ml:=by
  cases hb:Nat.beq _ 0 with
  |false=>rfl
  |true=>have:=Nat.eq_of_beq_eq_true hb;omega
 have n2:Nat.ble (i+(Su p-i)) (Su p)=Ih:=Nat.ble_eq_true_of_le (by omega);have ll:(iL L i (If (Su p-i) (0:Int))).length=(Su p):=by unfold iL;simp;omega
 rw[n1,AC,n2,ww,lJ _ i (by rw[ll];omega),aj,ll,beq_self_eq_true,ww];unfold iL
 grind
theorem alx{p:J Int}(hp:(Su p)<=1000): ∀(d i j:Nat) (L:J Int),Su p-j<=d->Qs p i j L->
 ∃(n:Nat) (B4:J Int),au (bG p) ((i:Int),(j:Int),L)=g' (.done (n,Su p,B4))/\n=(dS p).length/\Su B4=Su p/\B4.take n=dS p:=by
 have fin: ∀(i j:Nat) (L:J Int),Su p<=j->Qs p i j L-> ∃(n:Nat) (B4:J Int),au (bG p) ((i:Int),(j:Int),L)=g' (.done (n,Su p,B4))/\n=(dS p).length/\Su B4=Su p/\B4.take n=dS p:=by
  intro i j L hj h;obtain rfl:j=(Su p):=by have:=h.lt;omega
  obtain⟨B4,m1,m2,m3⟩:=ahe h;exact⟨i,B4,ar m1,by rw[h.PF,YI],m2,m3⟩
 intro d
 induction d with
 |zero=>grind
 |succ d ih=>
  intro i j L hd h
  by_cases hj:(Su p)<=j
  ·grind
  have I:=h.len;have rJ:=h.le;have e:=h.rest j (EE _) (by omega);have st:bG p ((i:Int),(j:Int),L)=g' (.next (((if 0<=p[j]! then i+1 else i:Nat):Int),((j+1:Nat):Int),if 0<=p[j]! then L.set i p[j]! else L)):=by
   unfold bG oj;simp only[aB,I,aA (show(j:Int)<((Su p):Int) by omega),aq L j (by omega),aj,e,aN (show i<1000000000 by omega),aN (show j<1000000000 by omega)]
   by_cases h0:0<=p[j]!
   ·rw[aF (by omega),Mq,ww,aq L i (by omega),aj,Do h0,Do h0];rfl
   grind
  rw[aD st];refine ih _ _ _ (by omega) ?_
  by_cases h0:0<=p[j]!
  ·rw[Do h0,Do h0]
   refine⟨by grind,by omega,by omega,?_,λk hk KP=>?_⟩
   ·rw[pS (by omega),Do h0,<-h.Yw,cB (by grind),bQ,Do ⟨rfl,by omega⟩,List.take_set_of_le (EE i)]
   rw[bQ,EQ (by omega)];exact h.rest k (by omega) KP
  rw[EQ h0,EQ h0]
  refine⟨I,by omega,by omega,?_,λk hk KP=>h.rest k (by omega) KP⟩;rw[pS (by omega),EQ h0,PP];exact h.Yw
theorem Ov: ∀{l:J Int},(∀x∈l,0<=x)->dS l=l:=λ{l} h=>List.filter_eq_self.2 λx X=>by grind
theorem h1'(p:J Int)(hp:(Su p)<=1000): ∃(n:Nat) (B4:J Int),cW p=g' (n,Su p,B4)/\n=(dS p).length/\Su B4=Su p/\B4.take n=dS p:=by
 have key: ∀(d m:Nat),Su p-m<=d->m<=Su p->(∀k,k<m->0<=p[k]!)-> ∃(n:Nat) (B4:J Int),au (bH p) (((Su p):Int),(m:Int),p)=g' (n,Su p,B4)/\n=(dS p).length/\Su B4=Su p/\B4.take n=dS p:=by
  intro d;have fin: ∀m,m=Su p->(∀k,k<m->0<=p[k]!)-> ∃(n:Nat) (B4:J Int),au (bH p) (((Su p):Int),(m:Int),p)=g' (n,Su p,B4)/\n=(dS p).length/\Su B4=Su p/\B4.take n=dS p:=by
   intro m hm h;subst hm;have e:=Ov λx X=>by obtain⟨i,N,rfl⟩:=aU.1 X;exact h i N
   refine⟨Su p,p,ar ?_,by rw[e],rfl,by rw[YI,e]⟩;unfold bH;simp
  induction d with
  |zero=>grind
  |succ d ih=>
   intro m D S h
   by_cases hm:m=Su p
   ·exact fin m hm h
   by_cases h0:0<=p[m]!
   ·have st:bH p (((Su p):Int),(m:Int),p)=g' (.next (((Su p):Int),((m+1:Nat):Int),p)):=by
     unfold bH oj;simp (disch:=omega) only[aA,ww,aq,aj,aF,AC,aN]
    grind[aD]
   have hd:Qs p m (m+1) p:=⟨rfl,by omega,by omega,by
    rw[pS (by omega),EQ h0,PP,Ov λx X=>?_];obtain⟨i,N,_,rfl⟩:=cN.1 X;exact h i N,λk _ _=>rfl⟩
   obtain⟨n,B4,m1,m2,m3,m4⟩:=alx hp (Su p) m _ p (by omega) hd;refine⟨n,B4,ar ?_,m2,m3,m4⟩;unfold bH oj;simp (disch:=omega) only[aA,ww,aq,aj,beq_self_eq_true,hO,AC,aN,m1]
 exact key (Su p) 0 (by omega) (YG _) (λk hk=>absurd hk (Nat.not_lt_zero k))
def HZ(n:Nat):Prop:= ∃i,i<7/\n=2^i
theorem fra{n:Nat}(D:1<=n)(S:n<=64):uC d5 (n:Int) ((n-1:Nat):Int)=0↔HZ n:=by
 have key: ∀k:Fin 65,1<=k.val->((uC d5 (k.val:Int) ((k.val-1:Nat):Int)=0)↔ ∃i,i<7/\k.val=2^i):=by decide+kernel
 exact key ⟨n,by omega⟩ D
theorem dbl{q:Nat}(h:q<=64):M d5 ((q:Int)*2)=((2*q:Nat):Int):=by grind[dN]
theorem hut(i:Nat):2^(i+1)=2*2^i:=by omega
theorem n14{n:Nat}:Fk (n:Int)=g' (KO (HZ n)):=by
 have st:=mu (body:=zV) (λi=>((n:Int),((2^i:Nat):Int))) 7 (λi=>n≠2^i) (r:=Ih) (λi N=>by
  have b1:2^i<=64:=Nat.le_trans (SJ (by omega) (show i<=6 by omega)) (by decide);unfold zV
  by_cases h:n=2^i
  ·grind
  ·rw[hO (by omega),AC,dbl b1,hut]
   grind) (by
  rfl)
 refine(st).trans ?_
 by_cases h:HZ n
 ·obtain⟨i,N,e⟩:=h
  rw[EQ (λk=>k i N e),aA ⟨i,N,e⟩]
 rw[Do (λi N e=>h ⟨i,N,e⟩),aF h]
theorem w9(f:J Pt):(fa f).length=(Su f):=Xc ..
theorem DZ{f:J Pt}{i:Nat}(h:i<Su f):(fa f)[i]! =(f[i]!).1:=by
 unfold fa
 grind
section
variable {f : J Pt} (Ph : (Su f) <= 64)
include Ph
end
theorem a15:Ff=tT:=rfl
structure pf(k:bB):Prop where
 fI:aV k.lc
 br:R0 k.ls.aX k.ls.k9
 pow:HZ (Su k.ls.aX)
 perm:(fa k.lc.jp.am).Perm (dS k.ls.aX)
 right:k.ls.k9=cy k.lc.jp.am k.lc.io k.ls.aX
 cert:(k.lc.af.ii.map λx=>x.2).Perm (kL k.ls.aX k.ls.k9)
theorem oG{p:J Int}{x:Int}:x∈dS p↔x∈p/\0<=x:=by unfold dS;simp
theorem Al{f:J Pt}{p w:J Int}(br:R0 p w)(pm:(fa f).Perm (dS p)):yw f p:=by
 refine⟨br.one,br.gX,br.once,λx X=>?_⟩;have:=br.Wm x X
 by_cases h:0<=x
 ·exact .inr ⟨h,dL.1 (pm.mem_iff.2 (oG.2 ⟨X,h⟩))⟩
 exact .inl (by omega)
theorem H3{p:J Int}(h:FG p):(dS p).Nodup:=by
 have go: ∀(j:Nat),j<=Su p->(dS (p.take j)).Nodup:=by
  intro j
  induction j with
  |zero=>intro _;simp[dS]
  |succ j ih=>
   intro hj;rw[pS (by omega)]
   by_cases h0:0<=p[j]!
   ·rw[Do h0]
    refine List.nodup_append.2 ⟨ih (by omega),by simp,λa ha b hb e=>?_⟩;obtain rfl:b=p[j]!:=by simpa using hb
    subst e;have hm:=(oG.1 ha).1;obtain⟨i,N,_,e⟩:=cN.1 hm;have:=h i j N (by omega) e;omega
   rw[EQ h0,PP];exact ih (by omega)
 have:=go (Su p) (EE _)
 grind
theorem a17{f:J Pt}(h:fQ f):(fa f).Pairwise (· <= ·):=by
 refine Mp.2 λi j N hj rE=>?_
 rw[w9]at N hj;have:=eW h rE hj;rw[<-getElem!_pos _ i (by omega),<-getElem!_pos _ j (by omega),DZ N,DZ hj];omega
theorem abN{f:J Pt}(h:fQ f)(l:J Int):tK l=fa f↔(fa f).Perm l:=by
 grind[Db,List.Perm.eq_of_pairwise,Int.le_antisymm,Dc,a17]
theorem a18(l:J Int)(f:J Pt)(I:(Su l)<=1000):df l f ()=g' (KO (l=fa f)):=by
 unfold df;simp[]
 by_cases h:(Su l)=Su f
 case neg=>rw[cC (by omega),ww,aF (λe=>h (by rw[e,w9]))]
 rw[aY (by omega),AC];have key:=mu (body:=cS) (λi=>(f,l,((Su l):Int),(i:Int))) (Su l) (λi=>l[i]! =(f[i]!).1) (r:=Ml) (e:=Ih) (λi N=>by
  unfold cS zM;simp (disch:=omega) only[aq,aN]
  grind) (by
  unfold cS;simp)
 refine(key).trans ?_
 by_cases q:l=fa f
 ·rw[Do (λi N=>by rw[q,DZ (by omega)]),aA q]
 rw[EQ (λw=>q (nj (by rw[w9];exact h) λi N=>by grind[DZ])),aF q]
theorem afW(a b:J Int)(ha:(Su a)<=1000):jh a b=g' (KO (a=b)):=by
 unfold jh;simp[]
 by_cases h:(Su a)=Su b
 case neg=>rw[cC (by omega),ww,aF (λe=>h (by rw[e]))]
 rw[aY (by omega),AC];have key:=mu (body:=gD) (λi=>(a,b,((Su a):Int),(i:Int))) (Su a) (λi=>a[i]! =b[i]!) (r:=Ml) (e:=Ih) (λi N=>by
  unfold gD;simp (disch:=omega) only[aq,aN]
  grind) (by
  unfold gD;simp)
 refine(key).trans ?_
 by_cases q:a=b
 ·grind
 rw[EQ (λw=>q (nj h w)),aF q]
theorem c77{n:Nat}{B4:J Int}(hn:n<=Su B4)(hm:(Su B4)<=1000):FZ Q4 n B4=g' (tK (B4.take n)++B4.drop n):=by unfold FZ KU Q4;rw[Do hn,Do (by grind)];simp[F7,]
theorem hqr{c:aE}(ok:aV c){es:J _}(_nd:es.Nodup):(Su es=Su c.af.ii/\ ∀i,i<Su c.af.ii->(c.af.ii[i]!).2∈es)↔(c.af.ii.map λx=>x.2).Perm es:=by
 have cl:(c.af.ii.map λx=>x.2).length=(Su c.af.ii):=Xc ..;constructor
 ·rintro⟨D,S⟩
  exact gH (jQ ok.vX) (λx X=>by obtain⟨i,N,rfl⟩:=dY.2 X;exact S i N) (by omega)
 intro h
 exact⟨by rw[<-h.length_eq,cl],λi N=>h.mem_iff.1 (dY.1 ⟨i,N,rfl⟩)⟩
theorem yx{k:bB}(fit:nm k.lc)(I:(Su k.ls.aX)<=1000)(wl:(Su k.ls.k9)<=1000):gZ k=g' (if pf k then 0 else 8):=by
 unfold gZ;rw[iR fit,aj]
 by_cases ok:aV k.lc
 case neg=>rw[EQ ok,EQ (λh=>ok h.fI)];rfl
 rw[Do ok,aY rfl,AC,qb4 k.ls.aX k.ls.k9 I wl,aj]
 by_cases br:R0 k.ls.aX k.ls.k9
 case neg=>rw[EQ br,EQ (λh=>br h.br)];rfl
 have b1:=br.one;have b2:=br.gX;rw[Do br,aY rfl,AC,aB,p5 (by omega) b1]
 by_cases pw:HZ (Su k.ls.aX)
 case neg=>rw[cC (λh=>pw ((fra b1 b2).1 h)),ww,EQ (λh=>pw h.pow)]
 rw[aY ((fra b1 b2).2 pw),AC,bJ (by omega),aj];obtain⟨n,B4,e1,e2,e3,e4⟩:=h1' k.ls.aX I;have nl:n<=(Su B4):=by
  grind
 have tk:(tK (B4.take n)++B4.drop n).take n=tK (dS k.ls.aX):=by
  grind[F7,KJ,GH]
 have ll:(tK (B4.take n)++B4.drop n).length=(Su B4):=by rw[Sw,F7,KJ,D8];omega
 have fe:k.lc.jp=⟨k.lc.jp.am⟩:=rfl;rw[e1,aj];rw[c77 nl (by omega),aj,ll,beq_self_eq_true,ww,tk,a18 _ _ (by grind),aj]
 by_cases pm:(fa k.lc.jp.am).Perm (dS k.ls.aX)
 case neg=>rw[aF (λh=>pm ((abN ok.fD.2.2 _).1 h)),EQ (λh=>pm h.perm)];rfl
 have pl:=Al br pm;rw[aA ((abN ok.fD.2.2 _).2 pm),NE,AC,fe,Ak ok.fD ok.ie ok.cO pl,aj];dsimp only;obtain⟨_,nd,el⟩:=qY ok.fD ok.cO pl;have R:=eh (f:=k.lc.jp.am) (t:=k.lc.io) pl.one;rw[afW _ _ (by have:=R.1;omega),aj]
 by_cases hw:cy k.lc.jp.am k.lc.io k.ls.aX=k.ls.k9
 case neg=>rw[aF hw,EQ (λh=>hw h.right.symm)];rfl
 rw[aA hw,NE,AC,a15,afk _ _ (by omega) (by have:=ok.bd;omega),aj]
 by_cases hc:(k.lc.af.ii.map λx=>x.2).Perm (kL k.ls.aX (cy k.lc.jp.am k.lc.io k.ls.aX))
 ·rw[aA ((hqr ok nd).2 hc),Do ⟨ok,br,pw,pm,hw.symm,by grind⟩];rfl
 rw[aF (λh=>hc ((hqr ok nd).1 h)),EQ (λh=>hc (by rw[hw];exact h.cert))];rfl
theorem agi{f:J Pt}(bj:aS f)(p:J Int)(hp:(Su p)<=1000):AV ⟨f⟩ p=g' (KO (∀i,i<Su p->p[i]! = -1\/dZ f p[i]!)):=by
 have st:=mu (body:=vB) (λi=>(p,(i:Int),f)) (Su p) (λi=>p[i]! = -1\/dZ f p[i]!) (e:=Ih) (λi N=>by
  unfold vB;simp (disch:=omega) only[aB,aA,aq p i N,aj,aN]
  by_cases h:p[i]! = -1
  ·rw[aY h];exact⟨λk=>absurd (.inl h) k,λ_=>rfl⟩
  ·rw[cC h,ww]
   by_cases S:dZ f p[i]!
   ·obtain⟨m,_,e,_⟩:=yr bj S
    rw[e,aj,aF (by omega)];exact⟨λk=>absurd (.inr S) k,λ_=>rfl⟩
   rw[Fx bj S,aj]
   exact⟨λ_=>rfl,λk=>by rcases k with k|k;exact absurd k h;exact absurd k S⟩) (by
  unfold vB;simp (disch:=omega) only[aB,aF,AC])
 unfold AV
 grind
theorem a14{f:J Pt}(bj:aS f){t:Int×Int}(dK:jo t){p w:J Int}(br:R0 p w)(pl:yw f p):HF ⟨p,w⟩ ⟨f⟩ t=g' (KO (w=cy f t p)):=by
 have b2:=br.gX;have b3:=br.len;have st:=mu (body:=xy) (λi=>((i:Int),p,w,f,t)) (Su w) (λi=>w[i]! =CG f t (bV p w (2*i+1)) (bV p w (2*i+2))) (r:=Ml) (e:=Ih) (λi N=>by
  have k1:=sZ (i:=i) (by omega) 1 (by omega);have k2:=sZ (i:=i) (by omega) 2 (by omega);unfold xy;simp (disch:=omega) only[show M d5 (M d5 (2*(i:Int))+1)=((2*i+1:Nat):Int)from k1,show M d5 (M d5 (2*(i:Int))+2)=((2*i+2:Nat):Int)from k2,CH,aj,aq w i N,aN,afv bj dK (pl.ids _ (mA b3 br.sx (i:=2*i+1) (by omega))) (pl.ids _ (mA b3 br.sx (i:=2*i+2) (by omega)))]
  grind) (by
  unfold xy;simp)
 refine(st).trans ?_;have R:=eh (f:=f) (t:=t) pl.one
 by_cases h:w=cy f t p
 ·rw[Do (by rw[h];exact R.2),aA h]
 rw[EQ (λk=>h (jnK ⟨b3,k⟩ R)),aF h]
theorem afF{f:J Pt}(bj:aS f){t:Int×Int}{p:J Int}(pl:yw f p){e:Int×Int}(he:e∈kL p (cy f t p)):leads (bm f e.2) (bm f e.1) t:=by
 have R:=eh (f:=f) (t:=t) pl.one;have qb1:=R.1;obtain⟨i,N,h⟩:=HV.1 he;obtain⟨a1,a2,a3⟩:=HW h;have ne:=Jr R.1 R.w5 pl.once N a1;have X:=(pl.ids _ (mA R.1 R.w5 (by omega))).has a1;have hy:=(pl.ids _ (mA R.1 R.w5 (by omega))).has a2;have wv:=R.2 i N;unfold CG at wv
 grind[oR,bU]
theorem Am{k:bB}(fit:nm k.lc)(I:(Su k.ls.aX)<=1000)(wl:(Su k.ls.k9)<=1000):ir k=g' (if pf k then 0 else 8):=by
 unfold ir;rw[vM fit,aj]
 by_cases ok:aV k.lc
 case neg=>rw[EQ ok,EQ (λh=>ok h.fI)];rfl
 rw[Do ok,aY rfl,AC,qb6 k.ls.aX k.ls.k9 I wl,aj]
 by_cases br:R0 k.ls.aX k.ls.k9
 case neg=>rw[EQ br,EQ (λh=>br h.br)];rfl
 have b2:=br.gX;rw[Do br,aY rfl,AC,aB,n14,aj]
 by_cases pw:HZ (Su k.ls.aX)
 case neg=>rw[aF pw,EQ (λh=>pw h.pow)];rfl
 have fe:k.lc.jp=⟨k.lc.jp.am⟩:=rfl;rw[aA pw,NE,AC,fe,agi ok.fD _ I,aj]
 by_cases pm:(fa k.lc.jp.am).Perm (dS k.ls.aX)
 case neg=>
  by_cases kn: ∀i,i<Su k.ls.aX->k.ls.aX[i]! = -1\/dZ k.lc.jp.am k.ls.aX[i]!
  case neg=>rw[aF kn,EQ (λh=>pm h.perm)];rfl
  rw[aA kn,NE,AC,h2' _ I,aj,aB,aB,EQ (λh=>pm h.perm)];rw[cC (λh=>pm ?_)]
  ·rfl
  have h:((dS k.ls.aX).length:Int)=((Su k.lc.jp.am):Int):=h;refine(gH (H3 br.once) (λx X=>?_) (by rw[w9];omega)).symm;obtain⟨D,S⟩:=oG.1 X;obtain⟨i,N,rfl⟩:=aU.1 D;rcases kn i N with e|e
  ·omega
  exact dL.2 e
 have pl:=Al br pm;have kn: ∀i,i<Su k.ls.aX->k.ls.aX[i]! = -1\/dZ k.lc.jp.am k.ls.aX[i]!:=λi N=>by
  rcases pl.ids _ (aJ N)with e|e
  ·exact .inl e
  grind
 rw[aA kn,NE,AC,h2' _ I,aj,aB,aB,aY (by rw[<-pm.length_eq,w9]),AC,a14 ok.fD ok.cO br pl,aj]
 by_cases hw:k.ls.k9=cy k.lc.jp.am k.lc.io k.ls.aX
 case neg=>rw[aF hw,EQ (λh=>hw h.right)];rfl
 obtain⟨En,nd,el⟩:=qY ok.fD ok.cO pl;rw[aA hw,NE,AC,FI br.len b2,aj];rw[hw];rw[LV ok _ En.kn,aj]
 by_cases hc:(k.lc.af.ii.map λx=>x.2).Perm (kL k.ls.aX (cy k.lc.jp.am k.lc.io k.ls.aX))
 ·rw[aA (⟨by rw[<-hc.length_eq,Xc],λi N=>⟨dY.2 (hc.mem_iff.2 (aJ N)),afF ok.fD pl (aJ N)⟩⟩),Do ⟨ok,br,pw,pm,hw,by grind⟩];rfl
 rw[aF (λh=>hc ?_),EQ (λh=>hc (by have:=h.cert;grind))]
 ·rfl
 have cl:(k.lc.af.ii.map λx=>x.2).length=(Su k.lc.af.ii):=Xc ..;refine(gH nd (λx X=>?_) (by omega)).symm;obtain⟨i,N,rfl⟩:=aU.1 X;exact dY.1 (h.2 i N).1
section
variable {f : J Pt} (bj : aS f) {t : Int × Int} {p w : J Int} (pl : yw f p) (R : Oh f t p w)
include bj pl R
end
structure rS(k:bB):Prop where
 c:uu k.lc
 p:(Su k.ls.aX)<=1000
 w:(Su k.ls.k9)<=1000
theorem hx':rS Gy:=⟨nI,YG _,YG _⟩
theorem H4{k:bB}(h:rS k):kH k k=g' Ih:=by have D:=h.p;have S:=h.w;unfold kH Dt;rw[DL h.c,aj,ww,N5 _ (by omega),aj,ww,N5 _ (by omega),aj,aj]
theorem hnm{k:bB}(h:rS k):wH k=g' k:=by have D:=h.p;have S:=h.w;unfold wH Dd;rw[DM h.c,aj,bJ (by omega),aj,bJ (by omega),aj,aj]
theorem qa0(k:bB):xQ k=g' Ih\/(xQ k=g' Ml/\rS k):=by
 unfold xQ E8
 rcases Bd k.lc with e|⟨e,sh⟩
 ·grind
 rw[e,aj,AC];simp only[aB]
 by_cases h:70<Su k.ls.aX
 ·grind
 rw[aF (by omega),AC,aj]
 by_cases S:70<Su k.ls.k9
 ·grind
 rw[aF (by omega)];exact .inr ⟨rfl,sh,by omega,by omega⟩
def WB(x y v:Int):J (Int×Int):=(if 0<=x/\x≠v then [(x,v)]else [])++(if 0<=y/\y≠v then [(y,v)]else [])
theorem qc3{v:Int}{w UV:J Int}{L i:Int}{k c:Nat}{E:J _}(hk:k+2<=Su UV)(he:(Su E)+2<=1000000):
 au mc (v,w,L,i,0+k,2,c,2,0,UV,E)=g' (.next (w,L,M d5 (i+1),UV,E++WB UV[k]! UV[k+1]! v)):=by
 have hd:((UV.drop (0+k)).take 2).length=2:=by rw[KJ,D8];omega
 have g0:az ((UV.drop (0+k)).take 2) 0=g' UV[k]!:=by have:=aq ((UV.drop (0+k)).take 2) 0 (by omega);rw[rz (by omega),Cs]at this;simpa using this
 have g1:az ((UV.drop (0+k)).take 2) 1=g' UV[k+1]!:=by have:=aq ((UV.drop (0+k)).take 2) 1 (by omega);rw[rz (by omega),Cs]at this;simpa using this
 have s0:mc (v,w,L,i,0+k,2,c,2,0,UV,E)=g' (.next (v,w,L,i,0+k,2,c,2,1,UV,E++(if 0<=UV[k]!/\UV[k]!≠v then [(UV[k]!,v)]else []))):=by
  unfold mc;simp only[aA (show(0:Int)<2 by decide),ww,g0,aj,show M d5 ((0:Int)+1)=1 from by decide]
  by_cases a:0<=UV[k]!
  ·rw[aA a,ww]
   by_cases b:UV[k]! =v
   ·rw[aY b,AC,EQ (λh=>h.2 b),PP]
   rw[cC b,ww,Do ⟨a,b⟩,ba (by rw[Y];omega),aj]
  rw[aF a,AC,EQ (λh=>a h.1),PP]
 obtain⟨E1,hE⟩: ∃E1,E1=E++(if 0<=UV[k]!/\UV[k]!≠v then [(UV[k]!,v)]else []):=⟨_,rfl⟩;have l1:(Su E1)<=Su E+1:=by rw[hE,Sw];split<;>simp
 rw[<-hE]at s0;have s1:mc (v,w,L,i,0+k,2,c,2,1,UV,E1)=g' (.next (v,w,L,i,0+k,2,c,2,2,UV,E1++(if 0<=UV[k+1]!/\UV[k+1]!≠v then [(UV[k+1]!,v)]else []))):=by
  unfold mc;simp only[aA (show(1:Int)<2 by decide),ww,g1,aj,show M d5 ((1:Int)+1)=2 from by decide]
  by_cases a:0<=UV[k+1]!
  ·rw[aA a,ww]
   by_cases b:UV[k+1]! =v
   ·rw[aY b,AC,EQ (λh=>h.2 b),PP]
   rw[cC b,ww,Do ⟨a,b⟩,ba (by rw[Y];omega),aj]
  rw[aF a,AC,EQ (λh=>a h.1),PP]
 rw[aD s0,aD s1];refine ar ?_;unfold mc;simp;unfold WB
 grind
section
variable {f : J Pt} {t : Int × Int} {p w : J Int} (hr : Oh f t p w) (Ph : (Su p) <= 64) (ho : FG p)
include hr ho
theorem ahg{i:Nat}(N:i<Su w):WB (bV p w (2*i+1)) (bV p w (2*i+2)) w[i]! =(match Ed p w i with|some e=>[e]|none=>[]):=by
 have hw:=hr.2 i N;have ne:=λh=>Jr hr.1 hr.w5 ho N h
 have Zi:=fpS f t (bV p w (2*i+1)) (bV p w (2*i+2));unfold Ed;rw[hw];generalize X:bV p w _=x at ne Zi ⊢;generalize hy:bV p w _=y at ne Zi ⊢;unfold WB
 by_cases a1:x<0
 ·have:CG f t x y=y:=by unfold CG;rw[Do a1]
  rw[this,EQ (by omega),EQ (by omega),Do (.inl a1)];rfl
 by_cases a2:y<0
 ·have:CG f t x y=x:=by unfold CG;rw[EQ a1,Do a2]
  rw[this,EQ (by omega),EQ (by omega),Do (.inr a2)];rfl
 grind
include Ph
theorem qe5:AN ⟨p,w⟩=g' (kL p w):=by
 have I:=hr.1;have nd: ∀j,j<Su w+Su p->(w++p)[j]! =bV p w j:=λj hj=>by
  unfold bV
  grind
 have st:=bc (body:=vd) (λi=>(w,((Su w):Int),(i:Int),w++p,Aj p w i)) (Su w) (λi N=>by
  have k1:=sZ (i:=i) (by omega) 1 (by omega);have k3:M d5 ((M d5 (2*(i:Int)))+3)=((2*i+3:Nat):Int):=by rw[dN (n:=2*(i:Int)) ⟨by omega,by omega⟩,dN ⟨by omega,by omega⟩];omega
  have el:=HX p w i;unfold vd;simp (disch:=omega) only[aq w i N,show M d5 (M d5 (2*(i:Int))+1)=((2*i+1:Nat):Int)from k1,k3,Mi,show 2*i+3- (2*i+1)=2 by omega]
  grind[qc3,ahg,aN,FH])
 unfold AN;rw[show Y9 w p=g' (w++p)from by unfold Y9;grind];refine(st).trans (ar ?_);unfold vd;simp (disch:=omega) only[aF,];rfl
end
theorem qc4{c:aE}(ok:aV c){f:J Pt}(bj:aS f){p:J Int}(pl:yw f p):
 ∃R:bB×Int,eN c ⟨f⟩ p=g' R/\fX c ⟨f⟩ p=g' R/\(R.2=0/\Qd c f p R.1\/R=(Gy,18)):=by
 have D:=ajK bj ok.ie ok.cO pl.one pl.gX pl.ids pl.once;have g1:=abK bj ok.cO pl;have B:=eh (f:=f) (t:=c.io) pl.one;have e1:=qe5 B pl.gX pl.once;have eo:=FI B.1 pl.gX;obtain⟨R,r1,r2,r3⟩:=abL ok bj pl;rcases r3 with⟨q0,qq⟩|he
 ·refine⟨(⟨R.1,⟨p,cy f c.io p⟩⟩,0),?_,?_,.inl ⟨rfl,qq,rfl⟩⟩
  ·unfold eN
   grind
  unfold fX
  grind
 refine⟨(Gy,18),?_,?_,.inr rfl⟩
 ·unfold eN
  simp[D,e1,r1,he,];rfl
 unfold fX
 simp[g1,eo,r2,he,];rfl
theorem hm1{c:aE}(ok:aV c){lo N:Int}(hb:lK c.jp.am (lo,N))(h:rQ c.af.ii (lo,N)){to:Int×Int}(rt:bI to)(le: ¬jq to c.io<0)(kw: ¬Eo c to):
 ¬leads (bm c.jp.am lo) (bm c.jp.am N) to:=by
 obtain⟨w,w1,w2⟩:=h;have OS:=(bU ok.fD hb.2).1;have Y8:=(bU ok.fD hb.1).1;have wn:cf c.jp.am (c.af.ii[w]!).2 c.io=kg (bm c.jp.am N) (bm c.jp.am lo) c.io:=by unfold cf;rw[w2]
 refine RP OS Y8 ok.ie rt (by rw[rB]at le;omega) λis=>?_
 rw[<-wn]at is;obtain⟨d,hd,_,ev⟩:=ok.Gu.has _ (aJ w1) is;obtain⟨v,hv,he⟩:=aU.1 ev;have tl:=CB ok.oH v hv;have h0:0<(Su c.ae.bv):=by omega
 have e0:=(ok.oH.ev 0 h0).1.1;have Po:=(ok.oH.ev v hv).1.1;rw[he]at tl Po;rw[<-wn];have n1:=λq=>tl (.inl q)
 rw[rB]at n1;have n2: ¬jq _ to<=0:=λq=>kw ⟨h0,q⟩
 have n3:to.1*(Ev.at c.ae.bv[0]!).2<(Ev.at c.ae.bv[0]!).1*to.2:=by unfold jq at n2;rcases eJ ((Ev.at c.ae.bv[0]!).1*to.2) (to.1*(Ev.at c.ae.bv[0]!).2)with⟨a,b⟩|⟨a,b⟩|⟨a,b⟩<;>omega
 exact sj rt.1 e0 Po n3 (Int.not_lt.1 n1)
theorem qe6{c:aE}(ok:aV c){p:J Int}(pl:yw c.jp.am p)(ct: ∀e∈kL p (cy c.jp.am c.io p),rQ c.af.ii e){to:Int×Int}(rt:bI to)(le: ¬jq to c.io<0)(kw: ¬Eo c to):
 cy c.jp.am to p=cy c.jp.am c.io p:=by
 have R:=eh (f:=c.jp.am) (t:=c.io) pl.one;have qb1:=R.1;refine jnK (eh pl.one) ⟨R.1,λi N=>?_⟩;have wv:=R.2 i N;have ne:=Jr R.1 R.w5 pl.once N;have ix:=pl.ids _ (mA R.1 R.w5 (i:=2*i+1) (by omega));have c75:=pl.ids _ (mA R.1 R.w5 (i:=2*i+2) (by omega));have mem:=λe h=>ct e (HV.2 ⟨i,N,h⟩)
 unfold Ed at mem;rw[wv];rw[wv]at mem;generalize bV p _ _=x at*;generalize bV p _ _=y at*;unfold CG at*
 by_cases x0:x<0
 ·omega
 by_cases y0:y<0
 ·omega
 rw[EQ x0,EQ y0,EQ (by omega)]at mem;have X:=ix.has (by omega);have hy:=c75.has (by omega);have nxy:=ne (by omega)
 by_cases ld:leads (bm c.jp.am x) (bm c.jp.am y) c.io
 ·rw[Do ld]
  rw[Do ld,Do rfl]at mem;have st:=hm1 ok ⟨hy,X⟩ (mem _ rfl) rt le kw;rw[Do (oR to (by rw[(bU ok.fD X).2,(bU ok.fD hy).2];omega) st)]
 rw[EQ ld]
 rw[EQ ld,EQ (λh=>nxy h.symm)]at mem;have st:=hm1 ok ⟨X,hy⟩ (mem _ rfl) rt le kw;rw[EQ st]
def tP(c:aE)(p w:J Int)(to:Int×Int)(out:J (Int×Int)):=
 (c.io.1,c.io.2,c.jp.am,c.af.aO,c.af.ii,c.ae.ai.aC,c.ae.ai.be,c.ae.ai.bi,c.ae.bv,c.ae.ax,c.kw,p,w,to.1,to.2,(0:Int),(0:Int),(0:Int),out)
def tR(c:aE)(p w:J Int)(to:Int×Int)(out:J (Int×Int)):=
 (to.1,to.2,(0:Int),(0:Int),(0:Int),c.io.1,c.io.2,c.jp.am,c.af.aO,c.af.ii,c.ae.ai.aC,c.ae.ai.be,c.ae.ai.bi,c.ae.bv,c.ae.ax,c.kw,p,w,out)
theorem ad5(l:J Int)(x:Int)(I:(Su l)<=1000)(D:1<=Su l):au sd (l,l++[x])=g' (.done (l++[x]++If (Su l-1) (-1))):=by
 have key:=bc (body:=sd) (λj=>(l,l++[x]++If j _)) (Su l-1) (λj hj=>by unfold sd;have e:M d5 _=2*((Su l):Int):=dN ⟨by omega,by omega⟩;simp only[aB,Sw,Y,WF,];rw[aA (by omega),ww,ba (by simp;omega),aj,Pg _,<-SK]);rw[Sv,PP]at key;rw[key];refine ar ?_;unfold sd;have e:M d5 _=2*((Su l):Int):=dN ⟨by omega,by omega⟩
 grind
inductive OB(l:List Int)(x:Int):List Int->Prop
 |at_(k:Nat)(hk:k<Su l)(e:l[k]! = -1)(h: ∀j,j<k->l[j]!≠ -1)(N:dt l (-1)=g' (k:Int)):OB l x (l.set k x)
 |end_(h: ∀j,j<Su l->l[j]!≠ -1)(N:dt l (-1)=g' (-1)):OB l x (l++[x]++If (Su l-1) (-1))
theorem ahh{l:J Int}(D:1<=Su l)(I:(Su l)<=1000)(hr: ∀x∈l,-1<=x)(x:Int): ∃m,zY l x=g' m/\OB l x m:=by
 have neg: ∀j,j<Su l->(l[j]!<0↔l[j]! = -1):=λj hj=>by
  grind[aJ]
 unfold zY;rw[bJ (by omega),aj];have key:=jK (body:=xB) (λi=>(l,x,(i:Int),l)) (Su l) (λi=>l[i]!<0) (λi=>l.set i x) (e:=l++[x]++If (Su l-1) (-1)) (λi N=>by
  unfold xB;simp (disch:=omega) only[aq l i N,aN,cA]
  grind) (by
  unfold xB
  grind[ba,aj,ad5])
 have ix:=Jc l (-1) (by omega)
 by_cases h: ∃i,i<Su l/\l[i]!<0
 ·obtain⟨k,k1,k2,k3⟩:=least h
  have P5:=λj hj e=>k3 j hj ((neg j (by omega)).2 e)
  exact⟨_,key.1 k k1 k2 k3,.at_ k k1 ((neg k k1).1 k2) P5 (ix.1 k k1 ((neg k k1).1 k2) P5)⟩
 have h':=λi N X=>h ⟨i,N,X⟩
 have S:=λj hj e=>h' j hj ((neg j hj).2 e)
 exact⟨_,key.2 h',.end_ S (ix.2 S)⟩
theorem ahi{f:J Pt}{m:Nat}{p:Pt}{x:Int}(h:dZ f x):dZ (wX f m p) x:=by obtain⟨i,N,rfl⟩:=h;obtain⟨j,hj,e⟩:=aU.1 (LZ.2 (.inr (aJ N)));exact⟨j,hj,by rw[e]⟩
theorem abZ(f:J Pt)(m:Nat)(p:Pt):dZ (wX f m p) p.1:=by obtain⟨j,hj,e⟩:=aU.1 (LZ.2 (.inl rfl));exact⟨j,hj,by rw[e]⟩
theorem LG.ins{f:J Pt}{m:Nat}{p:Pt}{x:Int}(h:LG f x):LG (wX f m p) x:=h.imp id λh=>⟨h.1,ahi h.2⟩
theorem agj{f:J Pt}{l:J Int}(pl:yw f l){p:Pt}(F:0<=p.1)(agH: ¬dZ f p.1){m:Nat}(h32:(∀j,j<Su l->l[j]!≠ -1)->Su l<=32){q:J Int}(h:OB l p.1 q):yw (wX f m p) q:=by
 have one:=pl.one;have gX:=pl.gX;have ne: ∀j,j<Su l->l[j]!≠p.1:=λj hj e=>by
  rcases pl.ids _ (aJ hj)with h|h
  ·omega
  grind
 cases h with
 |at_ k hk e h N=>
  refine⟨by grind,by grind,λi j rE hj he=>?_,λx X=>?_⟩
  ·rw[Pc]at hj
   rw[bQ,bQ]at he;rw[bQ]
   by_cases a:i=k
   ·grind
   rw[EQ (λh=>a h.1)]at he ⊢
   by_cases b:j=k
   ·grind
   rw[EQ (λh=>b h.1)]at he
   exact pl.once i j rE hj he
  rcases List.mem_or_eq_of_mem_set X with h|h
  ·exact(pl.ids x h).ins
  subst h;exact .inr ⟨F,abZ f m p⟩
 |end_ h N=>
  have h32:=h32 h;have ll:(l++[p.1]++If (Su l-1) (-1:Int)).length=2*(Su l):=by
   grind
  have g1: ∀i,i<Su l->(l++[p.1]++If (Su l-1) (-1:Int))[i]! =l[i]!:=λi N=>by
   grind
  have g2:(l++[p.1]++If (Su l-1) (-1:Int))[Su l]! =p.1:=by simp
  have g3: ∀i,Su l<i->i<2*Su l->(l++[p.1]++If (Su l-1) (-1:Int))[i]! = -1:=λi D S=>by
   grind
  refine⟨by rw[ll];omega,by rw[ll];omega,λi j rE hj he=>?_,λx X=>?_⟩
  ·rw[ll]at hj
   rcases SG i (Su l)with a|a|a
   ·rw[g1 i a]at he ⊢
    rcases SG j (Su l)with b|b|b
    ·rw[g1 j b]at he;exact pl.once i j rE b he
    ·rw[b,g2]at he;exact absurd he (ne i a)
    rw[g3 j b hj]at he;omega
   ·rw[a,g2,g3 j (by omega) hj]at he;omega
   grind
  rcases YJ.1 X with X|X
  ·rcases YJ.1 X with X|X
   ·exact(pl.ids x X).ins
   obtain rfl:=List.mem_singleton.1 X
   exact .inr ⟨F,abZ f m p⟩
  exact .inl (KL.1 X).2
theorem pf.aX{k:bB}(ok:pf k):yw k.lc.jp.am k.ls.aX:=Al ok.br ok.perm
theorem R5{k:bB}(ok:pf k)(iY:(Su k.lc.jp.am)<64)(h: ∀j,j<Su k.ls.aX->k.ls.aX[j]!≠ -1):(Su k.ls.aX)<=32:=by
 have all:=Ov λx X=>by
  obtain⟨j,hj,rfl⟩:=aU.1 X;have:=h j hj;rcases ok.aX.ids _ (aJ hj)with e|e
  ·omega
  exact e.1
 have e:=ok.perm.length_eq;rw[all,w9]at e;obtain⟨i,N,hp⟩:=ok.pow;have:i<=5:=by
  grind
 have:=SJ (show 0<2 by omega) this;omega
section
variable {k : bB} (n : ze k.lc) (sh : rS k)
include n sh
end
theorem agk(l m:J Int)(I:(Su l)<=1000)(hm:(Su m)<=(Su l) / 2):au lH (l,m)=g' (.done (m++If ((Su l) / 2-(Su m)) (-1))):=by
 have e:M d5 (Int.tdiv ((Su l):Int) 2)=(((Su l) / 2:Nat):Int):=by rw[SH (by omega),dN ⟨by omega,by omega⟩];omega
 have key:=bc (body:=lH) (λj=>(l,m++If j _)) ((Su l) / 2-(Su m)) (λj hj=>by unfold lH;simp only[aB,Sw,WF,];rw[aA (by omega),ww,ba (by simp;omega),aj,Pg,<-SK]);rw[Sv,PP]at key;rw[key];refine ar ?_;unfold lH
 grind
def Hc(l:J Int)(k:Nat):J Int:=
 if 1<Su l/\4*(dS (l.set k (-1))).length<=(Su l)then dS (l.set k (-1))++If ((Su l) / 2- (dS (l.set k (-1))).length) (-1)else l.set k (-1)
theorem qa5{l:J Int}(I:(Su l)<=64)(ho:FG l){k:Nat}(hk:k<Su l)(h0:0<=l[k]!):sf l l[k]! =g' (Hc l k):=by
 obtain⟨q,hq⟩: ∃q,q=l.set k (-1):=⟨_,rfl⟩;have ql:(Su q)=(Su l):=by grind
 have qb: ∀i,i<Su l->q[i]! =if l[i]! =l[k]! then -1 else l[i]!:=λi N=>by
  rw[hq,bQ]
  by_cases a:i=k
  ·grind
  rw[EQ (λh=>a h.1),EQ (λe=>a (ho.inj N hk e (by rw[e];exact h0)))]
 have st:=bc (body:=lI) (λi=>(l,l[k]!,(i:Int),q.take i,dS (q.take i))) (Su l) (λi N=>by
  have el:=ajL q i;have tl:(q.take i).length<=i:=by grind
  rw[pS (by omega),cB (by omega),qb i N];unfold lI;simp (disch:=omega) only[aB,aA,ww,aq l i N,aj,aN]
  by_cases a:l[i]! =l[k]!
  ·rw[ju a,ww,ba (by grind),aj,Do a,EQ (by decide),PP]
  rw[hO a,AC,ba (by rw[Y];omega),aj,EQ a]
  by_cases b:0<=l[i]!
  ·rw[aA b,ww,ba (by rw[Y];omega),aj,Do b]
  grind)
 unfold sf;have st:au lI (l,l[k]!,0,[],[])=_:=st;rw[st];have qd4:q.take (Su l)=q:=by grind
 rw[qd4];have il:(dS q).length<=(Su l):=by have:=YH (λx:Int=>decide (0<=x)) q;unfold dS;omega
 have body:lI (l,l[k]!,((Su l):Int),q,dS q)=if 1<Su l/\4*(dS q).length<=(Su l)then au lH (l,dS q)else g' (.done q):=by
  unfold lI;simp (disch:=omega) only[aB,dN (n:=4*((dS q).length:Int)) ⟨by omega,by omega⟩]
  grind
 unfold Hc;rw[<-hq];split
 ·rename_i h
  rw[Do h]at body
  grind[ar,agk]
 rename_i h
 rw[EQ h]at body;exact ar body
theorem hca(m:Nat)(D:1<=m)(S:m<=32):m8 [-1] (m:Int)=g' (If m (-1)):=by
 obtain⟨j,rfl⟩: ∃j,m=j+1:=⟨m-1,by omega⟩;have all:((Vf 32).all λj=>match tH mZ 20 (1,-1::If j 0)with|some l=>l==If (j+1) (-1)|none=>Ml)=Ih:=by kernel_rfl
 have main:au mZ (1,-1::If j 0)=g' (If (j+1) (-1)):=A5.2 ⟨20,by
  grind⟩
 refine Eq.trans ?_ main;have go:M .u64 _=((j+1:Nat):Int)->iW (M .u64 (IR ([-1]:J Int).length)) (M .u64 ((j+1:Nat):Int))=g' _:=λh=>by rw[show M .u64 _=1 from by kernel_rfl,h,IX ⟨by decide,by decide⟩ ⟨by omega,by omega⟩,Int.one_mul,Int.ediv_eq_zero_of_lt (by omega) (by omega),Int.emod_eq_of_lt (by omega) (by omega)]
 have:j=0\/j=1\/j=2\/j=3\/j=4\/j=5\/j=6\/j=7\/j=8\/j=9\/j=10\/j=11\/j=12\/j=13\/j=14\/j=15\/j=16\/j=17\/j=18\/j=19\/j=20\/j=21\/j=22\/j=23\/j=24\/j=25\/j=26\/j=27\/j=28\/j=29\/j=30\/j=31:=by omega
 rcases this with rfl|rfl|rfl|rfl|rfl|rfl|rfl|rfl|rfl|rfl|rfl|rfl|rfl|rfl|rfl|rfl|rfl|rfl|rfl|rfl|rfl|rfl|rfl|rfl|rfl|rfl|rfl|rfl|rfl|rfl|rfl|rfl<;>(rfl)
theorem aak{l:J Int}{k:Nat}(hk:k<Su l)(h0:0<=l[k]!):(dS (l.set k (-1))).length+1=(dS l).length:=by
 have e1:l=l.take k++l[k]!::l.drop (k+1):=by simp_all
 have f1:(dS l).length=((l.take k).filter λx=>decide (0<=x)).length+(((l.drop (k+1)).filter λx=>decide (0<=x)).length+1):=by
  unfold dS
  grind
 have f2:(dS (l.set k (-1))).length=((l.take k).filter λx=>decide (0<=x)).length+((l.drop (k+1)).filter λx=>decide (0<=x)).length:=by
  unfold dS
  grind
 omega
theorem aal{f:J Pt}(hs:fQ f){q:Nat}(hq:q<Su f){x:Int}(h:dZ f x)(fk:x≠(f[q]!).1):dZ (f.eraseIdx q) x:=by obtain⟨i,N,rfl⟩:=h;obtain⟨j,hj,e⟩:=aU.1 ((Gw hs hq).2 ⟨aJ N,fk⟩);exact⟨j,hj,by rw[e]⟩
theorem agl{f f':J Pt}{l:J Int}(pl:yw f l){k:Nat}(hk:k<Su l)(h0:0<=l[k]!)(has: ∀x,dZ f x->x≠l[k]!->dZ f' x):yw f' (l.set k (-1)):=by
 refine⟨by grind,by rw[Pc];exact pl.gX,λi j rE hj he=>?_,λx X=>?_⟩
 ·rw[Pc]at hj
  rw[bQ,bQ]at he;rw[bQ]
  by_cases a:i=k
  ·omega
  rw[EQ (λh=>a h.1)]at he ⊢
  by_cases b:j=k
  ·omega
  rw[EQ (λh=>b h.1)]at he;exact pl.once i j rE hj he
 obtain⟨i,N,rfl⟩:=aU.1 X
 rw[Pc]at N;rw[bQ]
 by_cases a:i=k
 ·rw[Do ⟨a,by omega⟩];exact .inl rfl
 rw[EQ (λh=>a h.1)]
 refine(pl.ids _ (aJ N)).imp id λh=>⟨h.1,has _ h.2 λe=>a (pl.once.inj N hk e h.1)⟩
theorem agm{f f':J Pt}{l:J Int}(pl:yw f l){k:Nat}(hk:k<Su l)(h0:0<=l[k]!)(has: ∀x,dZ f x->x≠l[k]!->dZ f' x):yw f' (Hc l k):=by
 have sp:=agl pl hk h0 has;unfold Hc;split
 ·rename_i h
  have nd:=H3 sp.once;have gX:=pl.gX;obtain⟨A,hA⟩: ∃A,A=dS (l.set k (-1)):=⟨_,rfl⟩;rw[<-hA]at h nd ⊢;have c82: ∀x∈A,0<=x:=λx X=>(oG.1 (hA▸X)).2
  have ll:(A++If ((Su l) / 2-(Su A)) (-1:Int)).length=(Su l) / 2:=by
   grind
  have g3: ∀i,Su A<=i->i<(Su l) / 2->(A++If ((Su l) / 2-(Su A)) (-1:Int))[i]! = -1:=λi D S=>by
   grind
  refine⟨by rw[ll];omega,by rw[ll];omega,λi j rE hj he=>?_,λx X=>?_⟩
  ·rw[ll]at hj
   by_cases a:i<Su A
   ·rw[jx a]at he ⊢
    by_cases b:j<Su A
    ·rw[jx b]at he
     have:=(Mp.1 nd) i j a b rE;rw[getElem!_pos A i a,getElem!_pos A j b]at he;exact absurd he this
    rw[g3 j (by omega) hj]at he
    have:=c82 _ (aJ a);omega
   grind
  rcases YJ.1 X with X|X
  ·exact sp.ids x (oG.1 (hA▸X)).1
  exact .inl (KL.1 X).2
 exact sp
theorem agn:ff=cW:=rfl
section
variable {k : bB} (n : ze k.lc) (sh : rS k)
include n sh
end
theorem hmp{f:J Pt}(bj:aS f){t:Int×Int}{p:J Int}(pl:yw f p):R0 p (cy f t p):=by have R:=eh (f:=f) (t:=t) pl.one;refine⟨pl.one,pl.gX,R.1,pl.once,pl.Wm bj,R.w5,λi N h=>?_⟩;rw[R.2 i N]at h;unfold CG at h;omega
structure azP(R:bB)(W7:List Pt)(P:List Int)(t:Int×Int):Prop where
 ok:pf R
 fD:R.lc.jp.am=W7
 io:R.lc.io=t
 pls:R.ls.aX=P
theorem c2' {f:J Pt} {p:J Int} (bj:aS f) (pl:yw f p) (h: ∀x,dZ f x->x∈p):(fa f).Perm (dS p):=
 (List.perm_ext_iff_of_nodup (eX bj.2.2) (H3 pl.once)).2 fun x=>⟨fun X=>by
  have hp:=dL.1 X;obtain ⟨i,N,e⟩:=hp;have:=bj.2.1 _ (aJ N);unfold gO at this;exact oG.2 ⟨h x ⟨i,N,e⟩,by omega⟩,fun X=>by
  obtain ⟨D,S⟩:=oG.1 X;exact dL.2 ((pl.ids x D).has S)⟩
theorem Qd.azQ{c:aE}(ok:aV c){f:J Pt}(bj:aS f){p:J Int}(pl:yw f p)(pw:HZ (Su p))(pm:(fa f).Perm (dS p)){k:bB}(h:Qd c f p k):azP k f p c.io:=by have q:=h.tj;have b:=h.aX;obtain⟨_,nd,_⟩:=qY bj ok.cO pl;refine⟨⟨q.ok,by grind[hmp],by rw[b];exact pw,by rw[q.fD,b];exact pm,by rw[b,q.fD,q.io],?_⟩,q.fD,q.io,by rw[b]⟩;rw[b];exact uv (jQ q.ok.vX) nd (λz hz=>by obtain⟨y,hy,rfl⟩:=Ii.1 hz;exact q.sub y hy) (λz hz=>dY.1 (q.has z hz))
theorem OB.mem{l q:J Int}{x:Int}(h:OB l x q):x∈q/\ ∀y∈l,0<=y->y∈q:=by
 cases h with
 |at_ k hk e _ _=>
  refine⟨List.mem_set hk x,λy hy h0=>?_⟩;obtain⟨i,N,rfl⟩:=aU.1 hy;have g:=bQ l k i x
  grind
 |end_ _ _=>grind
theorem ad6{n:Nat}(h:HZ n)(D:1<n):HZ (n / 2):=by
 obtain⟨i,N,rfl⟩:=h;cases i with
 |zero=>omega
 |succ i=>exact⟨i,by omega,by omega⟩
theorem ahj{n:Nat}(h:HZ n)(D:n<=32):HZ (2*n):=by
 obtain⟨i,N,rfl⟩:=h;refine⟨i+1,?_,(hut i).symm⟩
 grind
theorem ad7{l q:J Int}{x:Int}(D:1<=Su l)(h:OB l x q):(Su q=Su l/\ ∃k,k<Su l/\l[k]! = -1)\/(Su q=2*Su l/\ ∀j,j<Su l->l[j]!≠ -1):=by
 cases h with
 |at_ k hk e _ _=>grind
 |end_ h _=>grind
theorem ad8{l:J Int}{j:Nat}:(Hc l j).length=if 1<Su l/\4*(dS (l.set j (-1))).length<=(Su l)then(Su l) / 2 else(Su l):=by
 unfold Hc
 grind
theorem ad9{l:J Int}{j:Nat}{x:Int}(X:x∈l)(h0:0<=x)(fk:x≠l[j]!):x∈Hc l j:=by
 have a:x∈l.set j (-1):=by
  obtain⟨i,N,rfl⟩:=aU.1 X;have g:=bQ l j i (-1)
  grind
 unfold Hc;split
 ·exact List.mem_append_left _ (oG.2 ⟨a,h0⟩)
 exact a
section
variable {k : bB} (ok : pf k) (sh : rS k)
include ok sh
theorem R6:gZ k=g' 0:=by rw[yx ok.fI.fit sh.p sh.w,Do ok]
theorem R7:ir k=g' 0:=by rw[Am ok.fI.fit sh.p sh.w,Do ok]
end
abbrev noG:bE:=⟨cE,[]⟩
structure azR(R:bE)(W7:List Pt)(t:Int×Int):Prop where
 ok:gC R
 fD:R.lc.jp.am=W7
 io:R.lc.io=t
theorem T4.hg{c:aE}{f:J Pt}{R:bE×Int}(bj:aS f)(h:T4 c f R):azR R.1 f c.io:=⟨h.ok bj,h.tj.fD,h.tj.io⟩
theorem ago{c:aE}(ok:aV c)(ct: ∀e∈fU c.jp.am (wg c.jp.am c.io) (Su c.jp.am),rQ c.af.ii e){to:Int×Int}(rt:bI to)(le: ¬jq to c.io<0)(kw: ¬Eo c to):wg c.jp.am to=wg c.jp.am c.io:=by
 obtain⟨En,_,ld⟩:=CD ok.fD;refine aab ok.fD λe he=>?_
 have kn:=En.kn e he;have p1:=bU ok.fD kn.1;have p2:=bU ok.fD kn.2;obtain⟨w,w1,w2⟩:=ct _ he;have wn:cf c.jp.am (c.af.ii[w]!).2 c.io=kg (bm c.jp.am e.2) (bm c.jp.am e.1) c.io:=by unfold cf;rw[w2]
 have nl: ¬leads (bm c.jp.am e.1) (bm c.jp.am e.2) to:=by
  refine RP p2.1 p1.1 ok.ie rt (by rw[rB]at le;omega) λis=>?_
  rw[<-wn]at is;obtain⟨d,hd,_,ev⟩:=ok.Gu.has _ (aJ w1) is;obtain⟨v,hv,he⟩:=aU.1 ev;have tl:=CB ok.oH v hv;have h0:0<(Su c.ae.bv):=by omega
  have e0:=(ok.oH.ev 0 h0).1.1;have Po:=(ok.oH.ev v hv).1.1;rw[he]at tl Po;rw[<-wn];have n1:=λq=>tl (.inl q)
  rw[rB]at n1;have n2: ¬jq _ to<=0:=λq=>kw ⟨h0,q⟩
  have n3:to.1*(Ev.at c.ae.bv[0]!).2<(Ev.at c.ae.bv[0]!).1*to.2:=by unfold jq at n2;rcases eJ ((Ev.at c.ae.bv[0]!).1*to.2) (to.1*(Ev.at c.ae.bv[0]!).2)with⟨a,b⟩|⟨a,b⟩|⟨a,b⟩<;>omega
  exact sj rt.1 e0 Po n3 (Int.not_lt.1 n1)
 grind[oR,yd]
def gP(c:aE)(U:J Int)(to:Int×Int)(out:J (Int×Int)):=
 (c.io.1,c.io.2,c.jp.am,c.af.aO,c.af.ii,c.ae.ai.aC,c.ae.ai.be,c.ae.ai.bi,c.ae.bv,c.ae.ax,c.kw,U,to.1,to.2,(0:Int),(0:Int),(0:Int),out)
def gR(c:aE)(U:J Int)(to:Int×Int)(out:J (Int×Int)):=
 (to.1,to.2,(0:Int),(0:Int),(0:Int),c.io.1,c.io.2,c.jp.am,c.af.aO,c.af.ii,c.ae.ai.aC,c.ae.ai.be,c.ae.ai.bi,c.ae.bv,c.ae.ax,c.kw,U,out)
theorem qd2{k:bE}(h:BS k):zJ k=g' k:=by have hn:=h.n;unfold zJ;rw[DM h.c,aj,bJ (by omega),aj]
theorem Jw(l:J Int):fW l []=g' Ml\/(fW l []=g' Ih/\l=[]):=by
 cases l with
 |nil=>exact .inr ⟨ar rfl,rfl⟩
 |cons x l=>left;rfl
theorem hz0(l:J Int):jH l []=g' Ml\/(jH l []=g' Ih/\l=[]):=by
 cases l with
 |nil=>exact .inr ⟨ar rfl,rfl⟩
 |cons x l=>left;rfl
theorem qb5(l:J Bool):mI l []=g' Ml\/(mI l []=g' Ih/\l=[]):=by
 cases l with
 |nil=>exact .inr ⟨ar rfl,rfl⟩
 |cons x l=>left;rfl
theorem qd3(f:Field):sQ f ⟨[]⟩=g' Ml\/(sQ f ⟨[]⟩=g' Ih/\f=⟨[]⟩):=by
 obtain⟨l⟩:=f;cases l with
 |nil=>exact .inr ⟨ar rfl,rfl⟩
 |cons x l=>left;rfl
theorem acV(c:bA):sR c ⟨0,[]⟩=g' Ml\/(sR c ⟨0,[]⟩=g' Ih/\c=⟨0,[]⟩):=by
 obtain⟨n,l⟩:=c;unfold sR
 by_cases h:n=0
 ·subst h
  cases l with
  |nil=>exact .inr ⟨ar rfl,rfl⟩
  |cons x l=>grind
 grind
theorem akB(c:bg):wP c ⟨[],[],[]⟩=g' Ml\/(wP c ⟨[],[],[]⟩=g' Ih/\c=⟨[],[],[]⟩):=by
 obtain⟨a,b,d⟩:=c;unfold wP
 grind[qb5,hz0]
theorem akC(c:aM):sU c ⟨⟨[],[],[]⟩,[],[]⟩=g' Ml\/(sU c ⟨⟨[],[],[]⟩,[],[]⟩=g' Ih/\c=⟨⟨[],[],[]⟩,[],[]⟩):=by
 obtain⟨s,h,w⟩:=c;unfold sU;rcases akB s with e|⟨e,rfl⟩
 ·grind
 rw[e,aj,NE,AC];rcases hz0 w with e|⟨e,rfl⟩
 ·grind
 rw[e,aj,NE,AC];cases h with
 |nil=>exact .inr ⟨ar rfl,rfl⟩
 |cons x l=>grind
theorem D0(c:aE):nC c cE=g' Ml\/(nC c cE=g' Ih/\c=cE):=by
 obtain⟨⟨a,b⟩,f,cs,ag,du⟩:=c;unfold nC
 by_cases h:a=0/\b=0
 case neg=>
  grind
 obtain⟨rfl,rfl⟩:=h;rcases qd3 f with e|⟨e,rfl⟩
 ·grind
 rw[e,aj,NE,AC];rcases acV cs with e|⟨e,rfl⟩
 ·grind
 rw[e,aj,NE,AC];rcases akC ag with e|⟨e,rfl⟩
 ·grind
 rw[e,aj,NE,AC];cases du with
 |nil=>exact .inr ⟨ar rfl,rfl⟩
 |cons x l=>
  grind
abbrev jr:bB:=⟨cE,⟨[],[]⟩⟩
abbrev kM:bq:=⟨cE,⟨0,[]⟩⟩
abbrev jc:bE:=⟨cE,[]⟩
theorem qc7(k:bB):kH k jr=g' Ml\/(kH k jr=g' Ih/\k=jr):=by
 obtain⟨c,⟨p,w⟩⟩:=k;unfold kH jr;rcases D0 c with e|⟨e,rfl⟩
 ·rw[e];exact .inl rfl
 rw[e,aj,ww];unfold Dt;rcases Jw p with e|⟨e,rfl⟩
 ·rw[e];exact .inl rfl
 simp_all[Jw]
theorem afQ(k:bq):kI k kM=g' Ml\/(kI k kM=g' Ih/\k=kM):=by
 obtain⟨c,⟨r,n⟩⟩:=k;unfold kI kM;rcases D0 c with e|⟨e,rfl⟩
 ·grind
 rw[e,aj,ww];unfold ud
 by_cases h:r=0
 case neg=>grind
 subst h;cases n with
 |nil=>exact .inr ⟨by rw[show(IR _ !=IR _)=Ml from rfl,AC,ar rfl];rfl,rfl⟩
 |cons x l=>grind
theorem afS(k:bE):kJ k jc=g' Ml\/(kJ k jc=g' Ih/\k=jc):=by
 obtain⟨c,u⟩:=k;unfold kJ jc
 grind[D0,Jw]
def KF(t:Int×Int):Prop:=bI t/\ -1073741824<=t.1/\t.1<=1073741824/\t.2<=1024
theorem c1'{t:Int×Int}(h:jo t): ∃e,qL t=g' e/\(e=0->KF t):=by
 unfold qL;rw[jL h]
 by_cases r:bI t
 case neg=>simp_all
 rw[Do r,aj,aY rfl,AC]
 by_cases a:1073741824<t.1
 ·simp_all
 rw[aF a,AC]
 by_cases b:t.1< -1073741824
 ·simp_all
 rw[aF b,AC]
 by_cases d:1024<t.2
 ·simp_all
 rw[aF d];exact⟨0,rfl,λ_=>⟨r,by omega,by omega,by omega⟩⟩
theorem pbx{t:Int×Int}(h:jo t)(r:bI t):oN t=g' 2\/(oN t=g' 0/\KF t):=by
 unfold oN;rw[bR h,Do r,aj,aY rfl,AC,o6 h.1,aj]
 by_cases a:1073741824<(t.1.natAbs:Int)
 ·grind
 rw[aF a,AC]
 by_cases d:1024<t.2
 ·grind
 rw[aF d];exact .inr ⟨rfl,r,by omega,by omega,by omega⟩
theorem OC{t:Int×Int}(h:jo t)(a:KF t):oN t=g' 0:=by unfold oN;obtain⟨r,a1,a2,a3⟩:=a;rw[bR h,Do r,aj,aY rfl,AC,o6 h.1,aj,aF (by omega),AC,aF (by omega)];rfl
theorem Jy(c:aE): ∃b,gK c=g' b:=by
 unfold gK;cases(c.io.1==0)&&(c.io.2==0)with
 |false=>simp
 |true=>
  cases c.af.aO==0 with
  |false=>simp
  |true=>simp
abbrev js:bD:=⟨cE,[]⟩
theorem aam(k:bD):kF k js=g' Ml\/(kF k js=g' Ih/\k=js):=by
 obtain⟨c,u⟩:=k;unfold kF js
 grind[D0,Jw]
inductive VC:Choice->aE->Prop
 |hp{k:bD}(ok:iC k)(a:KF k.lc.io):VC ⟨1,k,jr,kM,jc⟩ k.lc
 |tn{k:bB}(ok:pf k)(a:KF k.lc.io):VC ⟨2,js,k,kM,jc⟩ k.lc
 |ht{k:bq}(ok:gV k)(a:KF k.lc.io):VC ⟨3,js,jr,k,jc⟩ k.lc
 |hg{k:bE}(ok:gC k)(a:KF k.lc.io):VC ⟨4,js,jr,kM,k⟩ k.lc
theorem pf.sh{k:bB}(ok:pf k):rS k:=by have:=ok.br.gX;have h:=(eh (f:=k.lc.jp.am) (t:=k.lc.io) ok.br.one).1;refine⟨ok.fI.short,by omega,?_⟩;rw[ok.right];omega
theorem gV.sh{k:bq}(ok:gV k):BQ k:=⟨ok.fI.short,by have:=ok.ut.len;have:=ok.fI.fD.1;omega⟩
theorem gC.sh{k:bE}(ok:gC k):BS k:=⟨ok.fI.short,by rw[<-ok.up,DU];have:=ok.fI.fD.1;omega⟩
theorem iC.Hl{k:bD}(ok:iC k):jA k=g' 0/\iq k=g' 0:=by have:=ok.bd;rw[qV ok.fI.fit (by omega),Ac ok.fI.fit (by omega),Do ok];simp
theorem pf.Hl{k:bB}(ok:pf k):gZ k=g' 0/\ir k=g' 0:=by rw[yx ok.fI.fit ok.sh.p ok.sh.w,Am ok.fI.fit ok.sh.p ok.sh.w,Do ok];simp
theorem gV.Hl{k:bq}(ok:gV k):hI k=g' 0/\iu k=g' 0:=by rw[yt ok.fI.fit,Ag ok.fI.fit,Do ok];simp
theorem gC.Hl{k:bE}(ok:gC k):hJ k=g' 0/\iv k=g' 0:=by rw[yu ok.fI.fit,Ai ok.fI.fit,Do ok];simp
theorem ab3{t:Int×Int}(h:jo t)(a:KF t):qL t=g' 0:=by unfold qL;obtain⟨r,a1,a2,a3⟩:=a;rw[jL h,Do r,aj,aY rfl,AC,aF (by omega),AC,aF (by omega),AC,aF (by omega)];rfl
theorem ab4:kF js kS.bv=g' Ih/\kH jr kS.dd=g' Ih/\kI kM kS.bW=g' Ih/\kJ jc kS.bN=g' Ih:=
 ⟨Kw nI (YG _),H4 hx',FC ⟨nI,YG _⟩,FF ⟨nI,YG _⟩⟩
theorem aly{c:Choice}{q:aE}(n:jo q.io)(a:KF q.io)(hc:rl c=g' q):TI c 0=g' (.done 0):=by unfold TI;rw[aY rfl,AC,hc,aj,OC n a];rfl
theorem alz{c:Choice}{q:aE}(n:jo q.io)(a:KF q.io)(hc:fv c=g' q):ZO c 0=g' 0:=by unfold ZO;rw[aY rfl,AC,hc,aj,ab3 n a];rfl
section
variable {c : Choice} {q : aE} (v : VC c q)
include v
theorem VC.fI:aV q:=by cases v with|hp ok|tn ok|ht ok|hg ok=>exact ok.fI
theorem VC.ask:KF q.io:=by cases v with|hp ok a|tn ok a|ht ok a|hg ok a=>exact a
theorem VC.lc:rl c=g' q/\fv c=g' q:=by cases v<;>exact⟨rfl,rfl⟩
theorem VC.Hl:iN c=g' 0:=by
 have e:=aly v.fI.cO v.ask v.lc.1;cases v with
 | @hp k ok a=>
  have loop: ∀u,au ck (u,Ml,Ml,Ml,0,cZ (⟨1,k,jr,kM,jc⟩:Choice) [])=g' 0:=λu=>by rw[aD (show ck _=g' (.next (u,Ml,Ml,Ml,1,cZ (⟨1,k,jr,kM,jc⟩:Choice) [])) by cases u<;>rfl),aD (rfl),aD (rfl),aD (rfl)];refine ar ?_;show(jA k).bind (λn=>TI ⟨1,k,jr,kM,jc⟩ n)=_;rw[ok.Hl.1];exact e
  obtain⟨z,hz⟩:=Jy k.lc;show(gK k.lc).bind _=_;rw[hz];cases z<;>exact loop _
 | @tn k ok a=>
  have loop: ∀u,au ck (Ml,u,Ml,Ml,0,cZ (⟨2,js,k,kM,jc⟩:Choice) [])=g' 0:=λu=>by rw[aD (rfl),aD (show ck _=g' (.next (Ml,u,Ml,Ml,2,cZ (⟨2,js,k,kM,jc⟩:Choice) [])) by cases u<;>rfl),aD (rfl),aD (rfl)];refine ar ?_;show(gZ k).bind (λn=>TI ⟨2,js,k,kM,jc⟩ n)=_;rw[ok.Hl.1];exact e
  obtain⟨z,hz⟩:=Jy k.lc;show(gK k.lc).bind _=_;rw[hz];cases z<;>exact loop _
 | @ht k ok a=>
  have loop: ∀u,au ck (Ml,Ml,u,Ml,0,cZ (⟨3,js,jr,k,jc⟩:Choice) [])=g' 0:=λu=>by rw[aD (rfl),aD (rfl),aD (show ck _=g' (.next (Ml,Ml,u,Ml,3,cZ (⟨3,js,jr,k,jc⟩:Choice) [])) by cases u<;>rfl),aD (rfl)];refine ar ?_;show(hI k).bind (λn=>TI ⟨3,js,jr,k,jc⟩ n)=_;rw[ok.Hl.1];exact e
  obtain⟨z,hz⟩:=Jy k.lc;show(gK k.lc).bind (λz=>bif !z then Vs ⟨3,js,jr,k,jc⟩ Ml Ml Ih else bif k.ut.lw !=0 then Vs ⟨3,js,jr,k,jc⟩ Ml Ml Ih else Vs ⟨3,js,jr,k,jc⟩ Ml Ml _)=_;rw[hz,aj];have l4: ∀u,Vs ⟨3,js,jr,k,jc⟩ Ml Ml u=g' 0:=λu=>loop u
  rw[l4,l4];simp
 | @hg k ok a=>
  have loop: ∀u,au ck (Ml,Ml,Ml,u,0,cZ (⟨4,js,jr,kM,k⟩:Choice) k.up)=g' 0:=λu=>by rw[aD (rfl),aD (rfl),aD (rfl),aD (show ck _=g' (.next (Ml,Ml,Ml,u,4,cZ (⟨4,js,jr,kM,k⟩:Choice) k.up)) by cases u<;>rfl)];refine ar ?_;show(hJ k).bind (λn=>TI ⟨4,js,jr,kM,k⟩ n)=_;rw[ok.Hl.1];exact e
  obtain⟨z,hz⟩:=Jy k.lc;show(gK k.lc).bind (λz=>bif !z then au ck (Ml,Ml,Ml,Ih,0,cZ (⟨4,js,jr,kM,k⟩:Choice) k.up)else au ck (Ml,Ml,Ml,KO (0<(IR (Su k.up))),0,cZ (⟨4,js,jr,kM,k⟩:Choice) k.up))=_;rw[hz,aj,loop,loop];cases z<;>rfl
theorem VC.T5:eg c=g' 0:=by
 have e:=alz v.fI.cO v.ask v.lc.2;obtain⟨s0,s1,s2,s3⟩:=ab4;unfold eg Tw XN Tx XY;cases v with
 |hp ok=>simp[s1,s2,s3,ok.Hl.2,];exact e
 |tn ok=>simp[s0,s2,s3,ok.Hl.2,];exact e
 |ht ok=>simp[s0,s1,s3,ok.Hl.2,];exact e
 |hg ok=>simp[s0,s1,s2,ok.Hl.2,];exact e
theorem VC.io:wN c=g' (q.io,⟨q.jp.am⟩,0):=by have:=v.fI.fD.1;unfold wN;rw[v.Hl,aj,aY rfl,AC,v.lc.1,aj,bJ (by omega),aj]
theorem VC.am:ot c=g' ((Su q.jp.am):Int):=by unfold ot;rw[v.io,aj];rfl
theorem VC.next:o3 c=g' q.af.aO:=by have n0:=v.fI.vX.n0;have n1:=v.fI.vX.n1;have w:=dN (n:=q.af.aO) ⟨by omega,by omega⟩;unfold o3;cases v<;>simp[w,show M d5 0=0 from rfl]
theorem VC.same:jm c c=g' Ih:=by
 obtain⟨s0,s1,s2,s3⟩:=ab4;have s0:kF js js=_:=s0;have s1:kH jr jr=_:=s1;have s2:kI kM kM=_:=s2;have s3:kJ jc jc=_:=s3;unfold jm;cases v with
 |hp ok=>rw[Kw ok.fI.short (by have:=ok.bd;omega),aj,ww,s1,aj,ww,s2,aj,ww,s3];rfl
 |tn ok=>rw[s0,aj,ww,H4 ok.sh,aj,ww,s2,aj,ww,s3];rfl
 |ht ok=>rw[s0,aj,ww,s1,aj,ww,FC ok.sh,aj,ww,s3];rfl
 |hg ok=>rw[s0,aj,ww,s1,aj,ww,s2,aj,ww,FF ok.sh];rfl
end
theorem aeb{c:Choice}(n1:ze c.bv.lc)(n2:ze c.dd.lc)(n3:ze c.bW.lc)(n4:ze c.bN.lc)(D:uu c.bv.lc/\Su c.bv.bv<=70)(S:rS c.dd)(h3:BQ c.bW)(h4:BS c.bN):
 eg c=g' 8\/ ∃q,VC c q:=by
 obtain⟨v6,K,T,H,G⟩:=c;have fit: ∀{x:aE},ze x->uu x->nm x:=λn sh=>⟨n.io,⟨sh.s3,sh.h,sh.w,n.Wr⟩,sh.d⟩
 have XD: ∀{c:Choice} {q:aE},jo q.io->fv c=g' q->ZO c 8=g' 8/\(ZO c 0=g' 8\/KF q.io):=λ{c q} n hc=>by
  refine⟨rfl,?_⟩;obtain⟨e,e1,e2⟩:=c1' n;unfold ZO
  grind
 have k1:v6≠1->eg ⟨v6,K,T,H,G⟩=g' 8\/K=js/\eg ⟨v6,K,T,H,G⟩=Tw ⟨v6,K,T,H,G⟩:=λh=>by
  unfold eg;rw[cC h,ww];rcases aam K with e|⟨e,rfl⟩
  ·left;rw[show kF _ kS.bv=_ from e];rfl
  right;rw[show kF _ kS.bv=_ from e];simp
 have k2:v6≠2->Tw ⟨v6,K,T,H,G⟩=g' 8\/T=jr/\Tw ⟨v6,K,T,H,G⟩=XN ⟨v6,K,T,H,G⟩:=λh=>by
  unfold Tw;rw[cC h,ww];rcases qc7 T with e|⟨e,rfl⟩
  ·left;rw[show kH _ kS.dd=_ from e];rfl
  right;rw[show kH _ kS.dd=_ from e];simp
 have k3:v6≠3->XN ⟨v6,K,T,H,G⟩=g' 8\/H=kM/\XN ⟨v6,K,T,H,G⟩=Tx ⟨v6,K,T,H,G⟩:=λh=>by
  unfold XN;rw[cC h,ww];rcases afQ H with e|⟨e,rfl⟩
  ·left;rw[show kI _ kS.bW=_ from e];rfl
  right;rw[show kI _ kS.bW=_ from e];simp
 have k4:v6≠4->Tx ⟨v6,K,T,H,G⟩=g' 8\/G=jc/\Tx ⟨v6,K,T,H,G⟩=XY ⟨v6,K,T,H,G⟩:=λh=>by
  unfold Tx;rw[cC h,ww];rcases afS G with e|⟨e,rfl⟩
  ·left;rw[show kJ _ kS.bN=_ from e];rfl
  right;rw[show kJ _ kS.bN=_ from e];simp
 by_cases t1:v6=1
 ·subst t1
  rcases k2 (by decide)with e|⟨rfl,e2⟩
  ·exact .inl e
  rcases k3 (by decide)with e|⟨rfl,e3⟩
  ·exact .inl (e2.trans e)
  rcases k4 (by decide)with e|⟨rfl,e4⟩
  ·exact .inl (e2.trans (e3.trans e))
  have e0:eg ⟨1,K,jr,kM,jc⟩=(iq K).bind λn=>ZO ⟨1,K,jr,kM,jc⟩ n:=e2.trans (e3.trans e4)
  rw[e0,Ac (fit n1 D.1) (by omega),aj];obtain⟨s1,s2⟩:=XD (c:=⟨1,K,jr,kM,jc⟩) n1.io rfl
  by_cases ok:iC K
  ·rw[Do ok];exact s2.imp id λa=>⟨_,.hp ok a⟩
  grind
 rcases k1 t1 with e|⟨rfl,e1⟩
 ·exact .inl e
 by_cases t2:v6=2
 ·subst t2
  rcases k3 (by decide)with e|⟨rfl,e3⟩
  ·exact .inl (e1.trans e)
  rcases k4 (by decide)with e|⟨rfl,e4⟩
  ·exact .inl (e1.trans (e3.trans e))
  have e0:eg ⟨2,js,T,kM,jc⟩=(ir T).bind λn=>ZO ⟨2,js,T,kM,jc⟩ n:=e1.trans (e3.trans e4)
  rw[e0,Am (fit n2 S.c) S.p S.w,aj];obtain⟨s1,s2⟩:=XD (c:=⟨2,js,T,kM,jc⟩) n2.io rfl
  by_cases ok:pf T
  ·rw[Do ok];exact s2.imp id λa=>⟨_,.tn ok a⟩
  grind
 rcases k2 t2 with e|⟨rfl,e2⟩
 ·grind
 by_cases t3:v6=3
 ·subst t3
  rcases k4 (by decide)with e|⟨rfl,e4⟩
  ·exact .inl (e1.trans (e2.trans e))
  have e0:eg ⟨3,js,jr,H,jc⟩=(iu H).bind λn=>ZO ⟨3,js,jr,H,jc⟩ n:=e1.trans (e2.trans e4)
  rw[e0,Ag (fit n3 h3.c),aj];obtain⟨s1,s2⟩:=XD (c:=⟨3,js,jr,H,jc⟩) n3.io rfl
  by_cases ok:gV H
  ·rw[Do ok];exact s2.imp id λa=>⟨_,.ht ok a⟩
  grind
 rcases k3 t3 with e|⟨rfl,e3⟩
 ·grind
 by_cases t4:v6=4
 ·subst t4
  have e0:eg ⟨4,js,jr,kM,G⟩=(iv G).bind λn=>ZO ⟨4,js,jr,kM,G⟩ n:=e1.trans (e2.trans e3)
  rw[e0,Ai (fit n4 h4.c),aj];obtain⟨s1,s2⟩:=XD (c:=⟨4,js,jr,kM,G⟩) n4.io rfl
  by_cases ok:gC G
  ·rw[Do ok];exact s2.imp id λa=>⟨_,.hg ok a⟩
  grind
 rcases k4 t4 with e|⟨rfl,e4⟩
 ·grind
 left;rw[e1,e2,e3,e4];unfold XY
 grind
theorem Z3{α:Type}{l:J α}(h:(Su l)=0):l=[]:=List.eq_nil_of_length_eq_zero h
theorem UU(a b:Nat)(h:a+b<=1000000000):M d5 ((a:Int)+(b:Int))=((a+b:Nat):Int):=by
 grind[dN]
theorem B1{α:Type}{l:J α}(h:KO ((0:Int)<IR (Su l))=Ml):l=[]:=by simp_all
theorem L5{c:aE}(sh:uu c):gK c=g' Ml\/(gK c=g' Ih/\c=cE):=by
 obtain⟨⟨a,b⟩,⟨f⟩,⟨n,cl⟩,⟨⟨u1,u2,u3⟩,h,w⟩,d⟩:=c;obtain⟨s1,s2,s3,s4,afT,afU,akD,qc8⟩:=sh;dsimp only at s1 s2 s3 s4 afT afU akD qc8;unfold gK
 by_cases D:a=0/\b=0
 case neg=>left;rw[show((a==(0:Int))&&(b==(0:Int)))=Ml by grind];rfl
 obtain⟨rfl,rfl⟩:=D;rw[show(((0:Int)==0)&&((0:Int)==0))=Ih from rfl,ww]
 by_cases S:n=0
 case neg=>left;rw[hO S];rfl
 subst S;rw[ju rfl,ww];simp only[aB];rw[UU (Su f) (Su cl) (by omega),UU _ (Su h) (by omega),UU _ (Su w) (by omega),UU _ (Su u1) (by omega),UU _ (Su u2) (by omega),UU _ (Su u3) (by omega),UU _ (Su d) (by omega)]
 by_cases h3:(Su f)+Su cl+Su h+Su w+Su u1+Su u2+Su u3+Su d=0
 case neg=>left;rw[hO (by omega)]
 simp_all
theorem L6(c:Choice)(up:J Int)(u1 u2 u3 u4:Bool)(i:Int)(u:Bool)(N:M d5 (i+1)=i+1):D2 (u1,u2,u3,u4,i,cZ c up) u=if u=Ih/\i+1≠M d5 c.v6 then g' (.done 8)else g' (.next (u1,u2,u3,u4,i+1,cZ c up)):=by
 unfold D2;cases u with
 |false=>grind
 |true=>
  rw[N,ww]
  by_cases h:i+1=M d5 c.v6
  ·rw[EQ (λk=>k.2 h),aY (show i+1=M d5 (cZ c up).1 from h)];rfl
  rw[Do ⟨rfl,h⟩,cC (show i+1≠M d5 (cZ c up).1 from h)];rfl
theorem ahl(c:Choice)(u1 u2 u3 u4:Bool):au ck (u1,u2,u3,u4,0,cZ c c.bN.up)=g' 8\/
 ((u1=Ih->1=M d5 c.v6)/\(u2=Ih->2=M d5 c.v6)/\(u3=Ih->3=M d5 c.v6)/\(u4=Ih->4=M d5 c.v6)/\ ∀r,Zs c=g' (.done r)->au ck (u1,u2,u3,u4,0,cZ c c.bN.up)=g' r):=by
 have s1:=L6 c c.bN.up u1 u2 u3 u4 0 u1 rfl;have s2:=L6 c c.bN.up u1 u2 u3 u4 1 u2 rfl;have s3:=L6 c c.bN.up u1 u2 u3 u4 2 u3 rfl;have s4:=L6 c c.bN.up u1 u2 u3 u4 3 u4 rfl
 by_cases D:u1=Ih/\(0:Int)+1≠M d5 c.v6
 ·rw[Do D]at s1;exact .inl (ar s1)
 rw[EQ D]at s1;rw[aD s1]
 by_cases S:u2=Ih/\(1:Int)+1≠M d5 c.v6
 ·rw[Do S]at s2;exact .inl (ar s2)
 rw[EQ S]at s2;rw[show au ck (u1,u2,u3,u4,0+1,cZ c c.bN.up)=_ from aD s2]
 by_cases h3:u3=Ih/\(2:Int)+1≠M d5 c.v6
 ·rw[Do h3]at s3;exact .inl (ar s3)
 rw[EQ h3]at s3;rw[show au ck (u1,u2,u3,u4,1+1,cZ c c.bN.up)=_ from aD s3]
 by_cases h4:u4=Ih/\(3:Int)+1≠M d5 c.v6
 ·rw[Do h4]at s4;exact .inl (ar s4)
 rw[EQ h4]at s4;rw[show au ck (u1,u2,u3,u4,2+1,cZ c c.bN.up)=_ from aD s4];refine .inr ⟨λh=>?_,λh=>?_,λh=>?_,λh=>?_,λr hr=>ar hr⟩
 ·exact Md.1 λk=>D ⟨h,k⟩
 ·exact Md.1 λk=>S ⟨h,k⟩
 ·exact Md.1 λk=>h3 ⟨h,k⟩
 grind
theorem alB{c:Choice}(D:uu c.bv.lc)(S:rS c.dd)(h3:BQ c.bW)(h4:BS c.bN): ∃u1 u2 u3 u4:Bool,iN c=au ck (u1,u2,u3,u4,0,cZ c c.bN.up)/\
 (u1=Ml->c.bv=js)/\(u2=Ml->c.dd=jr)/\(u3=Ml->c.bW=kM)/\(u4=Ml->c.bN=jc):=by
 obtain⟨v6,⟨kc,kh⟩,⟨tc,⟨tp,tw⟩⟩,⟨hc,⟨hr,hn⟩⟩,⟨gc,gu⟩⟩:=c;have e1: ∃u1:Bool,iN ⟨v6,⟨kc,kh⟩,⟨tc,⟨tp,tw⟩⟩,⟨hc,⟨hr,hn⟩⟩,⟨gc,gu⟩⟩=NN ⟨v6,⟨kc,kh⟩,⟨tc,⟨tp,tw⟩⟩,⟨hc,⟨hr,hn⟩⟩,⟨gc,gu⟩⟩ u1/\(u1=Ml->(⟨kc,kh⟩:bD)=js):=by
  unfold iN;rcases L5 D with e|⟨e,rfl⟩
  ·exact⟨Ih,by rw[e];rfl,λh=>by cases h⟩
  refine⟨_,by rw[e];rfl,λh=>?_⟩
  rw[B1 (l:=kh) h]
 have e2: ∀a,∃u2:Bool,NN ⟨v6,⟨kc,kh⟩,⟨tc,⟨tp,tw⟩⟩,⟨hc,⟨hr,hn⟩⟩,⟨gc,gu⟩⟩ a=Cw ⟨v6,⟨kc,kh⟩,⟨tc,⟨tp,tw⟩⟩,⟨hc,⟨hr,hn⟩⟩,⟨gc,gu⟩⟩ a u2/\(u2=Ml->(⟨tc,⟨tp,tw⟩⟩:bB)=jr):=by
  intro a;unfold NN;obtain⟨c,p,w⟩:=S;rcases L5 c with e|⟨e,rfl⟩
  ·exact⟨Ih,by rw[e];rfl,λh=>by cases h⟩
  refine⟨_,by rw[e];rfl,λh=>?_⟩
  dsimp only at h p w;rw[aB,aB,UU _ _ (by omega)]at h;have h:=of_decide_eq_false h;rw[Z3 (l:=tp) (by omega),Z3 (l:=tw) (by omega)]
 have e3: ∀a b,∃u3:Bool,Cw ⟨v6,⟨kc,kh⟩,⟨tc,⟨tp,tw⟩⟩,⟨hc,⟨hr,hn⟩⟩,⟨gc,gu⟩⟩ a b=Vs ⟨v6,⟨kc,kh⟩,⟨tc,⟨tp,tw⟩⟩,⟨hc,⟨hr,hn⟩⟩,⟨gc,gu⟩⟩ a b u3/\(u3=Ml->(⟨hc,⟨hr,hn⟩⟩:bq)=kM):=by
  intro a b;unfold Cw;rcases L5 h3.c with e|⟨e,rfl⟩
  ·exact⟨Ih,by rw[e];rfl,λh=>by cases h⟩
  by_cases h0:hr=0
  ·subst h0
   refine⟨_,by rw[e];rfl,λh=>?_⟩;rw[B1 (l:=hn) h]
  refine⟨Ih,?_,λh=>by cases h⟩
  rw[cC h0];rfl
 have e4: ∀a b d,∃u4:Bool,Vs ⟨v6,⟨kc,kh⟩,⟨tc,⟨tp,tw⟩⟩,⟨hc,⟨hr,hn⟩⟩,⟨gc,gu⟩⟩ a b d=au ck (a,b,d,u4,0,cZ ⟨v6,⟨kc,kh⟩,⟨tc,⟨tp,tw⟩⟩,⟨hc,⟨hr,hn⟩⟩,⟨gc,gu⟩⟩ gu)/\(u4=Ml->(⟨gc,gu⟩:bE)=jc):=by
  intro a b d;unfold Vs;rcases L5 h4.c with e|⟨e,rfl⟩
  ·exact⟨Ih,by rw[e];rfl,λh=>by cases h⟩
  refine⟨_,by rw[e];rfl,λh=>?_⟩
  rw[B1 (l:=gu) h]
 obtain⟨u1,a1,b1⟩:=e1;obtain⟨u2,a2,b2⟩:=e2 u1;obtain⟨u3,a3,b3⟩:=e3 u1 u2;obtain⟨u4,a4,b4⟩:=e4 u1 u2 u3
 grind
theorem aan{c:Choice}(n1:ze c.bv.lc)(n2:ze c.dd.lc)(n3:ze c.bW.lc)(n4:ze c.bN.lc)(D:uu c.bv.lc/\Su c.bv.bv<=70)(S:rS c.dd)(h3:BQ c.bW)(h4:BS c.bN):
 iN c=g' 8\/ ∃q,VC c q:=by
 have fit: ∀{x:aE},ze x->uu x->nm x:=λn sh=>⟨n.io,⟨sh.s3,sh.h,sh.w,n.Wr⟩,sh.d⟩
 obtain⟨u1,u2,u3,u4,e,z1,z2,z3,z4⟩:=alB D.1 S h3 h4;rw[e];rcases ahl c u1 u2 u3 u4 with e|⟨t1,t2,t3,t4,fin⟩
 ·exact .inl e
 obtain⟨v6,K,T,H,G⟩:=c;have no: ∀{u:Bool} {a:Int},(u=Ih->a=M d5 v6)->a≠M d5 v6->u=Ml:=λ{u a} h k=>by
  cases u with
  |false=>rfl
  |true=>exact absurd (h rfl) k
 have XD: ∀{c:Choice} {q:aE},jo q.io->bI q.io->rl c=g' q->TI c 0=g' _\/TI c 0=g' _/\KF q.io:=λ{c q} n r hc=>by
  unfold TI;rw[aY rfl,AC,hc,aj];rcases pbx n r with e|⟨e,a⟩
  ·rw[e];exact .inl rfl
  rw[e];exact .inr ⟨rfl,a⟩
 by_cases g1:v6=1
 ·subst g1
  obtain rfl:=z2 (no t2 (by decide));obtain rfl:=z3 (no t3 (by decide));obtain rfl:=z4 (no t4 (by decide));have e0:Zs ⟨1,K,jr,kM,jc⟩=(jA K).bind λn=>TI ⟨1,K,jr,kM,jc⟩ n:=rfl
  rw[qV (fit n1 D.1) (by omega),aj]at e0
  by_cases ok:iC K
  ·rw[Do ok]at e0
   rcases XD (c:=⟨1,K,jr,kM,jc⟩) n1.io ok.fI.ie rfl with e|⟨e,a⟩
   ·exact .inl (fin 8 (e0.trans e))
   exact .inr ⟨_,.hp ok a⟩
  rw[EQ ok]at e0;exact .inl (fin 8 e0)
 by_cases g2:v6=2
 ·subst g2
  obtain rfl:=z1 (no t1 (by decide));obtain rfl:=z3 (no t3 (by decide));obtain rfl:=z4 (no t4 (by decide));have e0:Zs ⟨2,js,T,kM,jc⟩=(gZ T).bind λn=>TI ⟨2,js,T,kM,jc⟩ n:=rfl
  rw[yx (fit n2 S.c) S.p S.w,aj]at e0
  by_cases ok:pf T
  ·rw[Do ok]at e0
   rcases XD (c:=⟨2,js,T,kM,jc⟩) n2.io ok.fI.ie rfl with e|⟨e,a⟩
   ·exact .inl (fin 8 (e0.trans e))
   exact .inr ⟨_,.tn ok a⟩
  rw[EQ ok]at e0;exact .inl (fin 8 e0)
 by_cases g3:v6=3
 ·subst g3
  obtain rfl:=z1 (no t1 (by decide));obtain rfl:=z2 (no t2 (by decide));obtain rfl:=z4 (no t4 (by decide));have e0:Zs ⟨3,js,jr,H,jc⟩=(hI H).bind λn=>TI ⟨3,js,jr,H,jc⟩ n:=rfl
  rw[yt (fit n3 h3.c),aj]at e0
  by_cases ok:gV H
  ·rw[Do ok]at e0
   rcases XD (c:=⟨3,js,jr,H,jc⟩) n3.io ok.fI.ie rfl with e|⟨e,a⟩
   ·exact .inl (fin 8 (e0.trans e))
   exact .inr ⟨_,.ht ok a⟩
  rw[EQ ok]at e0;exact .inl (fin 8 e0)
 by_cases g4:v6=4
 ·subst g4
  obtain rfl:=z1 (no t1 (by decide));obtain rfl:=z2 (no t2 (by decide));obtain rfl:=z3 (no t3 (by decide));have e0:Zs ⟨4,js,jr,kM,G⟩=(hJ G).bind λn=>TI ⟨4,js,jr,kM,G⟩ n:=rfl
  rw[yu (fit n4 h4.c),aj]at e0
  by_cases ok:gC G
  ·rw[Do ok]at e0
   rcases XD (c:=⟨4,js,jr,kM,G⟩) n4.io ok.fI.ie rfl with e|⟨e,a⟩
   ·exact .inl (fin 8 (e0.trans e))
   exact .inr ⟨_,.hg ok a⟩
  rw[EQ ok]at e0;exact .inl (fin 8 e0)
 left;refine fin 8 ?_;unfold Zs
 grind
def qc(f g:O (Field×Int)):Prop:=(∃e:Int,e≠0/\f=g' (⟨[]⟩,e)/\g=g' (⟨[]⟩,e))\/ ∃W7,aS W7/\f=g' (⟨W7⟩,0)/\g=g' (⟨W7⟩,0)
theorem aiS{f:Field}(bj:aS f.am)(p:Pt):qc (lG f p) (j8 f p):=
 (Af bj p).imp id λ⟨_,hm,_,po,iY,t⟩=>⟨_,RG bj po hm iY,t⟩
theorem hr'{f:Field}(bj:aS f.am)(p:Pt):qc (gq f p) (gy f p):=
 (vP bj p).imp id λ⟨_,hq,he,po,t⟩=>⟨_,WD bj po hq he,t⟩
theorem aec{f:Field}(bj:aS f.am)(id:Int):qc (kB f id) (jl f id):=by
 by_cases h:dZ f.am id
 ·obtain⟨q,hq,rfl⟩:=h
  exact .inr ⟨_,N8 bj q,HR bj hq⟩
 exact .inl ⟨6,by decide,DP bj h⟩
def Ym(t:Int×Int)(R:bq×Int):Prop:=R.2≠0\/R.2=0/\gV R.1/\R.1.lc.io=t
theorem Ob {k:bq} (ok:gV k) {W7:J Pt} (oK:aS W7): ∃R:bq×Int,
 ((tO ⟨W7⟩ k.lc.io).bind fun a2=>(qE a2.1).bind fun l3=>(fw k.lc ⟨W7⟩ l3).bind fun a4=>
  bif a4.2 !=0 then g' (bq.mk (aE.mk (0,0) (Field.mk []) (bA.mk 0 []) (aM.mk (bg.mk [] [] []) [] []) []) (Tree.mk 0 []),a4.2) else g' (bq.mk a4.1 a2.1,0))=g' R/\
 iF k.lc ⟨W7⟩=g' R/\Ym k.lc.io R:=by
 have f1:=oK.1;obtain ⟨r,UV,D,S⟩:=afg oK ok.fI.ie ok.fI.cO;obtain ⟨r',N',g1,g2⟩:=Kx oK ok.fI.cO;obtain ⟨e1,e2⟩:=g2.same oK.2.2 S;subst e1 e2;have ln:=S.len;obtain ⟨Yz,r1,r2,r3⟩:=eqS ok.fI oK S;rw [<- ln] at r1 r2;have ee:=acA S (by omega);have eo:=RH S (by omega);obtain ⟨_,nd,_⟩:=S.Qf oK;rw [D,aj,ee,aj,r1,aj];unfold iF;simp only [aj,g1,eo,r2];rcases r3 with ⟨q0,qq⟩|he
 · rw [q0]
   refine ⟨_,rfl,rfl,.inr ⟨rfl,⟨qq.ok,?_,?_⟩,qq.io⟩⟩
   · show ig Yz.1.jp.am Yz.1.io N' r'
     rw [qq.fD,qq.io];exact S
   rw [qq.fD]
   exact uv (jQ qq.ok.vX) nd (fun x X=>by obtain ⟨y,hy,rfl⟩:=Ii.1 X;exact qq.sub y hy) (fun x X=>dY.1 (qq.has x X))
 rw [he]
 exact ⟨_,rfl,rfl,.inl (by decide)⟩
section
variable {k : bq} (ok : gV k)
include ok
theorem E5:hI k=g' 0/\iu k=g' 0:=by rw[yt ok.fI.fit,Ag ok.fI.fit,Do ok];simp
theorem aqU(p:Pt): ∃R:bq×Int,Ga k p=g' R/\Gf k p=g' R/\Ym k.lc.io R:=by
 obtain⟨c1,c2⟩:=E5 ok;unfold Ga mg Fi Gf;rcases aiS ok.fI.fD p with⟨e,e0,t1,t2⟩|⟨W7,fo,t1,t2⟩
 ·simp only[c1,c2,aj,t1,t2,cC e0,]
  exact⟨_,rfl,rfl,.inl e0⟩
 obtain⟨R,s1,s2,s3⟩:=Ob ok fo
 grind
theorem alE(id:Int): ∃R:bq×Int,Ds k id=g' R/\DA k id=g' R/\Ym k.lc.io R:=by
 obtain⟨c1,c2⟩:=E5 ok;unfold Ds lg Dr DA;rcases aec ok.fI.fD id with⟨e,e0,t1,t2⟩|⟨W7,fo,t1,t2⟩
 ·simp only[c1,c2,aj,t1,t2,cC e0,]
  exact⟨_,rfl,rfl,.inl e0⟩
 obtain⟨R,s1,s2,s3⟩:=Ob ok fo
 grind
theorem aee(p:Pt): ∃R:bq×Int,y4 k p=g' R/\za k p=g' R/\Ym k.lc.io R:=by
 obtain⟨c1,c2⟩:=E5 ok;unfold y4 jG zQ za;rcases hr' ok.fI.fD p with⟨e,e0,t1,t2⟩|⟨W7,fo,t1,t2⟩
 ·simp only[c1,c2,aj,t1,t2,cC e0,]
  exact⟨_,rfl,rfl,.inl e0⟩
 obtain⟨R,s1,s2,s3⟩:=Ob ok fo
 grind
end
def Yn(t:Int×Int)(R:bE×Int):Prop:=R.2≠0\/R.2=0/\gC R.1/\R.1.lc.io=t
theorem TE{c:aE}(ok:aV c){W7:J Pt}(bj:aS W7): ∃R:bE×Int,jE c ⟨W7⟩=g' R/\qO c ⟨W7⟩=g' R/\Yn c.io R:=by
 obtain⟨R,s1,s2,s3⟩:=Inl ok bj;refine⟨R,s1,s2,?_⟩;rcases s3 with q|e
 ·have h:=q.hg bj
  exact .inr ⟨q.err,h.ok,h.io⟩
 rw[e];exact .inl (by decide)
section
variable {k : bE} (ok : gC k)
include ok
theorem c7:hJ k=g' 0/\iv k=g' 0:=by rw[yu ok.fI.fit,Ai ok.fI.fit,Do ok];simp
theorem aqV(p:Pt): ∃R:bE×Int,Dm k p=g' R/\Gg k p=g' R/\Yn k.lc.io R:=by
 obtain⟨c1,c2⟩:=c7 ok;unfold Dm kz Dl Gg;rcases aiS ok.fI.fD p with⟨e,e0,t1,t2⟩|⟨W7,fo,t1,t2⟩
 ·simp only[c1,c2,aj,t1,t2,cC e0,]
  exact⟨_,rfl,rfl,.inl e0⟩
 obtain⟨R,s1,s2,s3⟩:=TE ok.fI fo
 grind
theorem alG(id:Int): ∃R:bE×Int,AO k id=g' R/\DB k id=g' R/\Yn k.lc.io R:=by
 obtain⟨c1,c2⟩:=c7 ok;unfold AO jF BC DB;rcases aec ok.fI.fD id with⟨e,e0,t1,t2⟩|⟨W7,fo,t1,t2⟩
 ·simp only[c1,c2,aj,t1,t2,cC e0,]
  exact⟨_,rfl,rfl,.inl e0⟩
 obtain⟨R,s1,s2,s3⟩:=TE ok.fI fo
 grind
theorem aeg(p:Pt): ∃R:bE×Int,xp k p=g' R/\zb k p=g' R/\Yn k.lc.io R:=by
 obtain⟨c1,c2⟩:=c7 ok;unfold xp iZ yn zb;rcases hr' ok.fI.fD p with⟨e,e0,t1,t2⟩|⟨W7,fo,t1,t2⟩
 ·simp only[c1,c2,aj,t1,t2,cC e0,]
  exact⟨_,rfl,rfl,.inl e0⟩
 obtain⟨R,s1,s2,s3⟩:=TE ok.fI fo
 grind
end
def Yo(t:Int×Int)(R:bB×Int):Prop:=R.2≠0\/R.2=0/\pf R.1/\R.1.lc.io=t
theorem lB{c:aE}(ok:aV c){f:J Pt}(bj:aS f){p:J Int}(pl:yw f p)(pw:HZ (Su p))(pm:(fa f).Perm (dS p)):
 ∃R:bB×Int,eN c ⟨f⟩ p=g' R/\fX c ⟨f⟩ p=g' R/\Yo c.io R:=by
 obtain⟨R,r1,r2,r3⟩:=qc4 ok bj pl;refine⟨R,r1,r2,?_⟩;rcases r3 with⟨a,b⟩|h
 ·have q:=b.azQ ok bj pl pw pm
  exact .inr ⟨a,q.ok,q.io⟩
 rw[h];exact .inl (by decide)
section
variable {k : bB} (ok : pf k) (sh : rS k)
include ok sh
theorem aqW(p:Pt): ∃R:bB×Int,F' k p=g' R/\Ge k p=g' R/\Yo k.lc.io R:=by
 have c1:=R6 ok sh;have c2:=R7 ok sh;have bj:=ok.fI.fD;have pl:=ok.aX;unfold F' Ge;rw[c1,aj,aY rfl,AC,c2,aj,aY rfl,AC];rcases Af bj p with⟨e,e0,t1,t2⟩|⟨m,hm,hp,po,iY,t1,t2⟩
 ·have t1:=t1
  have t2:=t2;rw[t1,aj,cC e0,ww,t2,aj,cC e0,ww];exact⟨_,rfl,rfl,.inl e0⟩
 have t2:j8 k.lc.jp p=g' _:=t2;have oK:=RG bj po hm iY;have gX:=pl.gX;have one:=pl.one;obtain⟨q,w1,w2⟩:=ahh one (by omega) (λx X=>(pl.Wm bj x X).1) p.1;have F:0<=p.1:=by have:=po;unfold gO at this;omega
 have V5:yw (wX k.lc.jp.am m p) q:=agj pl F hp (R5 ok iY) w2;have pw:HZ (Su q):=by
  rcases ad7 one w2 with⟨a,_⟩|⟨a,b⟩
  ·rw[a];exact ok.pow
  rw[a];exact ahj ok.pow (R5 ok iY b)
 obtain⟨R,s1,s2,s3⟩:=lB ok.fI oK V5 pw (c2' oK V5 λx X=>by
  obtain⟨i,N,rfl⟩:=X;rcases LZ.1 (aJ N)with h|h
  ·rw[h];exact w2.mem.1
  obtain⟨j,hj,e⟩:=aU.1 h
  have X:=oG.1 (ok.perm.mem_iff.1 (dL.2 ⟨j,hj,by rw[e]⟩));exact w2.mem.2 _ X.1 X.2)
 refine⟨R,?_,?_,s3⟩
 ·rw[t1,aj,aY rfl,AC,bJ (by omega),aj]
  cases w2 with
  |at_ j hj e h N=>rw[N,aj,aF (by omega),AC,aq _ j hj,aj,cA,s1,aj]
  |end_ h N=>
   have G3:=hca _ one (R5 ok iY h);rw[N,aj,aA (by decide),ww,aB,G3,aj];have em:(If (Su k.ls.aX) (-1:Int)).isEmpty=Ml:=by
    cases hh:(Su k.ls.aX)with
    |zero=>omega
    |succ _=>rfl
   rw[em,AC,ba (by rw[WF];omega),aj,aq _ _ (by rw[Sw,WF];omega),aj,cA];have:(k.ls.aX++If (Su k.ls.aX) (-1:Int)).set (Su k.ls.aX) p.1=k.ls.aX++[p.1]++If (Su k.ls.aX-1) (-1):=by
    rw[List.set_append_right _ _ (EE _),Nat.sub_self];cases hh:(Su k.ls.aX)with
    |zero=>omega
    |succ n=>simp[List.replicate_succ]
   rw[this,s1,aj]
 grind
theorem aei(p:Pt): ∃R:bB×Int,yZ k p=g' R/\y9 k p=g' R/\Yo k.lc.io R:=by
 have c1:=R6 ok sh;have c2:=R7 ok sh;have bj:=ok.fI.fD;have pl:=ok.aX;unfold yZ y9;rw[c1,aj,aY rfl,AC,c2,aj,aY rfl,AC];rcases vP bj p with⟨e,e0,t1,t2⟩|⟨q,hq,he,po,t1,t2⟩
 ·have t1:=t1
  have t2:=t2;rw[t1,aj,cC e0,ww,t2,aj,cC e0,ww];exact⟨_,rfl,rfl,.inl e0⟩
 have t1:gq k.lc.jp p=g' _:=t1;have t2:gy k.lc.jp p=g' _:=t2;have oK:=WD bj po hq he;have azS: ∀x,dZ k.lc.jp.am x->dZ (k.lc.jp.am.set q p) x:=λx ⟨i,N,e⟩=>by
  refine⟨i,by rw[Pc];exact N,?_⟩;rw[bQ]
  by_cases a:i=q
  ·rw[Do ⟨a,hq⟩,<-he,<-a];exact e
  rw[EQ (λh=>a h.1)];exact e
 have V5:yw _ k.ls.aX:=⟨pl.one,pl.gX,pl.once,λx X=>(pl.ids x X).imp id λh=>⟨h.1,azS x h.2⟩⟩;obtain⟨R,s1,s2,s3⟩:=lB ok.fI oK V5 ok.pow (by rw[ofV hq he];exact ok.perm)
 grind
theorem alI(id:Int): ∃R:bB×Int,Dq k id=g' R/\Dz k id=g' R/\Yo k.lc.io R:=by
 have c1:=R6 ok sh;have c2:=R7 ok sh;have bj:=ok.fI.fD;have pl:=ok.aX;have gX:=pl.gX;unfold Dq Dz;rw[c1,aj,aY rfl,AC,c2,aj,aY rfl,AC]
 by_cases YT:dZ k.lc.jp.am id
 case neg=>obtain⟨t1,t2⟩:=DP bj YT;rw[t1,aj,cC (by decide),ww,t2,aj,cC (by decide),ww];exact⟨_,rfl,rfl,.inl (by decide)⟩
 have hm:=oG.1 (ok.perm.mem_iff.1 (dL.2 YT));obtain⟨q,hq,lX⟩:=YT;obtain⟨t1,t2⟩:=HR bj hq;rw[lX]at t1 t2;have t2:jl k.lc.jp id=g' _:=t2;have oK:=N8 bj q;obtain⟨j,hj,e,ix,_⟩:=zm (by omega) hm.1;have h0:0<=k.ls.aX[j]!:=by rw[e];exact hm.2
 have V5:=agm pl hj h0 λx X fk=>aal bj.2.2 hq X (by rw[lX,<-e];exact fk)
 have ho2:=qa5 gX pl.once hj h0;have pw:HZ (Hc k.ls.aX j).length:=by
  rw[ad8];split
  ·rename_i h;exact ad6 ok.pow h.1
  exact ok.pow
 obtain⟨R,s1,s2,s3⟩:=lB ok.fI oK V5 pw (c2' oK V5 λx X=>by obtain⟨i,N,rfl⟩:=X;obtain⟨a,b⟩:=(Gw bj.2.2 hq).1 (aJ N);obtain⟨i',yD,e'⟩:=aU.1 a;have X:=oG.1 (ok.perm.mem_iff.1 (dL.2 ⟨i',yD,by rw[e']⟩));exact ad9 X.1 X.2 (by rw[e,<-lX];exact b));have fl:(k.lc.jp.am.eraseIdx q).length=(dS (k.ls.aX.set j (-1))).length:=by have a:=aak hj h0;have b:=ok.perm.length_eq;rw[w9]at b;have:=I7 hq;omega
 refine⟨R,?_,?_,s3⟩
 ·rw[t1,aj,aY rfl,AC,bJ (by omega),aj,ix,aj,aq _ j hj,aj]
  simp only[cA,aB,Pc,];have il:(dS (k.ls.aX.set j (-1))).length<=(Su k.ls.aX):=by have:=YH (λx:Int=>decide (0<=x)) (k.ls.aX.set j (-1));rw[Pc]at this;unfold dS;omega
  rw[dN ⟨by omega,by omega⟩];unfold Hc at s1
  by_cases a:1<Su k.ls.aX
  ·rw[aA (by omega),ww]
   by_cases b:4*(dS (k.ls.aX.set j (-1))).length<=Su k.ls.aX
   ·rw[aA (by omega),ww,agn]
    rw[Do ⟨a,b⟩]at s1;obtain⟨UV,B4,m1,m2,m3,m4⟩:=h1' (k.ls.aX.set j (-1)) (by rw[Pc];omega);rw[Pc]at m1 m3;have w2:M d5 (M d5 (Int.tdiv ((Su k.ls.aX):Int) 2) - (UV:Int))=(((Su k.ls.aX) / 2-UV:Nat):Int):=by rw[SH (by omega),dN (n:=((Su k.ls.aX):Int) / 2) ⟨by omega,by omega⟩,dN ⟨by omega,by omega⟩];omega
    rw[m1,aj];rw[w2,hca _ (by omega) (by omega),aj];have em:(If ((Su k.ls.aX) / 2-UV) (-1:Int)).isEmpty=Ml:=by
     cases hh:(Su k.ls.aX) / 2-UV with
     |zero=>omega
     |succ _=>rfl
    have b1:Nat.ble (UV+((Su k.ls.aX) / 2-UV)) (Su k.ls.aX)=Ih:=by rw[Nat.ble_eq];omega
    have lay:(iL B4 UV (If ((Su k.ls.aX) / 2-UV) (-1:Int))).take (UV+((Su k.ls.aX) / 2-UV))=dS (k.ls.aX.set j (-1))++If ((Su k.ls.aX) / 2-UV) (-1):=by unfold iL;rw[m4,SI (by rw[Sw,WF];omega),GH (by rw[Sw,WF];omega)]
    rw[em,AC,WF,b1,ww,m3,b1];simp only[Mq,al,ww];rw[lay,m2,s1,aj]
   rw[aF (by omega),AC]
   rw[EQ (λh=>b h.2)]at s1;rw[s1,aj]
  rw[aF (by omega),AC]
  rw[EQ (λh=>a h.1)]at s1;rw[s1,aj]
 grind
end
def UX(t:Int×Int)(R:bD×Int):Prop:=R.2≠0\/R.2=0/\iC R.1/\R.1.lc.io=t
theorem ahm{c:aE}(ok:aV c){f:J Pt}(bj:aS f){l:J Int}(pm:(fa f).Perm l):
 ∃R:bD×Int,bC c ⟨f⟩ l=g' R/\o5 c ⟨f⟩ l=g' R/\(Hp (rI f c.io) l->UX c.io R):=by
 have f1:=bj.1;have ln:(Su l)=(Su f):=by rw[<-pm.length_eq];exact Xc ..
 have En:=afd bj pm;have nd:=pm.nodup_iff.1 (eX bj.2.2);obtain⟨r,r1,r2,r3⟩:=Jb ok bj En;have ee:lq f (fT l)=0:=by unfold lq;rw[EQ (Md.2 En.cv),EQ (Md.2 (Bf nd)),EQ (λh=>h En.kn)]
 have rn:=vQ ok bj (by rw[nJ];omega) (λ_=>r1);rcases r3 with⟨q0,q⟩|he
 ·refine⟨(⟨r.1,l⟩,0),?_,?_,λh=>have z:=Bb.bv bj pm rfl q h;.inr ⟨rfl,z.ok,z.io⟩⟩
  ·unfold bC
   grind[hLl,aj]
  unfold o5
  grind[Um,aj]
 refine⟨(⟨cE,[]⟩,18),?_,?_,λ_=> .inl (by decide)⟩
 ·unfold bC
  grind[hLl,aj]
 unfold o5
 grind[Um,aj]
noncomputable def Eb(c:aE)(f:J Pt)(l:J Int):bD×Int:=(bC c ⟨f⟩ l).getD (G8,0)
theorem D1{c:aE}(ok:aV c){f:J Pt}(bj:aS f){l:J Int}(pm:(fa f).Perm l):bC c ⟨f⟩ l=g' (Eb c f l)/\o5 c ⟨f⟩ l=g' (Eb c f l)/\(Hp (rI f c.io) l->UX c.io (Eb c f l)):=by obtain⟨R,h,k⟩:=ahm ok bj pm;unfold Eb;grind
theorem iC.lf{k:bD}(ok:iC k):iq k=g' 0:=by have:=ok.bd;rw[Ac ok.fI.fit (by omega),Do ok]
theorem aqX{k:bD}(ok:iC k)(p:Pt): ∃R:bD×Int,Cm k p=g' R/\Cr k p=g' R/\UX k.lc.io R:=by
 have c1:=qV ok.fI.fit (by have:=ok.bd;omega);rw[Do ok]at c1;have c2:=ok.lf;have bj:=ok.fI.fD;rcases Af bj p with⟨e,e0,t1,t2⟩|⟨m,hm,hp,po,iY,t1,t2⟩
 ·have t1:lG k.lc.jp p=g' (⟨[]⟩,e):=t1
  have t2:j8 k.lc.jp p=g' (⟨[]⟩,e):=t2;refine⟨(G8,e),?_,?_,.inl e0⟩
  ·unfold Cm;grind
  unfold Cr;grind
 have oK:=RG bj po hm iY;have Yp: ∀x,dZ k.lc.jp.am x->bm (wX k.lc.jp.am m p) x=bm k.lc.jp.am x:=λx X=>Ky bj.2.2 oK.2.2 X (LZ.2 (.inr (Gx bj.2.2 X).1))
 have hn:=ok.len;have pm:(fa (wX k.lc.jp.am m p)).Perm (k.bv++[p.1]):=by
  have e1:fa (wX k.lc.jp.am m p)=(fa k.lc.jp.am).take m++p.1::(fa k.lc.jp.am).drop m:=by unfold wX fa;simp
  rw[e1];refine List.perm_middle.trans ?_;rw[List.take_append_drop];exact(List.Perm.cons _ ok.perm).trans (List.perm_append_singleton _ _).symm
 have ll:(k.bv++[p.1]).length=Su k.bv+1:=by simp
 have lo:mF (wX k.lc.jp.am m p) (Su k.bv+1) (k.bv++[p.1]):=⟨ll,by omega,λy hy=>dL.1 (pm.mem_iff.2 hy),pm.nodup_iff.1 (eX oK.2.2)⟩;have go:=aqL (P:=p) (c0:=p) ⟨ok.fI,oK⟩ ll (λl I=>(D1 ok.fI oK (pm.trans I.symm)).1) (Su k.bv) (k.bv++[p.1]) (by omega) lo (Mg _);have pr:=Ad (wX k.lc.jp.am m p) k.lc.io (Su k.bv) (k.bv++[p.1]) (by omega);have ew:M d5 (((Su k.bv+1:Nat):Int)-1)=((Su k.bv):Int):=by grind[dN]
 have ap:aQ k.bv [p.1]=g' (k.bv++[p.1]):=ba (by grind);have hh:Hp (rI (wX k.lc.jp.am m p) k.lc.io) (mw (wX k.lc.jp.am m p) k.lc.io (Su k.bv) (k.bv++[p.1])):=by
  refine htu (sE oK.2.2 k.lc.io) (λ_ _=>Iff.rfl) _ _ lo.hp ⟨by omega,λj j1 j2 j3=>?_,λj j1 j2 j3 j4=>by grind⟩;have b1:(k.bv++[p.1])[j]! =k.bv[j]!:=by grind
  have b2:(k.bv++[p.1])[par j]! =k.bv[par j]!:=by grind
  rw[b1,b2];have hj:=ok.has _ (aJ (show j<(Su k.bv) by omega));have hq:=ok.has _ (aJ (show par j<(Su k.bv) by grind));show¬leads _ _ _;rw[Yp _ hj,Yp _ hq];exact ok.hp j j1 (by omega)
 obtain⟨_,z1,z2⟩:=D1 ok.fI oK (pm.trans pr.symm);refine⟨_,?_,?_,z2 hh⟩
 ·unfold Cm
  simp (disch:=omega) only[c1,aj,t1,bJ,ap,beq_self_eq_true,aB,ll,ew];exact go
 unfold Cr
 simp (disch:=omega) only[c2,aj,t2,bJ,ap,aB,ll,ew];rw[abl oK ok.fI.cO lo.hp (by omega) (by omega),aj,z1];rfl
theorem aek{k:bD}(ok:iC k)(p:Pt): ∃R:bD×Int,ve k p=g' R/\vI k p=g' R/\UX k.lc.io R:=by
 have c1:=qV ok.fI.fit (by have:=ok.bd;omega);rw[Do ok]at c1;have c2:=ok.lf;have bj:=ok.fI.fD;have f1:=bj.1;rcases vP bj p with⟨e,e0,t1,t2⟩|⟨q,hq,he,po,t1,t2⟩
 ·have t1:gq k.lc.jp p=g' _:=t1
  have t2:gy k.lc.jp p=g' _:=t2;refine⟨(G8,e),?_,?_,.inl e0⟩
  ·unfold ve;grind
  unfold vI;grind
 have oK:=WD bj po hq he;have Yp: ∀x,dZ k.lc.jp.am x->x≠p.1->bm _ x=bm k.lc.jp.am x:=λx X fk=>by
  refine Ky bj.2.2 oK.2.2 X ?_;obtain⟨i,N,rfl⟩:=X;rw[nZ bj.2.2 N rfl];refine aU.2 ⟨i,by rw[Pc];exact N,?_⟩
  grind
 have hn:=ok.len;have pm:(fa (k.lc.jp.am.set q p)).Perm k.bv:=by rw[ofV hq he];exact ok.perm
 have Kc:=ok.perm.mem_iff.1 (dL.2 ⟨q,hq,he⟩);obtain⟨a,a1,a2,a3,a4⟩:=zm (by omega) Kc;have lo:mF _ (Su k.bv) k.bv:=⟨rfl,by omega,λy hy=>dL.1 (pm.mem_iff.2 hy),pm.nodup_iff.1 (eX oK.2.2)⟩;have go:=aqK (P:=p) ⟨ok.fI,oK⟩ rfl (λl I=>(D1 ok.fI oK (pm.trans I.symm)).1) a k.bv a1 lo (Mg _);have pr:=Ad (k.lc.jp.am.set q p) k.lc.io a k.bv a1;have ri:=(Je (k.lc.jp.am.set q p) k.lc.io a k.bv a1).1;have pk:=(ex2 (k.lc.jp.am.set q p) k.lc.io _ _ _ (EE _) (by rw[pr.length_eq];exact ri)).trans pr;have MA: ∀j,j<Su k.bv->j≠a->k.bv[j]!≠p.1:=λj hj fk e=>by
  rcases SG j a with c|c|c
  ·exact bO.1 ok.nd j a c a1 (e.trans a2.symm)
  ·exact fk c
  exact bO.1 ok.nd a j c hj (a2.trans e.symm)
 have hh:=us3 (sE oK.2.2 k.lc.io) (λ_ _=>Iff.rfl) lo.hp a1 (λj j1 j2 j3 j4=>by
  have q2:par j<(Su k.bv):=by grind
  rw[Yp _ (ok.has _ (aJ j2)) (MA j j2 j3),Yp _ (ok.has _ (aJ q2)) (MA _ q2 j4)];exact ok.hp j j1 j2) (λj j1 j2 j3 j4=>by
  have q2:par a<(Su k.bv):=by grind
  have n1:j≠a:=by grind
  have n2:par a≠a:=by grind
  rw[Yp _ (ok.has _ (aJ j2)) (MA j j2 n1),Yp _ (ok.has _ (aJ q2)) (MA _ q2 n2)];have D:=ok.hp j j1 j2;rw[j3]at D;exact(sE bj.2.2 k.lc.io).Yt (ok.has _ (aJ j2)) (ok.has _ (aJ a1)) (ok.has _ (aJ q2)) D (ok.hp a j4 a1))
 obtain⟨_,z1,z2⟩:=D1 ok.fI oK (pm.trans pk.symm);refine⟨_,?_,?_,z2 hh⟩
 ·unfold ve
  simp (disch:=omega) only[c1,aj,t1,bJ,beq_self_eq_true,a3];exact go
 unfold vI
 simp only[c2,aj,t2,a4];rw[htp oK ok.fI.cO lo.hp lo.nd a1 (by omega),aj,z1];rfl
theorem alL{k:bD}(ok:iC k)(id:Int): ∃R:bD×Int,wO k id=g' R/\wU k id=g' R/\UX k.lc.io R:=by
 have c1:=qV ok.fI.fit (by have:=ok.bd;omega);rw[Do ok]at c1;have c2:=ok.lf;have I:=ok.bd;have bj:=ok.fI.fD;have f1:=bj.1
 by_cases YT:dZ k.lc.jp.am id
 case neg=>
  obtain⟨t1,t2⟩:=DP bj YT;have t1:kB k.lc.jp id=g' (⟨[]⟩,6):=t1;have t2:jl k.lc.jp id=g' (⟨[]⟩,6):=t2;refine⟨(G8,6),?_,?_,.inl (by decide)⟩
  ·unfold wO;grind
  unfold wU;grind
 have Kc:=ok.perm.mem_iff.1 (dL.2 YT);obtain⟨q,hq,rfl⟩:=YT;obtain⟨t1,t2⟩:=HR bj hq;have t1:kB k.lc.jp (k.lc.jp.am[q]!).1=g' (⟨k.lc.jp.am.eraseIdx q⟩,0):=t1;have t2:jl k.lc.jp (k.lc.jp.am[q]!).1=g' (⟨k.lc.jp.am.eraseIdx q⟩,0):=t2;have oK:=N8 bj q;have fl:(k.lc.jp.am.eraseIdx q).length=Su k.lc.jp.am-1:=I7 hq;have hn:=ok.len;have nd:=ok.nd;have Yp: ∀x,dZ k.lc.jp.am x->x≠(k.lc.jp.am[q]!).1->bm (k.lc.jp.am.eraseIdx q) x=bm k.lc.jp.am x:=λx X fk=>by
  obtain⟨y1,y2⟩:=Gx bj.2.2 X;exact Ky bj.2.2 oK.2.2 X ((Gw bj.2.2 hq).2 ⟨y1,by omega⟩)
 obtain⟨a,a1,a2,a3,a4⟩:=zm (by omega) Kc;have lst:(Su k.bv)-1<(Su k.bv):=by omega
 have ew:M d5 (((Su k.bv):Int)-1)=((Su k.bv-1:Nat):Int):=p5 (by omega) (by omega);have ga:=aq k.bv a a1;have gl:=aq k.bv (Su k.bv-1) lst;have MA: ∀j,j<Su k.bv->j≠a->k.bv[j]!≠(k.lc.jp.am[q]!).1:=λj hj fk e=>by
  rcases SG j a with c|c|c
  ·exact bO.1 ok.nd j a c a1 (e.trans a2.symm)
  ·exact fk c
  exact bO.1 ok.nd a j c hj (a2.trans e.symm)
 generalize hL:k.bv.set a k.bv[Su k.bv-1]! =L;have akE:(Su L)=(Su k.bv):=by grind
 generalize hm:(Su k.bv)-1=m at*;have em:L=L.take m++[L[m]!]:=by
  grind[Ny,QK]
 have ll:(L.take m).length=m:=by grind
 have bl: ∀j,j<m->(L.take m)[j]! =if j=a then k.bv[m]! else k.bv[j]!:=λj hj=>by
  grind
 have ps:(L.take m++[(k.lc.jp.am[q]!).1]).Perm k.bv:=by
  have e:fH k.bv a m=L.take m++[(k.lc.jp.am[q]!).1]:=by unfold fH;rw[hL,a2,List.set_eq_take_append_cons_drop,Do (by omega),QK (by omega)]
  grind[iz]
 have pm:(fa (k.lc.jp.am.eraseIdx q)).Perm (L.take m):=by
  refine gH (eX oK.2.2) (λy hy=>?_) (by rw[ll];show m<=(List.map _ _).length;rw[Xc];omega);obtain⟨p,hp,rfl⟩:=Ii.1 hy;obtain⟨D,S⟩:=(Gw bj.2.2 hq).1 hp;have:=ps.mem_iff.2 (ok.perm.mem_iff.1 (Ii.2 ⟨p,D,rfl⟩))
  grind
 have lo:mF (k.lc.jp.am.eraseIdx q) m (L.take m):=⟨ll,by omega,λy hy=>dL.1 (pm.mem_iff.2 hy),pm.nodup_iff.1 (eX oK.2.2)⟩;have tok:rR k (k.lc.jp.am.eraseIdx q):=⟨ok.fI,oK⟩;have s1:gQ L 0 (m:Int)=g' (L.take m):=lJ L m (by omega);have cl:bL k.bv=g' k.bv:=bJ (by omega);have s2:gQ k.bv 0 (m:Int)=g' (k.bv.take m):=lJ k.bv m (by omega);have K6:bL (k.bv.take m)=g' (k.bv.take m):=bJ (by grind)
 by_cases ha:a<m
 ·have go:=aqF (n0:=Su k.bv) (x:=L[m]!) tok (c0:=k.bv) (c1:=a) (c2:=k.bv[m]!) (by omega) (R:=Eb k.lc (k.lc.jp.am.eraseIdx q)) (l0:=L.take m) (λl I=>(D1 ok.fI oK (pm.trans I.symm)).1) a (L.take m) ha lo (Mg _)
  rw[<-em]at go;have pr:=Ad (k.lc.jp.am.eraseIdx q) k.lc.io a (L.take m) (by omega);have ri:=(Je (k.lc.jp.am.eraseIdx q) k.lc.io a (L.take m) (by omega)).1;have pk:=(ex2 (k.lc.jp.am.eraseIdx q) k.lc.io _ (mw (k.lc.jp.am.eraseIdx q) k.lc.io a (L.take m)) (we (k.lc.jp.am.eraseIdx q) k.lc.io a (L.take m)) (EE _) (by rw[pr.length_eq];exact ri)).trans pr;have hh:=us3 (sE oK.2.2 k.lc.io) (P:=rI (k.lc.jp.am.eraseIdx q) k.lc.io) (l:=L.take m) (a:=a) (λ_ _=>Iff.rfl) lo.hp (by omega) (λj j1 j2 j3 j4=>by
   rw[ll]at j2;have q2:par j<m:=by simp only[par];omega
   rw[bl j j2,bl _ q2,EQ j3,EQ j4];show¬leads _ _ _;rw[Yp _ (ok.has _ (aJ (by omega))) (MA j (by omega) j3),Yp _ (ok.has _ (aJ (by omega))) (MA _ (by omega) j4)];exact ok.hp j j1 (by omega)) (λj j1 j2 j3 j4=>by
   rw[ll]at j2;have q2:par a<m:=by simp only[par];omega
   have n1:j≠a:=by simp only[par]at j3;omega
   have n2:par a≠a:=by simp only[par];omega
   rw[bl j j2,bl _ q2,EQ n1,EQ n2];show¬leads _ _ _;rw[Yp _ (ok.has _ (aJ (by omega))) (MA j (by omega) n1),Yp _ (ok.has _ (aJ (by omega))) (MA _ (by omega) n2)];have D:=ok.hp j j1 (by omega);rw[j3]at D;exact(sE bj.2.2 k.lc.io).Yt (ok.has _ (aJ (by omega))) (ok.has _ (aJ a1)) (ok.has _ (aJ (by omega))) D (ok.hp a j4 a1))
  obtain⟨_,z1,z2⟩:=D1 ok.fI oK (pm.trans pk.symm);refine⟨_,?_,?_,z2 hh⟩
  ·unfold wO
   rw[c1,aj,aY rfl,AC,t1,aj,aY rfl,AC,cl,aj,a3,aj];simp (disch:=omega) only[aB,ew,gl,aj,ga,cA,hL,s1,aA,ww,beq_self_eq_true];rw[show((m:Nat):Int).toNat=m from Mi m,akE];exact go
  have akF:=htp oK (t:=k.lc.io) ok.fI.cO lo.hp lo.nd (i:=a) (by omega) (by omega)
  have O1:(k.bv.take m).set a k.bv[m]! =L.take m:=by rw[<-hL,xc]
  have gt:=aq (k.bv.take m) a (by rw[KJ];omega);unfold wU;rw[c2,aj,aY rfl,AC,t2,aj,aY rfl,AC,a4,aj];simp (disch:=omega) only[aB,ew,s2,aj,K6,aA,ww,gl,gt,cA,O1,akF,z1]
 have hh:Hp (rI (k.lc.jp.am.eraseIdx q) k.lc.io) (L.take m):=λj j1 j2=>by
  rw[ll]at j2;have q2:par j<m:=by simp only[par];omega
  rw[bl j j2,bl _ q2,EQ (by omega),EQ (by omega)];show¬leads _ _ _;rw[Yp _ (ok.has _ (aJ (by omega))) (MA j (by omega) (by omega)),Yp _ (ok.has _ (aJ (by omega))) (MA _ (by omega) (by omega))];exact ok.hp j j1 (by omega)
 obtain⟨z0,z1,z2⟩:=D1 ok.fI oK pm;have O1:k.bv.take m=L.take m:=by rw[<-hL,xc,List.set_eq_of_length_le (by rw[KJ];omega)]
 refine⟨_,?_,?_,z2 hh⟩
 ·unfold wO
  rw[c1,aj,aY rfl,AC,t1,aj,aY rfl,AC,cl,aj,a3,aj];simp (disch:=omega) only[aB,ew,gl,aj,ga,cA,hL,s1,aF,AC];rw[show((m:Nat):Int).toNat=m from Mi m,z0,aj]
 unfold wU
 rw[c2,aj,aY rfl,AC,t2,aj,aY rfl,AC,a4,aj];rw[O1]at s2 K6;simp (disch:=omega) only[aB,ew,s2,aj,K6,aF,AC,z1]
theorem Eo.late{c:aE}{to:Int×Int}(kw:Eo c to): ¬jq to (Ev.at c.ae.bv[0]!)<0:=λh=>by
 have S:=kw.2;rw[rB]at h;have: ¬0<jq (Ev.at c.ae.bv[0]!) to:=by omega
 unfold jq at this;rcases eJ ((Ev.at c.ae.bv[0]!).1*to.2) (to.1*(Ev.at c.ae.bv[0]!).2)with⟨a,b⟩|⟨a,b⟩|⟨a,b⟩<;>omega
theorem vN(c:aE):(aE.mk (c.io.1,c.io.2) (Field.mk c.jp.am) (bA.mk c.af.aO c.af.ii) (aM.mk (bg.mk c.ae.ai.aC c.ae.ai.be c.ae.ai.bi) c.ae.bv c.ae.ax) c.kw)=c:=rfl
theorem L7{out:J _}{c d:aE}(h:((Su out):Int)<=jP c+200)(r:jP c+1<=jP d)(x:Int×Int):((out++[x]).length:Int)<=jP d+200:=by
 grind
def JA{α:Type}(ok:α->Prop)(fI:α->aE)(to:Int×Int)(R:α×J (Int×Int)×Int):Prop:=R.2.2≠0\/R.2.2=0/\ok R.1/\(fI R.1).io=to
theorem Yq{α:Type}{ok:α->Prop}{fI:α->aE}{to:Int×Int}(a:α):JA ok fI to (a,[],18):= .inl (show(18:Int)≠0 by decide)
theorem alM{c:aE}{l:J Int}(h:Z8 c l){to:Int×Int}(rt:bI to)(dK:jo to)(le: ¬jq to c.io<0)(kw:Eo c to):
 ∃(x:Int×Int) (c1:aE) (i j:Nat) (r:aE×Int),i<Su l/\j<Su l/\ni c=g' (c1,c.ae.bv[0]!,x)/\ng l x.1=g' (i:Int)/\ng l x.2=g' (j:Int)/\
  fu c1 c1.jp (fT (fH l i j))=g' r/\tZ ⟨c,l⟩ to=g' (⟨r.1,fH l i j⟩,x,r.2)/\
  (r.2=0/\Z8 r.1 (fH l i j)/\r.1.io=Ev.at c.ae.bv[0]!/\jP c+1<=jP r.1\/r=(cE,18)):=by
 have ok:=h.ok;have pm:=h.pm;obtain⟨x,c1,f1,f2,A9,hf,hb,hr,hn⟩:=FD ok rt dK le kw;have bd:=h.bd;obtain⟨i,i1,i2,i3,i4⟩:=zm (by omega) (pm.mem_iff.1 (dL.2 hb.1));obtain⟨j,j1,j2,j3,j4⟩:=zm (by omega) (pm.mem_iff.1 (dL.2 hb.2));have pm':=pm.trans (iz i1 j1).symm;have sl:=(iz i1 j1).length_eq;have bj:=A9.fD;obtain⟨r,r1,r2,r3⟩:=Jb A9 bj (es:=fT (fH l i j)) (afd bj (by grind));refine⟨x,c1,i,j,r,i1,j1,f2,i4,j4,r2,?_,r3.imp (λ⟨q,k⟩=>⟨q,⟨k.ok,by rw[k.fD,hf];exact pm',uv (jQ k.ok.vX) (Bf (pm'.nodup_iff.1 (eX ok.fD.2.2))) (λz hz=>by obtain⟨y,hy,rfl⟩:=Ii.1 hz;exact k.sub y hy) (λz hz=>dY.1 (k.has z hz))⟩,by rw[k.io,hn],by have:=k.room;omega⟩) id⟩;unfold tZ
 rw[f1,aj,aY rfl,AC,bJ (show(Su l)<=1048576 by omega),aj,i3,aj,j3,aj,aq l j j1,aj,aq l i i1,aj,aj];rw[cA,aq _ j (by grind),aj,cA];show(tN (fH l i j)).bind _=_;rw[N3 _ (by omega),aj];rw[r1,aj];rfl
theorem azV{to:Int×Int}(rt:bI to)(dK:jo to): ∀(d:Nat) (c:aE) (l:J Int) (out:J (Int×Int)),1000000-jP c<(d:Int)->Z8 c l-> ¬jq to c.io<0->((Su out):Int)<=jP c+200->
 ∃r:bD×J (Int×Int)×Int,au lF (aP c l to out)=g' r/\au pO (aR c l to out)=g' r/\JA iC bD.lc to r/\(¬Eo c to->r=(⟨Sh c to,l⟩,out,0)):=by
 intro d
 induction d with
 |zero=>intro c l out hd h;have:=(sF h.ok).2;omega
 |succ d ih=>
  intro c l out hd h le ho;have ok:=h.ok;have bd:=h.bd;have rb:=sF ok;have ce:=vN c
  by_cases kw:Eo c to
  ·obtain⟨x,c1,i,j,r,N,hj,e1,e2,e3,e4,e5,e7⟩:=alM h rt dK le kw
   have ol:aQ out [x]=g' (out++[x]):=ba (by grind);have sl:=(iz N hj).length_eq;have gj:=aq (l.set i l[j]!) j (by grind);rcases e7 with⟨q0,q1,q3,q4⟩|he
   ·have s1:lF (aP c l to out)=g' (.next (aP r.1 (fH l i j) to (out++[x]))):=by
     unfold lF aP;simp[e5,q0,ol]
    have s2:pO (aR c l to out)=g' (.next (aR r.1 (fH l i j) to (out++[x]))):=by unfold pO aR;simp only[pG ok dK,aA kw,aj,e1,e2,e3,aq l j hj,aq l i N,cA,gj];rw[show(l.set i l[j]!).set j l[i]! =fH l i j from rfl,Um _ (by omega),aj,e4,aj,q0];simp[ol,]
    rw[aD s1,aD s2];obtain⟨R,t1,t2,t3,_⟩:=ih r.1 _ (out++[x]) (by omega) q1 (by rw[q3];exact kw.late) (L7 ho q4 x)
    grind
   refine⟨(⟨cE,[]⟩,[],18),ar ?_,ar ?_,Yq _,λk=>absurd kw k⟩
   ·unfold lF aP
    simp_all
   unfold pO aR
   simp only[pG ok dK,aA kw,aj,ww,e1,e2,e3,aq l j hj,aq l i N,cA,gj];rw[show(l.set i l[j]!).set j l[i]! =fH l i j from rfl,Um _ (by omega),aj,e4,aj,he];rfl
  refine⟨(⟨Sh c to,l⟩,out,0),ar ?_,ar ?_,.inr ⟨rfl,ag7 h rt dK le kw,rfl⟩,λ_=>rfl⟩
  ·unfold lF aP
   simp (disch:=omega) only[ce,qa8 ok l rt dK le kw,aj,show((6:Int)==6)=Ih from rfl,ww,L1 ok rt dK le kw,bJ]
  unfold pO aR
  simp[ce,pG ok dK,aF kw,aj,AC,Jj ok]
theorem azW{to:Int×Int}(rt:bI to)(dK:jo to): ∀(d:Nat) (c:aE) (r:Int) (UV:J Nd) (out:J (Int×Int)),1000000-jP c<(d:Int)->gV ⟨c,⟨r,UV⟩⟩-> ¬jq to c.io<0->((Su out):Int)<=jP c+200->
 ∃R:bq×J (Int×Int)×Int,au j0 (hP c r UV to out)=g' R/\au pQ (hR c r UV to out)=g' R/\JA gV bq.lc to R/\(¬Eo c to->R=(⟨Sh c to,⟨r,UV⟩⟩,out,0)):=by
 intro d
 induction d with
 |zero=>intro c r UV out hd ok;have:=(sF (show aV c from ok.fI)).2;omega
 |succ d ih=>
  intro c r UV out hd GA le ho;have ok:aV c:=GA.fI;have tr:=GA.ut;have ln:=tr.len;have bd:=ok.bd;have rb:=sF ok;have ct: ∀e∈cD UV (Su c.jp.am),rQ c.af.ii e:=λe he=>dY.2 (GA.cert.mem_iff.2 he)
  have ce:=vN c
  by_cases kw:Eo c to
  ·obtain⟨x,c1,e1,e2,A9,hf,_,hr,hn⟩:=FD ok rt dK le kw
   obtain⟨R,s1,s2,s3⟩:=aj5 A9 A9.fD;have s1:=s1;have s2:=s2;have ol:aQ out [x]=g' (out++[x]):=ba (by grind);rcases s3 with⟨q0,qs⟩|he
   ·have uz:j0 (hP c r UV to out)=g' (.next (hP R.1.lc R.1.ut.lw R.1.ut.pp to (out++[x]))):=by
     unfold j0 hP;simp[e1,s1,q0,ol]
    have Ap:pQ (hR c r UV to out)=g' (.next (hR R.1.lc R.1.ut.lw R.1.ut.pp to (out++[x]))):=by unfold pQ hR;simp[pG ok dK,aA kw,e2,s2,q0,ol]
    have rr:=qs.tj.room;have hk:gV ⟨R.1.lc,⟨R.1.ut.lw,R.1.ut.pp⟩⟩:=by
     obtain⟨_,nd,_⟩:=qs.ut.Qf A9.fD;refine⟨qs.tj.ok,?_,?_⟩
     ·show ig R.1.lc.jp.am R.1.lc.io R.1.ut.pp R.1.ut.lw
      rw[qs.tj.fD,qs.tj.io];exact qs.ut
     show(R.1.lc.af.ii.map λx=>x.2).Perm (cD R.1.ut.pp (Su R.1.lc.jp.am))
     rw[qs.tj.fD];exact uv (jQ qs.tj.ok.vX) nd (λx X=>by obtain⟨y,hy,rfl⟩:=Ii.1 X;exact qs.tj.sub y hy) (λx X=>dY.1 (qs.tj.has x X))
    rw[aD uz,aD Ap];obtain⟨Yz,t1,t2,t3,_⟩:=ih R.1.lc R.1.ut.lw R.1.ut.pp (out++[x]) (by omega) hk (by rw[qs.tj.io,hn];exact kw.late) (L7 ho (by omega) x)
    grind
   refine⟨(⟨cE,⟨0,[]⟩⟩,[],18),ar ?_,ar ?_,Yq _,λk=>absurd kw k⟩
   ·unfold j0 hP
    simp_all
   unfold pQ hR
   simp[pG ok dK,aA kw,e2,s2,he,show((18:Int) !=0)=Ih from rfl]
  obtain⟨r2,N2,D,S⟩:=RI ok.fD rt dK
  have ts:=c67 ok tr ct rt le kw;obtain⟨e1,e2⟩:=S.same ok.fD.2.2 ts;subst e1 e2;have D:=D;have tw:sO ⟨c,⟨r2,N2⟩⟩=g' ⟨c,⟨r2,N2⟩⟩:=afl ⟨ok.short,by grind⟩;refine⟨(⟨Sh c to,⟨r2,N2⟩⟩,out,0),ar ?_,ar ?_,.inr ⟨rfl,⟨Jk ok rt dK le kw,ts,GA.cert⟩,rfl⟩,λ_=>rfl⟩
  ·unfold j0 hP
   simp[ce,Ji ok rt dK le kw,aj,show((6:Int) !=0)=Ih from rfl,ww,L1 ok rt dK le kw,D]
  unfold pQ hR
  simp[ce,pG ok dK,aF kw,aj,AC,tw,Jj ok]
theorem azX{to:Int×Int}(rt:bI to)(dK:jo to){p:J Int}(pw:HZ (Su p)): ∀(d:Nat) (c:aE) (out:J (Int×Int)),1000000-jP c<(d:Int)->aV c->yw c.jp.am p->(fa c.jp.am).Perm (dS p)->(c.af.ii.map λx=>x.2).Perm (kL p (cy c.jp.am c.io p))-> ¬jq to c.io<0->((Su out):Int)<=jP c+200->
 ∃R:bB×J (Int×Int)×Int,au jZ (tP c p (cy c.jp.am c.io p) to out)=g' R/\au pP (tR c p (cy c.jp.am c.io p) to out)=g' R/\JA pf bB.lc to R/\(¬Eo c to->R=(⟨Sh c to,⟨p,cy c.jp.am c.io p⟩⟩,out,0)):=by
 intro d
 induction d with
 |zero=>intro c out hd ok;have:=(sF ok).2;omega
 |succ d ih=>
  intro c out hd ok pl pi ajR le ho;have bd:=ok.bd;have rb:=sF ok;have mdX:=(eh (f:=c.jp.am) (t:=c.io) pl.one).1;have pm:=pl.gX;have ce:=vN c;have ct: ∀e∈kL p (cy c.jp.am c.io p),rQ c.af.ii e:=λe he=>dY.2 (ajR.mem_iff.2 he)
  by_cases kw:Eo c to
  ·obtain⟨x,c1,e1,e2,A9,hf,_,hr,hn⟩:=FD ok rt dK le kw
   obtain⟨R,s1,s2,s3⟩:=aj7 A9 A9.fD (p:=p) (by grind);have s1:=s1;have s2:=s2;have ol:aQ out [x]=g' (out++[x]):=ba (by grind);rcases s3 with⟨q0,qs⟩|he
   ·have uz:jZ (tP c p (cy c.jp.am c.io p) to out)=g' (.next (tP R.1.lc R.1.ls.aX R.1.ls.k9 to (out++[x]))):=by
     unfold jZ tP;simp[e1,s1,q0,ol]
    have Ap:pP (tR c p (cy c.jp.am c.io p) to out)=g' (.next (tR R.1.lc R.1.ls.aX R.1.ls.k9 to (out++[x]))):=by unfold pP tR;simp[pG ok dK,aA kw,aj,ww,e2,s2,q0,show((0:Int) !=0)=Ml from rfl,AC,ol]
    have rr:=qs.tj.room;rw[aD uz,aD Ap,qs.aX];have e3:cy c1.jp.am c1.io p=cy R.1.lc.jp.am R.1.lc.io p:=by rw[qs.tj.fD,qs.tj.io]
    dsimp only;rw[e3];have e4:R.1.lc.jp.am=c.jp.am:=by rw[qs.tj.fD,hf]
    have nd:=(qY qs.tj.ok.fD qs.tj.ok.cO (by rw[e4];exact pl)).2.1;have cp2:=
     uv (jQ qs.tj.ok.vX) nd (λe h=>by obtain⟨x,X,rfl⟩:=Ii.1 h;rw[<-e3];exact qs.tj.sub x X) (λe h=>by rw[<-e3]at h;exact dY.1 (qs.tj.has e h))
    obtain⟨Yz,t1,t2,t3,_⟩:=ih R.1.lc (out++[x]) (by omega) qs.tj.ok (by rw[e4];exact pl) (by rw[e4];exact pi) cp2 (by rw[qs.tj.io,hn];exact kw.late) (L7 ho (by omega) x)
    grind
   refine⟨(Gy,[],18),ar ?_,ar ?_,Yq _,λk=>absurd kw k⟩
   ·unfold jZ tP
    simp[ce,e1,aj,s1,he,show((0:Int) !=0)=Ml from rfl,show((18:Int) !=0)=Ih from rfl,AC,ww];rfl
   unfold pP tR
   simp[ce,pG ok dK,aA kw,aj,ww,e2,s2,he,show((18:Int) !=0)=Ih from rfl];rfl
  have D:qv c.jp to p=_:=Ak ok.fD rt dK pl
  have bs:=qe6 ok pl ct rt le kw;rw[bs]at D;have sh:rS ⟨c,⟨p,cy c.jp.am c.io p⟩⟩:=⟨ok.short,by grind,by grind⟩;have tw:=hnm sh;refine⟨(⟨Sh c to,⟨p,cy c.jp.am c.io p⟩⟩,out,0),ar ?_,ar ?_,.inr ⟨rfl,⟨Jk ok rt dK le kw,hmp ok.fD pl,pw,pi,bs.symm,ajR⟩,rfl⟩,λ_=>rfl⟩
  ·unfold jZ tP
   simp[ce,Ji ok rt dK le kw,aj,show((6:Int) !=0)=Ih from rfl,ww,L1 ok rt dK le kw]
   grind
  unfold pP tR
  simp[ce,pG ok dK,aF kw,aj,AC,tw,Jj ok]
theorem azY{to:Int×Int}(rt:bI to)(dK:jo to): ∀(d:Nat) (c:aE) (U:J Int) (out:J (Int×Int)),1000000-jP c<(d:Int)->gC ⟨c,U⟩-> ¬jq to c.io<0->((Su out):Int)<=jP c+200->
 ∃R:bE×J (Int×Int)×Int,au j7 (gP c U to out)=g' R/\au pR (gR c U to out)=g' R/\JA gC bE.lc to R/\(¬Eo c to->R=(⟨Sh c to,U⟩,out,0)):=by
 intro d
 induction d with
 |zero=>intro c U out hd ok;have:=(sF (show aV c from ok.fI)).2;omega
 |succ d ih=>
  intro c U out hd GA le ho;have ok:aV c:=GA.fI;have hu:=GA.up;have bd:=ok.bd;have rb:=sF ok;have f1:=ok.fD.1;have ul:=DU c.jp.am c.io;have ct: ∀e∈fU c.jp.am (wg c.jp.am c.io) (Su c.jp.am),rQ c.af.ii e:=λe he=>dY.2 (GA.cert.mem_iff.2 (by grind))
  have ce:=vN c
  by_cases kw:Eo c to
  ·obtain⟨x,c1,e1,e2,A9,hf,_,hr,hn⟩:=FD ok rt dK le kw
   obtain⟨R,s1,s2,s3⟩:=Inl A9 A9.fD;have s1:=s1;have s2:=s2;have ol:aQ out [x]=g' (out++[x]):=ba (by grind);rcases s3 with q|he
   ·have q0:=q.err
    have hg:=q.hg A9.fD;have uz:j7 (gP c U to out)=g' (.next (gP R.1.lc R.1.up to (out++[x]))):=by unfold j7 gP;simp[e1,s1,q0,ol]
    have Ap:pR (gR c U to out)=g' (.next (gR R.1.lc R.1.up to (out++[x]))):=by unfold pR gR;simp[pG ok dK,aA kw,e2,s2,q0,ol]
    have rr:=q.tj.room;rw[aD uz,aD Ap];obtain⟨Yz,t1,t2,t3,_⟩:=ih R.1.lc R.1.up (out++[x]) (by omega) hg.ok (by rw[q.tj.io,hn];exact kw.late) (L7 ho (by omega) x)
    grind
   refine⟨(noG,[],18),ar ?_,ar ?_,Yq _,λk=>absurd kw k⟩
   ·unfold j7 gP
    simp_all
   unfold pR gR
   simp[pG ok dK,aA kw,e2,s2,he,show((18:Int) !=0)=Ih from rfl]
  have hh:=RU ok.fD rt dK
  have us:=(ago ok ct rt le kw).trans hu;rw[us]at hh;have cl:bL U=g' U:=bJ (by grind);have hh2:=hh;refine⟨(⟨Sh c to,U⟩,out,0),ar ?_,ar ?_,.inr ⟨rfl,⟨Jk ok rt dK le kw,us,GA.cert⟩,rfl⟩,λ_=>rfl⟩
  ·unfold j7 gP
   simp[ce,Ji ok rt dK le kw,aj,show((6:Int) !=0)=Ih from rfl,ww,L1 ok rt dK le kw,hh2]
  unfold pR gR
  simp[ce,pG ok dK,aF kw,aj,AC,cl,Jj ok]
theorem R8{c:aE}(ok:aV c)(ld: ∀e∈c.af.ii.map λx=>x.2,leads (bm c.jp.am e.2) (bm c.jp.am e.1) c.io): ¬Eo c c.io:=λkw=>by obtain⟨x,c1,_,_,_,_,_,s1,s2⟩:=akr ok ld ok.ie ok.cO (afp (Int.le_refl _)) kw;omega
theorem ahn{t:Int×Int}{c:aE}(dK:jo t)(ok:aV c)(rt:bI t):A3 c t=g' (if jq t c.io<0 then 44 else 0):=by
 unfold A3;rw[jL dK,Do rt,aj,aY rfl,AC,DG dK ok.cO,aj]
 grind
section
variable {to : Int × Int} (rt : bI to) (dK : jo to)
include rt dK
theorem aqY{k:bD}(ok:iC k)(le: ¬jq to k.lc.io<0): ∃R,rW k to=g' R/\DD k to=g' R/\JA iC bD.lc to R/\(¬Eo k.lc to->R=(⟨Sh k.lc to,k.bv⟩,[],0)):=by
 have rb:=sF ok.fI;have bd:=ok.bd;obtain⟨R,r1,r2,r3⟩:=azV rt dK (1000001-jP k.lc).toNat k.lc k.bv [] (by omega) ⟨ok.fI,ok.perm,ok.cert⟩ le (by simp;omega);refine⟨R,?_,?_,r3⟩
 ·unfold rW
  rw[ok.Hl.1,aj,aY rfl,AC,bR dK,Do rt,aj,aY rfl,AC,yp dK ok.fI.cO,Do ⟨rt,ok.fI.ie⟩,aj,aF le];exact r1
 unfold DD
 rw[bJ (by omega),aj];exact r2
theorem aqZ{k:bB}(ok:pf k)(le: ¬jq to k.lc.io<0): ∃R,qy k to=g' R/\HJ k to=g' R/\JA pf bB.lc to R/\(¬Eo k.lc to->R=(⟨Sh k.lc to,k.ls⟩,[],0)):=by
 have rb:=sF ok.fI;obtain⟨R,r1,r2,r3⟩:=azX rt dK ok.pow (1000001-jP k.lc).toNat k.lc [] (by omega) ok.fI (Al ok.br ok.perm) ok.perm (by rw[<-ok.right];exact ok.cert) le (by simp;omega);rw[<-ok.right]at r1 r2 r3;refine⟨R,?_,r2,r3⟩;unfold qy;rw[ok.Hl.1,aj,aY rfl,AC,bR dK,Do rt,aj,aY rfl,AC,yp dK ok.fI.cO,Do ⟨rt,ok.fI.ie⟩,aj,aF le];exact r1
theorem aq0{k:bq}(ok:gV k)(le: ¬jq to k.lc.io<0): ∃R,qA k to=g' R/\HK k to=g' R/\JA gV bq.lc to R/\(¬Eo k.lc to->R=(⟨Sh k.lc to,k.ut⟩,[],0)):=by have rb:=sF ok.fI;obtain⟨R,r1,r2,r3⟩:=azW rt dK (1000001-jP k.lc).toNat k.lc k.ut.lw k.ut.pp [] (by omega) ok le (by simp;omega);refine⟨R,?_,r2,r3⟩;unfold qA;rw[ok.Hl.1,aj,aY rfl,AC,bR dK,Do rt,aj,aY rfl,AC,yp dK ok.fI.cO,Do ⟨rt,ok.fI.ie⟩,aj,aF le];exact r1
theorem aq1{k:bE}(ok:gC k)(le: ¬jq to k.lc.io<0): ∃R,qB k to=g' R/\HL k to=g' R/\JA gC bE.lc to R/\(¬Eo k.lc to->R=(⟨Sh k.lc to,k.up⟩,[],0)):=by have rb:=sF ok.fI;obtain⟨R,r1,r2,r3⟩:=azY rt dK (1000001-jP k.lc).toNat k.lc k.up [] (by omega) ok le (by simp;omega);refine⟨R,?_,r2,r3⟩;unfold qB;rw[ok.Hl.1,aj,aY rfl,AC,bR dK,Do rt,aj,aY rfl,AC,yp dK ok.fI.cO,Do ⟨rt,ok.fI.ie⟩,aj,aF le];exact r1
end
theorem yz{α:Type}{f g:O _}{mk:α->Choice}{R:α×Int}(hf:f=g' R)(hg:g=g' R)(h:R.2≠0\/R.2=0/\ ∃q,VC (mk R.1) q):
 ∃Yz:Choice×Int,(f.bind λa=>(fN (mk a.1) a.2).bind λb=>g' b)=g' Yz/\(g.bind λa=>(fy (mk a.1) a.2).bind λb=>g' b)=g' Yz/\(Yz.2≠0\/Yz.2=0/\ ∃q,VC Yz.1 q):=by
 rw[hf,hg,aj,aj];unfold fN fy;rcases h with h|⟨h,q⟩
 ·rw[cC h];exact⟨_,rfl,rfl,.inl h⟩
 simp_all
theorem L8{α:Type}{f g:O _}(mk:α->Choice){R:α×J _×Int}{p:Prop}{z:α}(hf:f=g' R)(hg:g=g' R)(h:R.2.2≠0\/R.2.2=0/\ ∃q,VC (mk R.1) q)(hz:p->R=(z,[],0)):
 ∃Yz:Choice×J (Int×Int)×Int,(f.bind λa=>bif a.2.2 !=0 then g' (kS,[],a.2.2)else g' (mk a.1,a.2.1,0))=g' Yz/\(bif(0:Int) !=0 then g' (kS,[],0)else g.bind λa=>bif a.2.2 !=0 then g' (kS,[],a.2.2)else g' (mk a.1,a.2.1,0))=g' Yz/\(Yz.2.2≠0\/Yz.2.2=0/\ ∃q,VC Yz.1 q)/\(p->Yz=(mk z,[],0)):=by
 rw[hf,hg,aj,aY rfl,AC];rcases h with h|⟨h,q⟩
 ·rw[cC h];exact⟨_,rfl,rfl,.inl h,λk=>absurd (by rw[hz k]) h⟩
 simp_all
section
variable {c : Choice} {q : aE} (v : VC c q)
include v
theorem VC.put(p:Pt): ∃Yz:Choice×Int,Dn c p=g' Yz/\Gh c p=g' Yz/\(Yz.2≠0\/Yz.2=0/\ ∃q,VC Yz.1 q):=by
 unfold Dn Gh;simp only[v.Hl,v.T5,];cases v with
 | @hp k ok a=>obtain⟨R,r1,r2,r3⟩:=aqX ok p;exact yz (mk:=λk=>⟨1,k,jr,kM,jc⟩) r1 r2 (r3.imp id λ⟨h,q,e⟩=>⟨h,_,.hp q (by rw[e];exact a)⟩)
 | @tn k ok a=>obtain⟨R,r1,r2,r3⟩:=aqW ok ok.sh p;exact yz (mk:=λk=>⟨2,js,k,kM,jc⟩) r1 r2 (r3.imp id λ⟨h,q,e⟩=>⟨h,_,.tn q (by rw[e];exact a)⟩)
 | @ht k ok a=>obtain⟨R,r1,r2,r3⟩:=aqU ok p;exact yz (mk:=λk=>⟨3,js,jr,k,jc⟩) r1 r2 (r3.imp id λ⟨h,q,e⟩=>⟨h,_,.ht q (by rw[e];exact a)⟩)
 | @hg k ok a=>obtain⟨R,r1,r2,r3⟩:=aqV ok p;exact yz r1 r2 (r3.imp id λ⟨h,q,e⟩=>⟨h,_,.hg q (by rw[e];exact a)⟩)
theorem VC.take(id:Int): ∃Yz:Choice×Int,AP c id=g' Yz/\DC c id=g' Yz/\(Yz.2≠0\/Yz.2=0/\ ∃q,VC Yz.1 q):=by
 unfold AP DC;simp only[v.Hl,v.T5,];cases v with
 | @hp k ok a=>obtain⟨R,r1,r2,r3⟩:=alL ok id;exact yz (mk:=λk=>⟨1,k,jr,kM,jc⟩) r1 r2 (r3.imp (λh=>h) λ⟨h,q,e⟩=>⟨h,_,.hp q (by rw[e];exact a)⟩)
 | @tn k ok a=>obtain⟨R,r1,r2,r3⟩:=alI ok ok.sh id;exact yz (mk:=λk=>⟨2,js,k,kM,jc⟩) r1 r2 (r3.imp (λh=>h) λ⟨h,q,e⟩=>⟨h,_,.tn q (by rw[e];exact a)⟩)
 | @ht k ok a=>obtain⟨R,r1,r2,r3⟩:=alE ok id;exact yz (mk:=λk=>⟨3,js,jr,k,jc⟩) r1 r2 (r3.imp (λh=>h) λ⟨h,q,e⟩=>⟨h,_,.ht q (by rw[e];exact a)⟩)
 | @hg k ok a=>obtain⟨R,r1,r2,r3⟩:=alG ok id;exact yz r1 r2 (r3.imp (λh=>h) λ⟨h,q,e⟩=>⟨h,_,.hg q (by rw[e];exact a)⟩)
theorem VC.change(p:Pt): ∃Yz:Choice×Int,xq c p=g' Yz/\zc c p=g' Yz/\(Yz.2≠0\/Yz.2=0/\ ∃q,VC Yz.1 q):=by
 unfold xq zc;simp only[v.Hl,v.T5,];cases v with
 | @hp k ok a=>obtain⟨R,r1,r2,r3⟩:=aek ok p;exact yz (mk:=λk=>⟨1,k,jr,kM,jc⟩) r1 r2 (r3.imp id λ⟨h,q,e⟩=>⟨h,_,.hp q (by rw[e];exact a)⟩)
 | @tn k ok a=>obtain⟨R,r1,r2,r3⟩:=aei ok ok.sh p;exact yz (mk:=λk=>⟨2,js,k,kM,jc⟩) r1 r2 (r3.imp id λ⟨h,q,e⟩=>⟨h,_,.tn q (by rw[e];exact a)⟩)
 | @ht k ok a=>obtain⟨R,r1,r2,r3⟩:=aee ok p;exact yz (mk:=λk=>⟨3,js,jr,k,jc⟩) r1 r2 (r3.imp id λ⟨h,q,e⟩=>⟨h,_,.ht q (by rw[e];exact a)⟩)
 | @hg k ok a=>obtain⟨R,r1,r2,r3⟩:=aeg ok p;exact yz r1 r2 (r3.imp id λ⟨h,q,e⟩=>⟨h,_,.hg q (by rw[e];exact a)⟩)
theorem VC.adv{to:Int×Int}(dK:jo to): ∃Yz:Choice×J _×Int,mb c to=g' Yz/\sg c to=g' Yz/\(Yz.2.2≠0\/Yz.2.2=0/\ ∃q,VC Yz.1 q)/\(to=q.io->Yz=(c,[],0)):=by
 have fI:=v.fI;have z:((0:Int) !=0)=Ml:=rfl;have s: ∀u:Int,qP c to=g' u->sg c to=bif u !=0 then g' (kS,[],u)else DE c to:=λu h=>by unfold sg;simp only[v.T5,h];simp
 by_cases rt:bI to
 case neg=>refine⟨_,?_,s 8 (by unfold qP;rw[jL dK,EQ rt];rfl),.inl (by decide),λh=>absurd (by rw[h];exact fI.ie) rt⟩;unfold mb;rw[v.Hl,aj,z,AC,bR dK,EQ rt];rfl
 rcases pbx dK rt with e|⟨e,at_⟩
 ·obtain⟨n,D,S⟩:=c1' dK
  have hn:n≠0:=λh=>by grind[OC]
  refine⟨_,?_,s 2 (by unfold qP;rw[jL dK,Do rt,aj,z,AC,D,aj,cC hn];rfl),.inl (by decide),λh=>by rw[h,OC fI.cO v.ask]at e;cases e⟩;unfold mb;rw[v.Hl,aj,z,AC,bR dK,Do rt,aj,z,AC,e];rfl
 rw[s _ (by unfold qP;rw[jL dK,Do rt,aj,z,AC,ab3 dK at_,aj,z,AC,v.lc.2,aj,ahn dK fI rt,aj])];unfold mb DE;rw[v.Hl,aj,z,AC,bR dK,Do rt,aj,z,AC,e,aj,z,AC]
 by_cases le:jq to q.io<0
 ·rw[Do le]
  have azZ:to≠q.io:=λk=>by simp_all[afp,]
  refine⟨(kS,[],44),?_,rfl,.inl (by decide),λh=>absurd h azZ⟩;cases v with
  | @hp k ok=>unfold rW;rw[ok.Hl.1,aj,aY rfl,AC,bR dK,Do rt,aj,aY rfl,AC,yp dK fI.cO,Do ⟨rt,fI.ie⟩,aj,aA le];rfl
  | @tn k ok=>unfold qy;rw[ok.Hl.1,aj,aY rfl,AC,bR dK,Do rt,aj,aY rfl,AC,yp dK fI.cO,Do ⟨rt,fI.ie⟩,aj,aA le];rfl
  | @ht k ok=>unfold qA;rw[ok.Hl.1,aj,aY rfl,AC,bR dK,Do rt,aj,aY rfl,AC,yp dK fI.cO,Do ⟨rt,fI.ie⟩,aj,aA le];rfl
  | @hg k ok=>unfold qB;rw[ok.Hl.1,aj,aY rfl,AC,bR dK,Do rt,aj,aY rfl,AC,yp dK fI.cO,Do ⟨rt,fI.ie⟩,aj,aA le];rfl
 rw[EQ le];cases v with
 | @hp k ok a=>obtain⟨R,r1,r2,r3,r4⟩:=aqY rt dK ok le;exact L8 (λk=>⟨1,k,jr,kM,jc⟩) r1 r2 (r3.imp id λ⟨h,q,e⟩=>⟨h,_,.hp q (by grind)⟩) (λh=>by rw[r4 (by rw[h];exact R8 fI λe he=>ok.lead e (ok.cert.mem_iff.1 he)),h])
 | @tn k ok a=>obtain⟨R,r1,r2,r3,r4⟩:=aqZ rt dK ok le;exact L8 (λk=>⟨2,js,k,kM,jc⟩) r1 r2 (r3.imp id λ⟨h,q,e⟩=>⟨h,_,.tn q (by grind)⟩) (λh=>by rw[r4 (by rw[h];exact R8 fI λe he=>afF fI.fD (Al ok.br ok.perm) (by rw[<-ok.right];exact ok.cert.mem_iff.1 he)),h])
 | @ht k ok a=>obtain⟨R,r1,r2,r3,r4⟩:=aq0 rt dK ok le;exact L8 (λk=>⟨3,js,jr,k,jc⟩) r1 r2 (r3.imp id λ⟨h,q,e⟩=>⟨h,_,.ht q (by grind)⟩) (λh=>by rw[r4 (by rw[h];exact R8 fI λe he=>(ok.ut.Qf fI.fD).2.2 e (ok.cert.mem_iff.1 he)),h])
 | @hg k ok a=>obtain⟨R,r1,r2,r3,r4⟩:=aq1 rt dK ok le;exact L8 (λk=>⟨4,js,jr,kM,k⟩) r1 r2 (r3.imp id λ⟨h,q,e⟩=>⟨h,_,.hg q (by grind)⟩) (λh=>by rw[r4 (by rw[h];exact R8 fI λe he=>(CD fI.fD).2.2 e (by rw[ok.up];exact ok.cert.mem_iff.1 he)),h])
theorem VC.aq2(a:Int×Int×Int×Int×Int×Int×Int)(dK:jo a.2.2.2.2.2): ∃Yz:Choice×J _×Int,vf c a=g' Yz/\(Yz.2.2≠0\/Yz.2.2=0/\ ∃q,VC Yz.1 q)/\si c a=g' (Yz.1,IR (Su Yz.2.1),Yz.2.2==0):=by
 unfold vf si;cases a.1==1 with
 |true=>obtain⟨Yz,s1,s2,s3⟩:=v.put (a.2.1,a.2.2.1,a.2.2.2.1);simp_all
 |false=>
 cases a.1==2 with
 |true=>obtain⟨Yz,s1,s2,s3⟩:=v.take a.2.2.2.2.1;simp_all
 |false=>
 cases a.1==3 with
 |true=>obtain⟨Yz,s1,s2,s3⟩:=v.change (a.2.1,a.2.2.1,a.2.2.2.1);simp_all
 |false=>
 cases a.1==4 with
 |true=>obtain⟨Yz,s1,s2,s3,_⟩:=v.adv dK;grind
 |false=>simp
end
theorem GW(l:Vt)(i:Int)(c d:Choice)(e p:Int):vg (l,IR (Su l),i,U6 c d e p)=
 bif KO (i<IR (Su l))then(az l i).bind λa0=>(vf d a0).bind λa1=>bif a1.2.2 !=0 then g' (.next (l,IR (Su l),M d5 (i+1),U6 c d e p))else
  (ot a1.1).bind λn2=>g' (.next (l,IR (Su l),M d5 (i+1),U6 c a1.1 (M d5 (e+IR (Su a1.2.1))) (if n2>p then n2 else p)))
 else(o3 d).bind λn3=>(o3 c).bind λn4=>g' (.done (d,(e,M d5 (n3-n4),p),0)):=rfl
theorem p8(l:Vt)(i:Int)(c d:Choice)(e p:Int):ry (l,i,U6 c d e p)=
 bif KO (i<IR (Su l))then(az l i).bind λa0=>(si d a0).bind λa1=>bif !a1.2.2 then g' (.next (l,M d5 (i+1),U6 c d e p))else
  (fv a1.1).bind λr2=>g' (.next (l,M d5 (i+1),U6 c a1.1 (M d5 (e+a1.2.1)) (if IR (Su r2.jp.am)>p then IR (Su r2.jp.am)else p)))
 else(fv d).bind λr3=>(fv c).bind λr4=>g' (.done (d,(e,M d5 (r3.af.aO-r4.af.aO),p),0)):=rfl
theorem alN {c : Choice} {qd0 : aE} (vc : VC c qd0) (l : Vt) (I : (Su l) <= 120) (hr : ∀ a ∈ l, jo a.2.2.2.2.2) : ∀ (k i : Nat) (d : Choice) (e p : Int) (q : aE), (Su l) - i <= k -> i <= (Su l) -> VC d q ->
    ∃ (R : Tm) (q' : aE), VC R.1 q' /\ R.2.2 = 0 /\ au vg (l, IR (Su l), (i : Int), U6 c d e p) = g' R /\ au ry (l, (i : Int), U6 c d e p) = g' R := by
  have fin : ∀ (d : Choice) (e p : Int) (q : aE), VC d q -> ∃ (R : Tm) (q' : aE), VC R.1 q' /\ R.2.2 = 0 /\ au vg (l, IR (Su l), ((Su l) : Int), U6 c d e p) = g' R /\ au ry (l, ((Su l) : Int), U6 c d e p) = g' R := fun d e p q v =>
    ⟨(d, (e, M d5 _, p), 0), q, v, rfl, ar (by rw [GW, aB, aF (by omega), AC, v.next, aj, vc.next, aj]), ar (by rw [p8, aB, aF (by omega), AC, v.lc.2, aj, vc.lc.2, aj])⟩
  intro k
  induction k with
  | zero =>
    intro i d e p q hd N v
    obtain rfl : i = (Su l) := by omega
    exact fin d e p q v
  | succ k ih =>
    intro i d e p q hd N v
    by_cases he : i = (Su l)
    · subst he; exact fin d e p q v
    have yD : i < (Su l) := by omega
    obtain ⟨Yz, s1, s2, s3⟩ := v.aq2 l[i]! (hr _ (aJ yD))
    have w := aN (show i < 1000000000 by omega)
    rcases s2 with h | ⟨h, q', v'⟩
    · rw [aD (by
          rw [GW, aB, aA (by omega), ww, aq l i yD, aj, s1, aj, cC h, ww, w]),
        aD (show ry (l, (i : Int), U6 c d e p) = g' (.next (l, ((i + 1 : Nat) : Int), U6 c d e p)) by
          rw [p8, aB, aA (by omega), ww, aq l i yD, aj, s3, aj, hO h, Mq, ww, w])]
      exact ih _ d e p q (by omega) (by omega) v
    rw [aD (by
        rw [GW, aB, aA (by omega), ww, aq l i yD, aj, s1, aj, aY h, AC, v'.am, aj, w]),
      aD (show ry (l, (i : Int), U6 c d e p) = g' (.next (l, ((i + 1 : Nat) : Int), U6 c Yz.1 (M d5 (e + IR (Su Yz.2.1))) (if ((Su q'.jp.am) : Int) > p then ((Su q'.jp.am) : Int) else p))) by
        rw [p8, aB, aA (by omega), ww, aq l i yD, aj, s3, aj, ju h, NE, AC, v'.lc.2, aj, w]; rfl)]
    exact ih _ Yz.1 _ _ q' (by omega) (by omega) v'
theorem aeo{c:Choice}(D:uu c.bv.lc/\Su c.bv.bv<=70)(S:rS c.dd)(h3:BQ c.bW)(h4:BS c.bN):qo c=g' c:=by unfold qo;rw[akn D.1 (by omega),aj,hnm S,aj,afl h3,aj,qd2 h4,aj]
theorem aep{c:Choice}(D:uu c.bv.lc/\Su c.bv.bv<=70)(S:rS c.dd)(h3:BQ c.bW)(h4:BS c.bN):jm c c=g' Ih:=by unfold jm;rw[ju rfl,ww,Kw D.1 (by omega),aj,ww,H4 S,aj,ww,FC h3,aj,ww,FF h4];rfl
theorem aeq:jm kS kS=g' Ih:=aep ⟨nI,YG _⟩ hx' ⟨nI,YG _⟩ ⟨nI,YG _⟩
theorem aao{c:Choice}(n1:ze c.bv.lc)(n2:ze c.dd.lc)(n3:ze c.bW.lc)(n4:ze c.bN.lc)(D:uu c.bv.lc/\Su c.bv.bv<=70)(S:rS c.dd)(h3:BQ c.bW)(h4:BS c.bN)
 (l:Vt) (hr: ∀a∈l,jo a.2.2.2.2.2): ∃R:Tm,ua c l=g' R/\zk c l=g' R/\jm R.1 R.1=g' Ih:=by
 unfold ua zk
 by_cases hv: ∃q,VC c q
 ·obtain⟨q,v⟩:=hv
  rw[v.io,aj,aY rfl,AC,v.T5,aj,aY rfl,AC]
  by_cases I:(120:Int)<IR (Su l)
  ·simp_all[aeq]
  rw[aF I,AC,AC];rw[aB]at I;obtain⟨Yz,a1,_,_,a3⟩:=v.adv v.fI.cO;obtain⟨R,q',v',_,r1,r2⟩:=alN v l (by omega) hr (Su l) 0 c 0 _ q (by omega) (by omega) v;refine⟨R,?_,?_,v'.same⟩
  ·rw[a1,aj,a3 rfl,v.am,aj];exact r1
  rw[aeo D S h3 h4,aj,v.lc.2,aj];exact r2
 have e1:=(aan n1 n2 n3 n4 D S h3 h4).resolve_right hv
 have e2:=(aeb n1 n2 n3 n4 D S h3 h4).resolve_right hv;unfold wN;simp_all[aeq]
theorem h2S(c:Choice)(l:Vt)(n1:ze c.bv.lc)(n2:ze c.dd.lc)(n3:ze c.bW.lc)(n4:ze c.bN.lc)(hr: ∀a∈l,jo a.2.2.2.2.2):vJ c l=g' Ih:=by
 unfold vJ Fa
 rcases qe0 c.bv with e|⟨e,D⟩
 ·rw[e];rfl
 rw[e,aj,AC];rcases qa0 c.dd with e|⟨e,S⟩
 ·rw[e];rfl
 rw[e,aj,AC];rcases ako c.bW with e|⟨e,h3⟩
 ·rw[e];rfl
 rw[e,aj,AC];rcases l12 c.bN with e|⟨e,h4⟩
 ·rw[e];rfl
 rw[e,aj,aj,AC];have fI: ∃q,fv c=g' q:=by unfold fv;cases c.v6==1<;>cases c.v6==2<;>cases c.v6==3<;>exact⟨_,rfl⟩
 obtain⟨q,hq⟩:=fI;rw[hq,aj];unfold HC;rw[aj];cases KO (10<IR (Su q.jp.am))with
 |true=>rfl
 |false=>
 rw[AC];obtain⟨R,r1,r2,r3⟩:=aao n1 n2 n3 n4 D S h3 h4 l hr;have tail:((qo c).bind λr3=>(ua r3 l).bind λa4=>(zk c l).bind λa5=>(jm a4.1 a5.1).bind λb6=>bif b6 then bif(a4.2.1.1==a5.2.1.1)&&((a4.2.1.2.1==a5.2.1.2.1)&&(a4.2.1.2.2==a5.2.1.2.2))then bif a4.2.2==a5.2.2 then
  (jm r3 c).bind λb7=>g' b7 else g' Ml else g' Ml else g' Ml)=g' Ih:=by
  rw[aeo D S h3 h4,aj,r1,aj,r2,aj,r3,aj,ww,ju rfl,ju rfl,ju rfl,al,al,ww,ju rfl,ww,aep D S h3 h4];rfl
 rw[tail];cases KO (10<IR (Su l))<;>cases KO (IR (Su l)<=120)<;>cases KO (130<IR (Su l))<;>rfl
end Go.Proofs.YtbelikaakgedaaaGreat
