/- Plain laws (5). -/
import Derived.Test.YtkdikjnhkfffjaaGreatPQM4
import Derived.Test.YtkdikjnhkfffjaaGreatPQS3
import Derived.Test.YtkdikjnhkfffjaaGreatPVm3
open List renaming replicate->EQ,length_map->If,length_replicate->IR,length_append->NE,length_singleton->PP,length_set->UV,length_take->aaQ,append_nil->ab0,length_eq_zero_iff->abr,take_length->abu,length_eraseIdx_le->abv,take_append_of_le_length->abw,mem_append->aby,take_of_length_le->abz,mem_map->abA,pairwise_iff_getElem->abE,eq_of_mem_replicate->abL,length_cons->abM,length_filter_le->abQ,set_append_right->abS,filter_eq_self->abT,replicate_succ->abU,mem_map_of_mem->abV,filter_append->abX,mem_replicate->ac3,length_range->aci,length_drop->acm,getElem_map->acF,range->acI,mem_range->ad4,length->adu
open Nat renaming le_refl->WF,not_lt_zero->aaP,div_div_eq_div_mul->abB,pow_le_pow_right->abC,zero_le->abF,lt_trichotomy->abK,le_of_eq->abN,pow_succ->acl,strongRecOn->acG,zero_add->ad5,le_trans->ad6,sub_self->ad7,mul_comm->adc,pow_zero->ado
open Bool renaming not_true->aai,not_false->ad3,true->ae0,false->ae1
open Int renaming ofNat->abq,toNat_natCast->ack
open Option.some renaming inj->abt
open Classical renaming byContradiction->abx,em->abP,not_imp->ac6
open List.Perm renaming refl->abD
open Option renaming some->adw
open Decidable renaming decide->ae2
namespace Go.Proofs.YtkdikjnhkfffjaaGreat
open Go.Vm Classical
structure Ma(p w:List Int):Prop where
 one:1<=adu p
 iq:(adu p)<=64
 len:(adu w)+1=adu p
 once:D2 p
 Vg: ∀x∈p,-1<=x/\x<=65535
 cho:Db p w
 none_: ∀i,i<adu w->w[i]!<0->bu p w (2*i+1)<0/\bu p w (2*i+2)<0
def Pb(p w:List Int)(i:Nat):Prop:=(w[i]! =bu p w (2*i+1)\/w[i]! =bu p w (2*i+2))/\ ¬(w[i]!<0/\(0<=bu p w (2*i+1)\/0<=bu p w (2*i+2)))
def Xz(p w:List Int)(i:Nat):Prop:=(w[i]! =bu p w (2*i+1)\/w[i]! =bu p w (2*i+2))/\ ¬(w[i]! = -1/\(bu p w (2*i+1)≠ -1\/bu p w (2*i+2)≠ -1))
def Mb(p:List Int)(i:Nat):Prop:= -1<=p[i]!/\p[i]!<=65535
def Lh(p:List Int)(i:Nat):Prop:= ∀j,j<i->p[j]! =p[i]!->p[i]!<0
theorem Gx{p:List Int}:(∀i,i<adu p->Lh p i)↔D2 p:=
 ⟨λh i j p8 hj e=>by rw[e];exact h j hj i p8 e,λh i hi j hj e=>by have:=h j i hj hi e;omega⟩
theorem Pc{p:List Int}:(∀i,i<adu p->Mb p i)↔ ∀x∈p,-1<=x/\x<=65535:=(C3 (P:=λx=> -1<=x/\x<=65535)).symm
theorem aa7{p w:List Int}(h1:1<=adu p)(h64:(adu p)<=64)(hl:(adu w)+1=adu p):
 Ma p w↔(∀i,i<adu p->Lh p i)/\(∀i,i<adu p->Mb p i)/\ ∀i,i<adu w->Pb p w i:=by
 rw[Gx,Pc];constructor
 ·intro h
  refine⟨h.once,h.Vg,λi hi=>⟨h.cho i hi,λ⟨a,b⟩=>?_⟩⟩;have:=h.none_ i hi a;omega
 rintro⟨a,b,c⟩
 exact⟨h1,h64,hl,a,b,λi hi=>(c i hi).1,λi hi h0=>by have:=(c i hi).2;omega⟩
theorem RE{p w:List Int}(hl:(adu w)+1=adu p)(hr: ∀x∈p,-1<=x/\x<=65535):(∀i,i<adu w->Pb p w i)↔ ∀i,i<adu w->Xz p w i:=by
 constructor<;>intro h i hi
 ·have hc:=λi hi=>(h i hi).1
  have a1:=hr _ (jq hl hc (i:=2*i+1) (by omega));have a2:=hr _ (jq hl hc (i:=2*i+2) (by omega));obtain⟨b1,b2⟩:=h i hi;exact⟨b1,by omega⟩
 have hc:=λi hi=>(h i hi).1
 have a1:=hr _ (jq hl hc (i:=2*i+1) (by omega));have a2:=hr _ (jq hl hc (i:=2*i+2) (by omega));obtain⟨b1,b2⟩:=h i hi;exact⟨b1,by omega⟩
theorem Aw(p w:List Int)(hl:(adu p)<=1000)(wl:(adu w)<=1000):oo ⟨p,w⟩=adw (if Ma p w then 0 else 8):=by
 unfold oo;simp[]
 by_cases h1:((adu p):Int)<1
 ·rw[az h1,v6,Do (λh=>by have:=h.one;omega)]
 rw[aA h1,ww]
 by_cases h2:(64:Int)<((adu p):Int)
 ·rw[az h2,v6,Do (λh=>by have:=h.iq;omega)]
 rw[aA h2,ww,vt (by omega) (by omega)]
 by_cases h3:(adu w)+1=adu p
 case neg=>rw[dV (by omega),v6,Do (λh=>h3 h.len)]
 rw[bw (by omega),ww];have l1:=kV (body:=kf) (λi=>(w,((adu w):Int),(i:Int),p,w)) (adu w) (Pb p w) (e:= .done (.done 0)) (λi hi=>by
  unfold kf Pb;have k1:=uN (i:=i) (by omega) 1 (by omega);have k2:=uN (i:=i) (by omega) 2 (by omega);simp (disch:=omega) only[az,ar w i hi,aj,show aa .i64 (aa .i64 (2*(i:Int))+1)=((2*i+1:Nat):Int)from k1,show aa .i64 (aa .i64 (2*(i:Int))+2)=((2*i+2:Nat):Int)from k2,qG,aM];generalize bu p w (2*i+1)=x;generalize bu p w (2*i+2)=y;generalize w[i]! =v
  by_cases a1:v=x
  ·rw[bw a1,ww]
   by_cases a3:v<0
   ·rw[az a3,v6]
    by_cases a4:0<=(if y>x then y else x)
    ·rw[az a4,v6]
     exact⟨λ_=>rfl,λh=>by split at a4<;>omega⟩
    rw[aA a4,ww]
    exact⟨λh=>by split at a4<;>omega,λ_=>rfl⟩
   rw[aA a3,ww]
   exact⟨λh=>by omega,λ_=>rfl⟩
  ·rw[dV a1,v6]
   by_cases a2:v=y
   ·rw[bw a2,ww]
    by_cases a3:v<0
    ·rw[az a3,v6]
     by_cases a4:0<=(if y>x then y else x)
     ·rw[az a4,v6]
      exact⟨λ_=>rfl,λh=>by split at a4<;>omega⟩
     rw[aA a4,ww]
     exact⟨λh=>by split at a4<;>omega,λ_=>rfl⟩
    rw[aA a3,ww]
    exact⟨λh=>by omega,λ_=>rfl⟩
   rw[dV a2,v6]
   exact⟨λ_=>rfl,λh=>by omega⟩) (by
  unfold kf;simp (disch:=omega) only[aA,ww])
 have l1':aq kf (w,((adu w):Int),0,p,w)=adw (.done (.done (if∀i,i<adu w->Pb p w i then 0 else 8))):=by
  refine(l1).trans ?_
  by_cases h: ∀i,i<adu w->Pb p w i
  ·rw[AC h,AC h]
  rw[Do h,Do h]
 have l2: ∀m,aq kg (p,((adu p):Int),0,p,w,m)=adw (.done (if(∀i,i<adu p->Mb p i)/\ ∀i,i<adu w->Pb p w i then 0 else 8)):=λm=>by
  have l2:=kV (body:=kg) (λi=>(p,((adu p):Int),(i:Int),p,w,m)) (adu p) (Mb p) (e:= .done (if∀i,i<adu w->Pb p w i then 0 else 8)) (λi hi=>by
   unfold kg wc Mb;simp only[az (show(i:Int)<((adu p):Int) by omega),v6,ar p i hi,aj,aM (show i<1000000000 by omega)];generalize p[i]! =v
   by_cases a1: -1<=v
   ·rw[az a1,v6,aj]
    by_cases a2:v<=65535
    ·rw[az a2];exact⟨λh=>absurd ⟨a1,a2⟩ h,λ_=>rfl⟩
    rw[aA a2]
    refine⟨λ_=>?_,λh=>absurd h.2 a2⟩;rw[az (by omega)];rfl
   ·rw[aA a1,ww,aj]
    refine⟨λ_=>?_,λh=>absurd h.1 a1⟩;rw[az (by omega)];rfl) (by
   unfold kg;simp (disch:=omega) only[aA,ww,aK,l1'])
  refine(l2).trans ?_
  by_cases h: ∀i,i<adu p->Mb p i
  ·rw[AC h];congr 2;exact Bw ⟨λk=>⟨h,k⟩,λk=>k.2⟩
  rw[Do h,Do (λk=>h k.1)]
 have l3:=kV (body:=pV) (λi=>(p,((adu p):Int),(i:Int),p,w,Lf p i)) (adu p) (Lh p) (e:=if(∀i,i<adu p->Mb p i)/\ ∀i,i<adu w->Pb p w i then 0 else 8) (λi hi=>by
  unfold pV;simp only[az (show(i:Int)<((adu p):Int) by omega),v6,ar p i hi,aj,Lg,aM (show i<1000000000 by omega)]
  by_cases a:Lh p i
  ·rw[aA (λ⟨h0,j,hj,e⟩=>by have:=a j hj e;omega)]
   exact⟨λh=>absurd a h,λ_=>rfl⟩
  ·rw[az (by
    unfold Lh at a;obtain⟨j,hj⟩:=Classical.not_forall.1 a;obtain⟨hj,h⟩:=ac6.1 hj;obtain⟨h,h0⟩:=ac6.1 h;exact⟨by omega,j,hj,h⟩)]
   refine⟨λ_=>?_,λh=>absurd h a⟩;rw[az (by omega)];rfl) (by
  unfold pV;simp (disch:=omega) only[aA,ww,aK,l2])
 refine(l3).trans ?_;rw[Bw (aa7 (by omega) (by omega) h3)]
 grind
theorem Li(p:List Int)(hl:(adu p)<=1000):CQ p=adw (!ae2 (D2 p)):=by
 have l2:=kV (body:=sV) (λi=>(p,(i:Int))) (adu p) (Lh p) (r:=ae0) (e:=ae1) (λi hi=>by
  have l1:=kV (body:=sU) (λj=>(p,(i:Int),(j:Int))) i (λj=>p[j]! =p[i]!->p[i]!<0) (r:= .done ae0) (e:= .next (p,((i+1:Nat):Int))) (λj hj=>by
   unfold sU;simp (disch:=omega) only[ar,aM]
   grind) (by
   unfold sU;simp (disch:=omega) only[aA,ww,aM])
  unfold sV
  by_cases a:Lh p i
  ·rw[AC (show∀j,j<i->p[j]! =p[i]!->p[i]!<0 from a)]at l1
   grind
  ·rw[Do (show¬ ∀j,j<i->p[j]! =p[i]!->p[i]!<0 from a)]at l1
   grind) (by
  unfold sV;simp)
 refine(l2).trans ?_
 by_cases h:D2 p
 ·rw[AC (Gx.2 h),az h];rfl
 rw[Do (λk=>h (Gx.1 k)),aA h];rfl
theorem Lj(p w:List Int)(hl:(adu p)<=1000)(wl:(adu w)<=1000):yL ⟨p,w⟩=adw (if Ma p w then 0 else 8):=by
 unfold yL;simp[]
 by_cases h1:((adu p):Int)<1
 ·rw[az h1,v6,Do (λh=>by have:=h.one;omega)]
 rw[aA h1,ww]
 by_cases h2:(64:Int)<((adu p):Int)
 ·rw[az h2,v6,Do (λh=>by have:=h.iq;omega)]
 rw[aA h2,ww,vt (by omega) (by omega)]
 by_cases h3:(adu w)+1=adu p
 case neg=>rw[dV (by omega),v6,Do (λh=>h3 h.len)]
 rw[bw (by omega),ww,Li p hl,aj]
 by_cases ho:D2 p
 case neg=>rw[aA ho,Do (λh=>ho h.once)];rfl
 rw[az ho,aai,ww];have l1:=kV (body:=o9) (λi=>((i:Int),p,w)) (adu w) (Xz p w) (e:= .done 0) (λi hi=>by
  unfold o9 Xz;have k1:=uN (i:=i) (by omega) 1 (by omega);have k2:=uN (i:=i) (by omega) 2 (by omega);simp (disch:=omega) only[aK,az,ar w i hi,aj,show aa .i64 (aa .i64 (2*(i:Int))+1)=((2*i+1:Nat):Int)from k1,show aa .i64 (aa .i64 (2*(i:Int))+2)=((2*i+2:Nat):Int)from k2,HC,aM];generalize bu p w (2*i+1)=x;generalize bu p w (2*i+2)=y;generalize w[i]! =v
  by_cases a1:v=x
  ·rw[bw a1,ww]
   by_cases a3:v= -1
   ·rw[lZ a3,v6]
    by_cases a4:x= -1
    ·rw[bw a4,ww]
     by_cases a5:y= -1
     ·rw[bw a5,ww];exact⟨λh=>by omega,λ_=>rfl⟩
     rw[dV a5,v6];exact⟨λ_=>rfl,λh=>by omega⟩
    rw[dV a4,v6];exact⟨λ_=>rfl,λh=>by omega⟩
   rw[jA a3,ww];exact⟨λh=>by omega,λ_=>rfl⟩
  ·rw[dV a1,v6]
   by_cases a2:v=y
   ·rw[bw a2,ww]
    by_cases a3:v= -1
    ·rw[lZ a3,v6]
     by_cases a4:x= -1
     ·rw[bw a4,ww]
      by_cases a5:y= -1
      ·rw[bw a5,ww];exact⟨λh=>by omega,λ_=>rfl⟩
      rw[dV a5,v6];exact⟨λ_=>rfl,λh=>by omega⟩
     rw[dV a4,v6];exact⟨λ_=>rfl,λh=>by omega⟩
    rw[jA a3,ww];exact⟨λh=>by omega,λ_=>rfl⟩
   rw[dV a2,v6]
   exact⟨λ_=>rfl,λh=>by omega⟩) (by
  unfold o9;simp (disch:=omega) only[aK,aA,ww])
 have l1':aq o9 (0,p,w)=adw (.done (if∀i,i<adu w->Xz p w i then 0 else 8)):=by
  refine(l1).trans ?_
  by_cases h: ∀i,i<adu w->Xz p w i
  ·rw[AC h,AC h]
  rw[Do h,Do h]
 have l2:=kV (body:=sW) (λi=>(((adu p):Int),(i:Int),p,w)) (adu p) (Mb p) (e:=if∀i,i<adu w->Xz p w i then 0 else 8) (λi hi=>by
  unfold sW Mb;simp (disch:=omega) only[az,ar p i hi,aj,aM];generalize p[i]! =v
  by_cases a1:v< -1
  ·rw[az a1];exact⟨λ_=>rfl,λh=>by omega⟩
  ·rw[aA a1,ww]
   by_cases a2:65535<v
   ·rw[az a2];exact⟨λ_=>rfl,λh=>by omega⟩
   rw[aA a2];exact⟨λh=>by omega,λ_=>rfl⟩) (by
  unfold sW;simp (disch:=omega) only[aA,ww,l1'])
 refine(l2).trans ?_;rw[Bw (aa7 (by omega) (by omega) h3)]
 congr 1
 by_cases hr: ∀i,i<adu p->Mb p i
 ·rw[AC hr]
  exact Bw ⟨λh=>⟨Gx.2 ho,hr,(RE h3 (Pc.1 hr)).2 h⟩,λh=>(RE h3 (Pc.1 hr)).1 h.2.2⟩
 grind
noncomputable def qn(p w:List Int)(k:Nat):List (Int×Int):=(acI k).filterMap (y6 p w)
theorem y7(p w:List Int)(k:Nat):qn p w (k+1)=qn p w k++(match y6 p w k with|some e=>[e]|none=>[]):=by
 unfold qn
 grind[List.range_succ]
theorem E7(p w:List Int)(k:Nat):(qn p w k).length<=k:=by
 have:=List.length_filterMap_le (y6 p w) (acI k)
 rwa [aci]at this
section
variable {p w : List Int} (hl : (adu w) + 1 = (adu p)) (h64 : (adu p) <= 64) (hc : Db p w)
include hl h64
theorem RF:KA ⟨p,w⟩=adw (k8 p w):=by
 have st:=bz (body:=yN) (λi=>((i:Int),p,w,qn p w i)) (adu w) (λi hi=>by
  have k1:=uN (i:=i) (by omega) 1 (by omega);have k2:=uN (i:=i) (by omega) 2 (by omega);have el:=E7 p w i;rw[y7];unfold yN;simp (disch:=omega) only[aK,az,v6,show aa .i64 (aa .i64 (2*(i:Int))+1)=((2*i+1:Nat):Int)from k1,show aa .i64 (aa .i64 (2*(i:Int))+2)=((2*i+2:Nat):Int)from k2,HC,aj,ar w i hi,aM];unfold y6;generalize bu p w _=x;generalize bu p w _=y;generalize w[i]! =v
  by_cases a1:x<0
  ·grind
  rw[aA a1,ww]
  by_cases a2:y<0
  ·grind
  rw[aA a2,ww,Do (by omega)]
  by_cases a3:v=x
  ·rw[lZ a3,v6,AC a3,bG (by grind),aj]
  rw[jA a3,ww,Do a3,bG (by grind),aj])
 refine(st).trans (au ?_);unfold yN;simp (disch:=omega) only[aK,aA,];rfl
include hc
theorem RG (hr: ∀x∈p,-1<=x/\x<=65535):aq oW (w,((adu w):Int),0,p,w,[])=adw (⟨p,w⟩,k8 p w):=by
 have st:=bz (body:=oW) (fun i=>(w,((adu w):Int),(i:Int),p,w,qn p w i)) (adu w) (fun i hi=>by
  have k1:=uN (i:=i) (by omega) 1 (by omega);have k2:=uN (i:=i) (by omega) 2 (by omega);have el:=E7 p w i;have m1:=hr _ (jq hl hc (i:=2*i+1) (by omega));have m2:=hr _ (jq hl hc (i:=2*i+2) (by omega));have cv:=hc i hi;have fin: ∀(x y v:Int),(-1<=x/\x<=65535)->(-1<=y/\y<=65535)->(v=x\/v=y)->
   (bif ae2 (0<=x) then
    bif ae2 (0<=y) then (ba (qn p w i) [(aa .i64 (aa .i64 (x+y) -v),v)]).bind fun l3=>adw (Step.next (ρ:=cd×List (Int×Int)) (w,((adu w):Int),aa .i64 ((i:Int)+1),p,w,l3))
    else adw (Step.next (w,((adu w):Int),aa .i64 ((i:Int)+1),p,w,qn p w i))
   else adw (Step.next (w,((adu w):Int),aa .i64 ((i:Int)+1),p,w,qn p w i)))=
   adw (Step.next (w,((adu w):Int),((i+1:Nat):Int),p,w,qn p w i++(match (if x<0\/y<0 then none else if v=x then adw (y,x) else adw (x,y)) with|some e=>[e]|none=>[]))):=by
   intro x y v hx hy hv;rw [aM (by omega)]
   by_cases a1:x<0
   · rw [aA (by omega),ww,AC (.inl a1)];simp
   rw [az (by omega),v6]
   by_cases a2:y<0
   · rw [aA (by omega),ww,AC (.inr a2)];simp
   rw [az (by omega),v6,Do (by omega),bG (by rw [PP];omega),aj,fN (n:=x+y) ⟨by omega,by omega⟩,fN ⟨by omega,by omega⟩]
   grind
  rw [y7];unfold oW;have e1:bu p w (2*i+1)=if 2*i+1<(adu w) then w[2*i+1]! else p[2*i+1-(adu w)]!:=rfl
  have e2:bu p w (2*i+2)=if 2*i+2<(adu w) then w[2*i+2]! else p[2*i+2-(adu w)]!:=rfl
  have f1:=fin _ _ _ m1 m2 cv;simp (disch:=omega) only [aK,az,show aa .i64 (aa .i64 (2*(i:Int))+1)=((2*i+1:Nat):Int) from k1,show aa .i64 (aa .i64 (2*(i:Int))+2)=((2*i+2:Nat):Int) from k2,ar w i hi,aj,beq_self_eq_true]
  by_cases b1:2*i+1<adu w
  · rw [AC b1] at e1
    rw [az (by omega),v6,ar w _ b1,aj,<- e1]
    by_cases b2:2*i+2<adu w
    · rw [AC b2] at e2
      rw [az (by omega),v6,ar w _ b2,aj,<- e2];exact f1
    rw [Do b2] at e2
    rw [aA (by omega),ww,fN ⟨by omega,by omega⟩,show ((2*i+2:Nat):Int) - ((adu w):Int)=((2*i+2-(adu w):Nat):Int) by omega,ar p _ (by omega),aj,<- e2];exact f1
  rw [Do b1] at e1
  rw [Do (by omega)] at e2;rw [aA (by omega),ww,fN ⟨by omega,by omega⟩,show ((2*i+1:Nat):Int) - ((adu w):Int)=((2*i+1-(adu w):Nat):Int) by omega,ar p _ (by omega),aj,<- e1,
   aA (by omega),ww,fN ⟨by omega,by omega⟩,show ((2*i+2:Nat):Int) - ((adu w):Int)=((2*i+2-(adu w):Nat):Int) by omega,ar p _ (by omega),aj,<- e2]
  exact f1)
 refine (st).trans (au ?_);unfold oW;simp (disch:=omega) only [aA,];rfl
end
structure wo(f:List Pt)(p:List Int):Prop where
 one:1<=adu p
 iq:(adu p)<=64
 once:D2 p
 ids: ∀x∈p,HB f x
theorem wo.Vg{f:List Pt}(aV:aR f){p:List Int}(h:wo f p): ∀x∈p,-1<=x/\x<=65535:=λx hx=>by
 rcases h.ids x hx with e|⟨e,hp⟩
 ·omega
 have:=(bK aV hp).1
 have e2:=(bK aV hp).2;unfold fM at this;omega
section
variable {f : List Pt} (aV : aR f) {t : Int × Int} (r : bo t) (dX : jb t) {p : List Int} (pl : wo f p)
include aV dX pl
theorem pJ:mM f (k8 p (ez f t p))/\(k8 p (ez f t p)).Nodup/\(k8 p (ez f t p)).length<=63:=by have:=dX;have R:=fh (f:=f) (t:=t) pl.one;have m:=pl.iq;have:=R.1;have el:=La p (ez f t p);exact⟨Xw aV R.1 pl.iq R.qk pl.once λx hx h0=>(pl.ids x hx).has h0,O9 R.1 R.qk pl.once,by omega⟩
include r
theorem ye:oX ⟨f⟩ t p=adw (⟨p,ez f t p⟩,k8 p (ez f t p)):=by have R:=fh (f:=f) (t:=t) pl.one;unfold oX;rw[Av aV r dX pl.one pl.iq pl.ids pl.once,aj];exact RG R.1 pl.iq R.qk (pl.Vg aV)
end
def Jd:bQ:=⟨eQ,⟨[],[]⟩⟩
structure adP(c:aH)(f:List Pt)(p:List Int)(k:bQ):Prop where
 zF:yY c f (k8 p (ez f c.ci p)) k.jp
 aX:k.kw=⟨p,ez f c.ci p⟩
def adQ(x y v:Int):List (Int×Int):=(if 0<=x/\x≠v then [(x,v)]else [])++(if 0<=y/\y≠v then [(y,v)]else [])
theorem RH{v:Int}{w N:List Int}{L i:Int}{k c:Nat}{E:List _}(hk:k+2<=adu N)(he:(adu E)+2<=1000000):
 aq kR (v,w,L,i,0+k,2,c,2,0,N,E)=adw (.next (w,L,aa .i64 (i+1),N,E++adQ N[k]! N[k+1]! v)):=by
 have hd:((N.drop (0+k)).take 2).length=2:=by rw[aaQ,acm];omega
 have g0:aF ((N.drop (0+k)).take 2) 0=adw N[k]!:=by have:=ar ((N.drop (0+k)).take 2) 0 (by omega);rw[xo (by omega),Ad]at this;simpa using this
 have g1:aF ((N.drop (0+k)).take 2) 1=adw N[k+1]!:=by have:=ar ((N.drop (0+k)).take 2) 1 (by omega);rw[xo (by omega),Ad]at this;simpa using this
 have s0:kR (v,w,L,i,0+k,2,c,2,0,N,E)=adw (.next (v,w,L,i,0+k,2,c,2,1,N,E++(if 0<=N[k]!/\N[k]!≠v then [(N[k]!,v)]else []))):=by
  unfold kR;simp only[az (show(0:Int)<2 by decide),v6,g0,aj,show aa .i64 ((0:Int)+1)=1 from by decide]
  by_cases a:0<=N[k]!
  ·rw[az a,v6]
   by_cases b:N[k]! =v
   ·rw[bw b,ww,Do (λh=>h.2 b),ab0]
   rw[dV b,v6,AC ⟨a,b⟩,bG (by rw[PP];omega),aj]
  rw[aA a,ww,Do (λh=>a h.1),ab0]
 obtain⟨E1,hE⟩: ∃E1,E1=E++(if 0<=N[k]!/\N[k]!≠v then [(N[k]!,v)]else []):=⟨_,rfl⟩;have l1:(adu E1)<=adu E+1:=by rw[hE,NE];split<;>simp
 rw[<-hE]at s0;have s1:kR (v,w,L,i,0+k,2,c,2,1,N,E1)=adw (.next (v,w,L,i,0+k,2,c,2,2,N,E1++(if 0<=N[k+1]!/\N[k+1]!≠v then [(N[k+1]!,v)]else []))):=by
  unfold kR;simp only[az (show(1:Int)<2 by decide),v6,g1,aj,show aa .i64 ((1:Int)+1)=2 from by decide]
  by_cases a:0<=N[k+1]!
  ·rw[az a,v6]
   by_cases b:N[k+1]! =v
   ·rw[bw b,ww,Do (λh=>h.2 b),ab0]
   rw[dV b,v6,AC ⟨a,b⟩,bG (by rw[PP];omega),aj]
  rw[aA a,ww,Do (λh=>a h.1),ab0]
 rw[aQ s0,aQ s1];refine au ?_;unfold kR;simp;unfold adQ
 grind
section
variable {f : List Pt} {t : Int × Int} {p w : List Int} (hr : Em f t p w) (h64 : (adu p) <= 64) (ho : D2 p)
include hr ho
theorem adR{i:Nat}(hi:i<adu w):adQ (bu p w (2*i+1)) (bu p w (2*i+2)) w[i]! =(match y6 p w i with|some e=>[e]|none=>[]):=by
 have hw:=hr.2 i hi;have ne:=λh=>DW hr.1 hr.qk ho hi h
 have hor:=VE f t (bu p w (2*i+1)) (bu p w (2*i+2));unfold y6;rw[hw];generalize hx:bu p w _=x at ne hor ⊢;generalize hy:bu p w _=y at ne hor ⊢;unfold adQ
 by_cases a1:x<0
 ·have:yk f t x y=y:=by unfold yk;rw[AC a1]
  rw[this,Do (by omega),Do (by omega),AC (.inl a1)];rfl
 by_cases a2:y<0
 ·have:yk f t x y=x:=by unfold yk;rw[Do a1,AC a2]
  rw[this,Do (by omega),Do (by omega),AC (.inr a2)];rfl
 grind
include h64
theorem Lk:yS ⟨p,w⟩=adw (k8 p w):=by
 have hl:=hr.1;have nd: ∀j,j<adu w+adu p->(w++p)[j]! =bu p w j:=λj hj=>by
  unfold bu
  grind
 have st:=bz (body:=s9) (λi=>(w,((adu w):Int),(i:Int),w++p,qn p w i)) (adu w) (λi hi=>by
  have k1:=uN (i:=i) (by omega) 1 (by omega);have k3:aa .i64 ((aa .i64 (2*(i:Int)))+3)=((2*i+3:Nat):Int):=by rw[fN (n:=2*(i:Int)) ⟨by omega,by omega⟩,fN ⟨by omega,by omega⟩];omega
  have el:=E7 p w i;unfold s9;simp (disch:=omega) only[ar w i hi,show aa .i64 (aa .i64 (2*(i:Int))+1)=((2*i+1:Nat):Int)from k1,k3,ack,show 2*i+3- (2*i+1)=2 by omega]
  grind[RH,adR,aM,y7])
 unfold yS;rw[show Wn w p=adw (w++p)from by unfold Wn;grind];refine(st).trans (au ?_);unfold s9;simp (disch:=omega) only[aA,];rfl
end
def dG(p:List Int):List Int:=p.filter λx=>decide (0<=x)
theorem ov{p:List Int}{j:Nat}(hj:j<adu p):dG (p.take (j+1))=dG (p.take j)++if 0<=p[j]! then [p[j]!]else []:=by
 unfold dG;rw[da hj,abX]
 grind
theorem aa8(p:List Int)(j:Nat):(dG (p.take j)).length<=j:=by have:=abQ (λx:Int=>decide (0<=x)) (p.take j);rw[aaQ]at this;unfold dG;omega
theorem Gy(p:List Int)(hl:(adu p)<=1000):Hj p=adw (dG p):=by
 have st:=bz (body:=w7) (λi=>(p,(i:Int),dG (p.take i))) (adu p) (λi hi=>by
  have el:=aa8 p i;rw[ov hi];unfold w7;simp (disch:=omega) only[aK,az,v6,ar p i hi,aj,aM]
  by_cases h:0<=p[i]!
  ·rw[az h,v6,AC h,bG (by rw[PP];omega),aj]
  rw[aA h,ww,Do h,ab0])
 refine(st).trans (au ?_);unfold w7;simp
structure Nq(p:List Int)(i j:Nat)(L:List Int):Prop where
 len:(adu L)=adu p
 le:i<=j
 lt:j<=adu p
 got:L.take i=dG (p.take j)
 rest: ∀k,j<=k->k<adu p->L[k]! =p[k]!
theorem Nq.cnt{p:List Int}{i j:Nat}{L:List Int}(h:Nq p i j L):i=(dG (p.take j)).length:=by have:=congrArg List.length h.got;rw[aaQ,h.len]at this;have:=h.le;have:=h.lt;omega
theorem adS{p:List Int}{i:Nat}{L:List Int}(h:Nq p i (adu p) L): ∃M:List Int,bA p ((i:Int),((adu p):Int),L)=adw (.done (.done (i,adu p,M)))/\adu M=adu p/\M.take i=dG p:=by
 have hl:=h.len;have hi:=h.le;have got:=h.got;rw[abu]at got;unfold bA;simp (disch:=omega) only[aK,hl,aA,ww,az,ack,ad5,Bool.and_true]
 by_cases h0:(adu p)-i=0
 ·simp_all[rG,]
 have n1:Nat.beq (adu p-i) 0=ae1:=by
  cases hb:Nat.beq _ 0 with
  |false=>rfl
  |true=>have:=Nat.eq_of_beq_eq_true hb;omega
 have n2:Nat.ble (i+(adu p-i)) (adu p)=ae0:=Nat.ble_eq_true_of_le (by omega);have ll:(gQ L i (EQ (adu p-i) (0:Int))).length=(adu p):=by unfold gQ;simp;omega
 rw[n1,ww,n2,v6,rG _ i (by rw[ll];omega),aj,ll,beq_self_eq_true,v6];unfold gQ
 grind
theorem ahv{p:List Int}(hp:(adu p)<=1000): ∀(d i j:Nat) (L:List Int),adu p-j<=d->Nq p i j L->
 ∃(n:Nat) (M:List Int),aq (bA p) ((i:Int),(j:Int),L)=adw (.done (n,adu p,M))/\n=(dG p).length/\adu M=adu p/\M.take n=dG p:=by
 have fin: ∀(i j:Nat) (L:List Int),adu p<=j->Nq p i j L-> ∃(n:Nat) (M:List Int),aq (bA p) ((i:Int),(j:Int),L)=adw (.done (n,adu p,M))/\n=(dG p).length/\adu M=adu p/\M.take n=dG p:=by
  intro i j L hj h;obtain rfl:j=(adu p):=by have:=h.lt;omega
  obtain⟨M,m1,m2,m3⟩:=adS h;exact⟨i,M,au m1,by rw[h.cnt,abu],m2,m3⟩
 intro d
 induction d with
 |zero=>grind
 |succ d ih=>
  intro i j L hd h
  by_cases hj:(adu p)<=j
  ·grind
  have hl:=h.len;have qf:=h.le;have e:=h.rest j (WF _) (by omega);have st:bA p ((i:Int),(j:Int),L)=adw (.next (((if 0<=p[j]! then i+1 else i:Nat):Int),((j+1:Nat):Int),if 0<=p[j]! then L.set i p[j]! else L)):=by
   unfold bA jj;simp only[aK,hl,az (show(j:Int)<((adu p):Int) by omega),ar L j (by omega),aj,e,aM (show i<1000000000 by omega),aM (show j<1000000000 by omega)]
   by_cases h0:0<=p[j]!
   ·rw[aA (by omega),ad3,v6,ar L i (by omega),aj,AC h0,AC h0];rfl
   grind
  rw[aQ st];refine ih _ _ _ (by omega) ?_
  by_cases h0:0<=p[j]!
  ·rw[AC h0,AC h0]
   refine⟨by grind,by omega,by omega,?_,λk hk HU=>?_⟩
   ·rw[ov (by omega),AC h0,<-h.got,da (by grind),cw,AC ⟨rfl,by omega⟩,List.take_set_of_le (WF i)]
   rw[cw,Do (by omega)];exact h.rest k (by omega) HU
  rw[Do h0,Do h0]
  refine⟨hl,by omega,by omega,?_,λk hk HU=>h.rest k (by omega) HU⟩;rw[ov (by omega),Do h0,ab0];exact h.got
theorem Lm: ∀{l:List Int},(∀x∈l,0<=x)->dG l=l:=λ{l} h=>abT.2 λx hx=>by grind
theorem En(p:List Int)(hp:(adu p)<=1000): ∃(n:Nat) (M:List Int),cW p=adw (n,adu p,M)/\n=(dG p).length/\adu M=adu p/\M.take n=dG p:=by
 have key: ∀(d m:Nat),adu p-m<=d->m<=adu p->(∀k,k<m->0<=p[k]!)-> ∃(n:Nat) (M:List Int),aq (bI p) (((adu p):Int),(m:Int),p)=adw (n,adu p,M)/\n=(dG p).length/\adu M=adu p/\M.take n=dG p:=by
  intro d;have fin: ∀m,m=adu p->(∀k,k<m->0<=p[k]!)-> ∃(n:Nat) (M:List Int),aq (bI p) (((adu p):Int),(m:Int),p)=adw (n,adu p,M)/\n=(dG p).length/\adu M=adu p/\M.take n=dG p:=by
   intro m hm h;subst hm;have e:=Lm λx hx=>by obtain⟨i,hi,rfl⟩:=aN.1 hx;exact h i hi
   refine⟨adu p,p,au ?_,by rw[e],rfl,by rw[abu,e]⟩;unfold bI;simp
  induction d with
  |zero=>grind
  |succ d ih=>
   intro m h1 h2 h
   by_cases hm:m=adu p
   ·exact fin m hm h
   by_cases h0:0<=p[m]!
   ·have st:bI p (((adu p):Int),(m:Int),p)=adw (.next (((adu p):Int),((m+1:Nat):Int),p)):=by
     unfold bI jj;simp (disch:=omega) only[az,v6,ar,aj,aA,ww,aM]
    grind[aQ]
   have hd:Nq p m (m+1) p:=⟨rfl,by omega,by omega,by
    rw[ov (by omega),Do h0,ab0,Lm λx hx=>?_];obtain⟨i,hi,_,rfl⟩:=cS.1 hx;exact h i hi,λk _ _=>rfl⟩
   obtain⟨n,M,m1,m2,m3,m4⟩:=ahv hp (adu p) m _ p (by omega) hd;refine⟨n,M,au ?_,m2,m3,m4⟩;unfold bI jj;simp (disch:=omega) only[az,v6,ar,aj,beq_self_eq_true,jA,ww,aM,m1]
 exact key (adu p) 0 (by omega) (abF _) (λk hk=>absurd hk (aaP k))
def E8(n:Nat):Prop:= ∃i,i<7/\n=2^i
theorem RI{n:Nat}(h1:1<=n)(h2:n<=64):rJ .i64 (n:Int) ((n-1:Nat):Int)=0↔E8 n:=by
 have key: ∀k:Fin 65,1<=k.val->((rJ .i64 (k.val:Int) ((k.val-1:Nat):Int)=0)↔ ∃i,i<7/\k.val=2^i):=by decide+kernel
 exact key ⟨n,by omega⟩ h1
theorem dbl{q:Nat}(h:q<=64):aa .i64 ((q:Int)*2)=((2*q:Nat):Int):=by grind[fN]
theorem Pd(i:Nat):2^(i+1)=2*2^i:=by omega
theorem Ln{n:Nat}:CR (n:Int)=adw (ae2 (E8 n)):=by
 have st:=kV (body:=xV) (λi=>((n:Int),((2^i:Nat):Int))) 7 (λi=>n≠2^i) (r:=ae0) (λi hi=>by
  have b1:2^i<=64:=ad6 (abC (by omega) (show i<=6 by omega)) (by decide);unfold xV
  by_cases h:n=2^i
  ·grind
  ·rw[jA (by omega),ww,dbl b1,Pd]
   grind) (by
  rfl)
 refine(st).trans ?_
 by_cases h:E8 n
 ·obtain⟨i,hi,e⟩:=h
  rw[Do (λk=>k i hi e),az ⟨i,hi,e⟩]
 rw[AC (λi hi e=>h ⟨i,hi,e⟩),aA h]
theorem iV(f:List Pt):(cq f).length=(adu f):=If ..
theorem qR{f:List Pt}{i:Nat}(h:i<adu f):(cq f)[i]! =(f[i]!).1:=by
 unfold cq
 grind
section
variable {f : List Pt} (h64 : (adu f) <= 64)
include h64
end
theorem Ud:CO=rz:=rfl
structure pK(k:bQ):Prop where
 iG:aT k.jp
 br:Ma k.kw.aX k.kw.kG
 pow:E8 (adu k.kw.aX)
 perm:(cq k.jp.ii.am).Perm (dG k.kw.aX)
 right:k.kw.kG=ez k.jp.ii.am k.jp.ci k.kw.aX
 cert:(k.jp.af.ce.map λx=>x.2).Perm (k8 k.kw.aX k.kw.kG)
theorem kx{p:List Int}{x:Int}:x∈dG p↔x∈p/\0<=x:=by unfold dG;simp
theorem pL{f:List Pt}{p w:List Int}(br:Ma p w)(pm:(cq f).Perm (dG p)):wo f p:=by
 refine⟨br.one,br.iq,br.once,λx hx=>?_⟩;have:=br.Vg x hx
 by_cases h:0<=x
 ·exact .inr ⟨h,cz.1 (pm.mem_iff.2 (kx.2 ⟨hx,h⟩))⟩
 exact .inl (by omega)
theorem E9{p:List Int}(h:D2 p):(dG p).Nodup:=by
 have go: ∀(j:Nat),j<=adu p->(dG (p.take j)).Nodup:=by
  intro j
  induction j with
  |zero=>intro _;simp[dG]
  |succ j ih=>
   intro hj;rw[ov (by omega)]
   by_cases h0:0<=p[j]!
   ·rw[AC h0]
    refine List.nodup_append.2 ⟨ih (by omega),by simp,λa ha b hb e=>?_⟩;obtain rfl:b=p[j]!:=by simpa using hb
    subst e;have hm:=(kx.1 ha).1;obtain⟨i,hi,_,e⟩:=cS.1 hm;have:=h i j hi (by omega) e;omega
   rw[Do h0,ab0];exact ih (by omega)
 have:=go (adu p) (WF _)
 grind
theorem Ue{f:List Pt}(h:eu f):(cq f).Pairwise (· <= ·):=by
 refine abE.2 λi j hi hj p8=>?_
 rw[iV]at hi hj;have:=fD h p8 hj;rw[<-getElem!_pos _ i (by omega),<-getElem!_pos _ j (by omega),qR hi,qR hj];omega
theorem RJ{f:List Pt}(h:eu f)(l:List Int):q9 l=cq f↔(cq f).Perm l:=by
 grind[A6,List.Perm.eq_of_pairwise,Int.le_antisymm,A7,Ue]
theorem Mc(l:List Int)(f:List Pt)(hl:(adu l)<=1000):dh l f ()=adw (ae2 (l=cq f)):=by
 unfold dh;simp[]
 by_cases h:(adu l)=adu f
 case neg=>rw[dV (by omega),v6,aA (λe=>h (by rw[e,iV]))]
 rw[bw (by omega),ww];have key:=kV (body:=cP) (λi=>(f,l,((adu l):Int),(i:Int))) (adu l) (λi=>l[i]! =(f[i]!).1) (r:=ae1) (e:=ae0) (λi hi=>by
  unfold cP xR;simp (disch:=omega) only[ar,aM]
  grind) (by
  unfold cP;simp)
 refine(key).trans ?_
 by_cases q:l=cq f
 ·rw[AC (λi hi=>by rw[q,qR (by omega)]),az q]
 rw[Do (λw=>q (ny (by rw[iV];exact h) λi hi=>by grind[qR])),aA q]
theorem Pf(a b:List Int)(ha:(adu a)<=1000):iS a b=adw (ae2 (a=b)):=by
 unfold iS;simp[]
 by_cases h:(adu a)=adu b
 case neg=>rw[dV (by omega),v6,aA (λe=>h (by rw[e]))]
 rw[bw (by omega),ww];have key:=kV (body:=fY) (λi=>(a,b,((adu a):Int),(i:Int))) (adu a) (λi=>a[i]! =b[i]!) (r:=ae1) (e:=ae0) (λi hi=>by
  unfold fY;simp (disch:=omega) only[ar,aM]
  grind) (by
  unfold fY;simp)
 refine(key).trans ?_
 by_cases q:a=b
 ·grind
 rw[Do (λw=>q (ny h w)),aA q]
theorem RK{n:Nat}{M:List Int}(hn:n<=adu M)(hm:(adu M)<=1000):Ds Of n M=adw (q9 (M.take n)++M.drop n):=by unfold Ds HZ Of;rw[AC hn,AC (by grind)];simp[DA,]
theorem Nr{c:aH}(ok:aT c){es:List _}(_nd:es.Nodup):(adu es=adu c.af.ce/\ ∀i,i<adu c.af.ce->(c.af.ce[i]!).2∈es)↔(c.af.ce.map λx=>x.2).Perm es:=by
 have cl:(c.af.ce.map λx=>x.2).length=(adu c.af.ce):=If ..;constructor
 ·rintro⟨h1,h2⟩
  exact gd (ma ok.wF) (λx hx=>by obtain⟨i,hi,rfl⟩:=dW.2 hx;exact h2 i hi) (by omega)
 intro h
 exact⟨by rw[<-h.length_eq,cl],λi hi=>h.mem_iff.1 (dW.1 ⟨i,hi,rfl⟩)⟩
theorem wq{k:bQ}(fit:oc k.jp)(hl:(adu k.kw.aX)<=1000)(wl:(adu k.kw.kG)<=1000):gJ k=adw (if pK k then 0 else 8):=by
 unfold gJ;rw[iF fit,aj]
 by_cases ok:aT k.jp
 case neg=>rw[Do ok,Do (λh=>ok h.iG)];rfl
 rw[AC ok,bw rfl,ww,Aw k.kw.aX k.kw.kG hl wl,aj]
 by_cases br:Ma k.kw.aX k.kw.kG
 case neg=>rw[Do br,Do (λh=>br h.br)];rfl
 have b1:=br.one;have b2:=br.iq;rw[AC br,bw rfl,ww,aK,vt (by omega) b1]
 by_cases pw:E8 (adu k.kw.aX)
 case neg=>rw[dV (λh=>pw ((RI b1 b2).1 h)),v6,Do (λh=>pw h.pow)]
 rw[bw ((RI b1 b2).2 pw),ww,cM (by omega),aj];obtain⟨n,M,e1,e2,e3,e4⟩:=En k.kw.aX hl;have nl:n<=(adu M):=by
  grind
 have tk:(q9 (M.take n)++M.drop n).take n=q9 (dG k.kw.aX):=by
  grind[DA,aaQ,abz]
 have ll:(q9 (M.take n)++M.drop n).length=(adu M):=by rw[NE,DA,aaQ,acm];omega
 have fe:k.jp.ii=⟨k.jp.ii.am⟩:=rfl;rw[e1,aj];rw[RK nl (by omega),aj,ll,beq_self_eq_true,v6,tk,Mc _ _ (by grind),aj]
 by_cases pm:(cq k.jp.ii.am).Perm (dG k.kw.aX)
 case neg=>rw[aA (λh=>pm ((RJ ok.dI.2.2 _).1 h)),Do (λh=>pm h.perm)];rfl
 have pl:=pL br pm;rw[az ((RJ ok.dI.2.2 _).2 pm),aai,ww,fe,ye ok.dI ok.gZ ok.dP pl,aj];dsimp only;obtain⟨_,nd,el⟩:=pJ ok.dI ok.dP pl;have R:=fh (f:=k.jp.ii.am) (t:=k.jp.ci) pl.one;rw[Pf _ _ (by have:=R.1;omega),aj]
 by_cases hw:ez k.jp.ii.am k.jp.ci k.kw.aX=k.kw.kG
 case neg=>rw[aA hw,Do (λh=>hw h.right.symm)];rfl
 rw[az hw,aai,ww,Ud,Vv _ _ (by omega) (by have:=ok.bd;omega),aj]
 by_cases hc:(k.jp.af.ce.map λx=>x.2).Perm (k8 k.kw.aX (ez k.jp.ii.am k.jp.ci k.kw.aX))
 ·rw[az ((Nr ok nd).2 hc),AC ⟨ok,br,pw,pm,hw.symm,by grind⟩];rfl
 rw[aA (λh=>hc ((Nr ok nd).1 h)),Do (λh=>hc (by rw[hw];exact h.cert))];rfl
theorem Lo{f:List Pt}(aV:aR f)(p:List Int)(hp:(adu p)<=1000):yM ⟨f⟩ p=adw (ae2 (∀i,i<adu p->p[i]! = -1\/dY f p[i]!)):=by
 have st:=kV (body:=sX) (λi=>(p,(i:Int),f)) (adu p) (λi=>p[i]! = -1\/dY f p[i]!) (e:=ae0) (λi hi=>by
  unfold sX;simp (disch:=omega) only[aK,az,ar p i hi,aj,aM]
  by_cases h:p[i]! = -1
  ·rw[bw h];exact⟨λk=>absurd (.inl h) k,λ_=>rfl⟩
  ·rw[dV h,v6]
   by_cases h2:dY f p[i]!
   ·obtain⟨m,_,e,_⟩:=zz aV h2
    rw[e,aj,aA (by omega)];exact⟨λk=>absurd (.inr h2) k,λ_=>rfl⟩
   rw[OP aV h2,aj]
   exact⟨λ_=>rfl,λk=>by rcases k with k|k;exact absurd k h;exact absurd k h2⟩) (by
  unfold sX;simp (disch:=omega) only[aK,aA,ww])
 unfold yM
 grind
theorem Md{f:List Pt}(aV:aR f){t:Int×Int}(dX:jb t){p w:List Int}(br:Ma p w)(pl:wo f p):EU ⟨p,w⟩ ⟨f⟩ t=adw (ae2 (w=ez f t p)):=by
 have b2:=br.iq;have b3:=br.len;have st:=kV (body:=vf) (λi=>((i:Int),p,w,f,t)) (adu w) (λi=>w[i]! =yk f t (bu p w (2*i+1)) (bu p w (2*i+2))) (r:=ae1) (e:=ae0) (λi hi=>by
  have k1:=uN (i:=i) (by omega) 1 (by omega);have k2:=uN (i:=i) (by omega) 2 (by omega);unfold vf;simp (disch:=omega) only[show aa .i64 (aa .i64 (2*(i:Int))+1)=((2*i+1:Nat):Int)from k1,show aa .i64 (aa .i64 (2*(i:Int))+2)=((2*i+2:Nat):Int)from k2,HC,aj,ar w i hi,aM,O' aV dX (pl.ids _ (jq b3 br.cho (i:=2*i+1) (by omega))) (pl.ids _ (jq b3 br.cho (i:=2*i+2) (by omega)))]
  grind) (by
  unfold vf;simp)
 refine(st).trans ?_;have R:=fh (f:=f) (t:=t) pl.one
 by_cases h:w=ez f t p
 ·rw[AC (by rw[h];exact R.2),az h]
 rw[Do (λk=>h (Np ⟨b3,k⟩ R)),aA h]
theorem Dc{f:List Pt}(aV:aR f){t:Int×Int}{p:List Int}(pl:wo f p){e:Int×Int}(he:e∈k8 p (ez f t p)):leads (bC f e.2) (bC f e.1) t:=by
 have R:=fh (f:=f) (t:=t) pl.one;have R1:=R.1;obtain⟨i,hi,h⟩:=E6.1 he;obtain⟨a1,a2,a3⟩:=BH h;have ne:=DW R.1 R.qk pl.once hi a1;have hx:=(pl.ids _ (jq R.1 R.qk (by omega))).has a1;have hy:=(pl.ids _ (jq R.1 R.qk (by omega))).has a2;have wv:=R.2 i hi;unfold yk at wv
 grind[fJ,bK]
theorem Lp{k:bQ}(fit:oc k.jp)(hl:(adu k.kw.aX)<=1000)(wl:(adu k.kw.kG)<=1000):pf k=adw (if pK k then 0 else 8):=by
 unfold pf;rw[tz fit,aj]
 by_cases ok:aT k.jp
 case neg=>rw[Do ok,Do (λh=>ok h.iG)];rfl
 rw[AC ok,bw rfl,ww,Lj k.kw.aX k.kw.kG hl wl,aj]
 by_cases br:Ma k.kw.aX k.kw.kG
 case neg=>rw[Do br,Do (λh=>br h.br)];rfl
 have b2:=br.iq;rw[AC br,bw rfl,ww,aK,Ln,aj]
 by_cases pw:E8 (adu k.kw.aX)
 case neg=>rw[aA pw,Do (λh=>pw h.pow)];rfl
 have fe:k.jp.ii=⟨k.jp.ii.am⟩:=rfl;rw[az pw,aai,ww,fe,Lo ok.dI _ hl,aj]
 by_cases pm:(cq k.jp.ii.am).Perm (dG k.kw.aX)
 case neg=>
  by_cases kn: ∀i,i<adu k.kw.aX->k.kw.aX[i]! = -1\/dY k.jp.ii.am k.kw.aX[i]!
  case neg=>rw[aA kn,Do (λh=>pm h.perm)];rfl
  rw[az kn,aai,ww,Gy _ hl,aj,aK,aK,Do (λh=>pm h.perm)];rw[dV (λh=>pm ?_)]
  ·rfl
  have h:((dG k.kw.aX).length:Int)=((adu k.jp.ii.am):Int):=h;refine(gd (E9 br.once) (λx hx=>?_) (by rw[iV];omega)).symm;obtain⟨h1,h2⟩:=kx.1 hx;obtain⟨i,hi,rfl⟩:=aN.1 h1;rcases kn i hi with e|e
  ·omega
  exact cz.2 e
 have pl:=pL br pm;have kn: ∀i,i<adu k.kw.aX->k.kw.aX[i]! = -1\/dY k.jp.ii.am k.kw.aX[i]!:=λi hi=>by
  rcases pl.ids _ (aE hi)with e|e
  ·exact .inl e
  grind
 rw[az kn,aai,ww,Gy _ hl,aj,aK,aK,bw (by rw[<-pm.length_eq,iV]),ww,Md ok.dI ok.dP br pl,aj]
 by_cases hw:k.kw.kG=ez k.jp.ii.am k.jp.ci k.kw.aX
 case neg=>rw[aA hw,Do (λh=>hw h.right)];rfl
 obtain⟨oL,nd,el⟩:=pJ ok.dI ok.dP pl;rw[az hw,aai,ww,RF br.len b2,aj];rw[hw];rw[I6 ok _ oL.kn,aj]
 by_cases hc:(k.jp.af.ce.map λx=>x.2).Perm (k8 k.kw.aX (ez k.jp.ii.am k.jp.ci k.kw.aX))
 ·rw[az (⟨by rw[<-hc.length_eq,If],λi hi=>⟨dW.2 (hc.mem_iff.2 (aE hi)),Dc ok.dI pl (aE hi)⟩⟩),AC ⟨ok,br,pw,pm,hw,by grind⟩];rfl
 rw[aA (λh=>hc ?_),Do (λh=>hc (by have:=h.cert;grind))]
 ·rfl
 have cl:(k.jp.af.ce.map λx=>x.2).length=(adu k.jp.af.ce):=If ..;refine(gd nd (λx hx=>?_) (by omega)).symm;obtain⟨i,hi,rfl⟩:=aN.1 hx;exact dW.1 (h.2 i hi).1
section
variable {f : List Pt} (aV : aR f) {t : Int × Int} {p w : List Int} (pl : wo f p) (R : Em f t p w)
include aV pl R
end
theorem Lq: ∀e,e<=6->bN [-1] ((2^e:Nat):Int)=adw (EQ (2^e) (-1)):=by
 have go: ∀(n:Nat) (m:Nat),n<1000->aa .u64 (n:Int)=(n:Int)->(2^m=n)->fK (aa .u64 (abq ([-1]:List Int).length)) (aa .u64 (n:Int))=adw (0,(n:Int)):=λn m hn h _=>by
  rw[show aa .u64 (abq ([-1]:List Int).length)=1 from by kernel_rfl,h,Ae ⟨by decide,by decide⟩ ⟨by omega,by omega⟩]
  grind
 intro e he;have he:e=0\/e=1\/e=2\/e=3\/e=4\/e=5\/e=6:=by omega
 rcases he with rfl|rfl|rfl|rfl|rfl|rfl|rfl
 ·unfold bN ic;rw[go 1 0 (by omega) (by kernel_rfl) rfl];exact(by kernel_rfl:_=aq aD (1,-1::EQ 0 0)).trans (bg.2 ⟨20,by kernel_rfl⟩)
 ·unfold bN ic;rw[go 2 1 (by omega) (by kernel_rfl) rfl];exact(by kernel_rfl:_=aq aD (1,-1::EQ 1 0)).trans (bg.2 ⟨20,by kernel_rfl⟩)
 ·unfold bN ic;rw[go 4 2 (by omega) (by kernel_rfl) rfl];exact(by kernel_rfl:_=aq aD (1,-1::EQ 3 0)).trans (bg.2 ⟨20,by kernel_rfl⟩)
 ·unfold bN ic;rw[go 8 3 (by omega) (by kernel_rfl) rfl];exact(by kernel_rfl:_=aq aD (1,-1::EQ 7 0)).trans (bg.2 ⟨20,by kernel_rfl⟩)
 ·unfold bN ic;rw[go 16 4 (by omega) (by kernel_rfl) rfl];exact(by kernel_rfl:_=aq aD (1,-1::EQ 15 0)).trans (bg.2 ⟨20,by kernel_rfl⟩)
 ·unfold bN ic;rw[go 32 5 (by omega) (by kernel_rfl) rfl];exact(by kernel_rfl:_=aq aD (1,-1::EQ 31 0)).trans (bg.2 ⟨20,by kernel_rfl⟩)
 exact(by kernel_rfl:_=aq aD (1,-1::EQ 63 0)).trans (bg.2 ⟨20,by kernel_rfl⟩)
structure HG(k:bQ):Prop where
 c:aeY k.jp
 p:(adu k.kw.aX)<=1000
 w:(adu k.kw.kG)<=1000
theorem Lr{c:aH}(ok:aT c){lo hi:Int}(hb:kr c.ii.am (lo,hi))(h:qy c.af.ce (lo,hi)){to:Int×Int}(rt:bo to)(le: ¬gY to c.ci<0)(io: ¬E4 c to):
 ¬leads (bC c.ii.am lo) (bC c.ii.am hi) to:=by
 obtain⟨w,w1,w2⟩:=h;have LS:=(bK ok.dI hb.2).1;have hj':=(bK ok.dI hb.1).1;have wn:bP c.ii.am (c.af.ce[w]!).2 c.ci=jl (bC c.ii.am hi) (bC c.ii.am lo) c.ci:=by unfold bP;rw[w2]
 refine O4 LS hj' ok.gZ rt (by rw[oH]at le;omega) λis=>?_
 rw[<-wn]at is;obtain⟨d,hd,_,ev⟩:=ok.AA.has _ (aE w1) is;obtain⟨v,hv,he⟩:=aN.1 ev;have tl:=Aj ok.nB v hv;have h0:0<(adu c.ae.bv):=by omega
 have e0:=(ok.nB.ev 0 h0).1.1;have ev':=(ok.nB.ev v hv).1.1;rw[he]at tl ev';rw[<-wn];have n1:=λq=>tl (.inl q)
 rw[oH]at n1;have n2: ¬gY _ to<=0:=λq=>io ⟨h0,q⟩
 have n3:to.1*(Ev.at c.ae.bv[0]!).2<(Ev.at c.ae.bv[0]!).1*to.2:=by unfold gY at n2;rcases dU ((Ev.at c.ae.bv[0]!).1*to.2) (to.1*(Ev.at c.ae.bv[0]!).2)with⟨a,b⟩|⟨a,b⟩|⟨a,b⟩<;>omega
 exact qx rt.1 e0 ev' n3 (Int.not_lt.1 n1)
theorem Me{c:aH}(ok:aT c){p:List Int}(pl:wo c.ii.am p)(ct: ∀e∈k8 p (ez c.ii.am c.ci p),qy c.af.ce e){to:Int×Int}(rt:bo to)(le: ¬gY to c.ci<0)(io: ¬E4 c to):
 ez c.ii.am to p=ez c.ii.am c.ci p:=by
 have R:=fh (f:=c.ii.am) (t:=c.ci) pl.one;have R1:=R.1;refine Np (fh pl.one) ⟨R.1,λi hi=>?_⟩;have wv:=R.2 i hi;have ne:=DW R.1 R.qk pl.once hi;have ix:=pl.ids _ (jq R.1 R.qk (i:=2*i+1) (by omega));have iy:=pl.ids _ (jq R.1 R.qk (i:=2*i+2) (by omega));have mem:=λe h=>ct e (E6.2 ⟨i,hi,h⟩)
 unfold y6 at mem;rw[wv];rw[wv]at mem;generalize bu p _ _=x at*;generalize bu p _ _=y at*;unfold yk at*
 by_cases x0:x<0
 ·omega
 by_cases y0:y<0
 ·omega
 rw[Do x0,Do y0,Do (by omega)]at mem;have hx:=ix.has (by omega);have hy:=iy.has (by omega);have nxy:=ne (by omega)
 by_cases ld:leads (bC c.ii.am x) (bC c.ii.am y) c.ci
 ·rw[AC ld]
  rw[AC ld,AC rfl]at mem;have st:=Lr ok ⟨hy,hx⟩ (mem _ rfl) rt le io;rw[AC (fJ to (by rw[(bK ok.dI hx).2,(bK ok.dI hy).2];omega) st)]
 rw[Do ld]
 rw[Do ld,Do (λh=>nxy h.symm)]at mem;have st:=Lr ok ⟨hx,hy⟩ (mem _ rfl) rt le io;rw[Do st]
def tP(c:aH)(p w:List Int)(to:Int×Int)(out:List (Int×Int)):=
 (c.ci.1,c.ci.2,c.ii.am,c.af.aW,c.af.ce,c.ae.ai.ay,c.ae.ai.be,c.ae.ai.bi,c.ae.bv,c.ae.aC,c.io,p,w,to.1,to.2,(0:Int),(0:Int),(0:Int),out)
inductive Iy(l:List Int)(x:Int):List Int->Prop
 |at_(k:Nat)(hk:k<adu l)(e:l[k]! = -1)(h: ∀j,j<k->l[j]!≠ -1)(hi:dt l (-1)=adw (k:Int)):Iy l x (l.set k x)
 |end_(h: ∀j,j<adu l->l[j]!≠ -1)(hi:dt l (-1)=adw (-1)):Iy l x (l++[x]++EQ (adu l-1) (-1))
theorem adT{f:List Pt}{m:Nat}{p:Pt}{x:Int}(h:dY f x):dY (qz f m p) x:=by obtain⟨i,hi,rfl⟩:=h;obtain⟨j,hj,e⟩:=aN.1 (I9.2 (.inr (aE hi)));exact⟨j,hj,by rw[e]⟩
theorem VG(f:List Pt)(m:Nat)(p:Pt):dY (qz f m p) p.1:=by obtain⟨j,hj,e⟩:=aN.1 (I9.2 (.inl rfl));exact⟨j,hj,by rw[e]⟩
theorem HB.ins{f:List Pt}{m:Nat}{p:Pt}{x:Int}(h:HB f x):HB (qz f m p) x:=h.imp id λh=>⟨h.1,adT h.2⟩
theorem Uf{f:List Pt}{l:List Int}(pl:wo f l){p:Pt}(p0:0<=p.1)(nh: ¬dY f p.1){m:Nat}(h32:(∀j,j<adu l->l[j]!≠ -1)->adu l<=32){q:List Int}(h:Iy l p.1 q):wo (qz f m p) q:=by
 have one:=pl.one;have iq:=pl.iq;have ne: ∀j,j<adu l->l[j]!≠p.1:=λj hj e=>by
  rcases pl.ids _ (aE hj)with h|h
  ·omega
  grind
 cases h with
 |at_ k hk e h hi=>
  refine⟨by grind,by grind,λi j p8 hj he=>?_,λx hx=>?_⟩
  ·rw[UV]at hj
   rw[cw,cw]at he;rw[cw]
   by_cases a:i=k
   ·grind
   rw[Do (λh=>a h.1)]at he ⊢
   by_cases b:j=k
   ·grind
   rw[Do (λh=>b h.1)]at he
   exact pl.once i j p8 hj he
  rcases List.mem_or_eq_of_mem_set hx with h|h
  ·exact(pl.ids x h).ins
  subst h;exact .inr ⟨p0,VG f m p⟩
 |end_ h hi=>
  have h32:=h32 h;have ll:(l++[p.1]++EQ (adu l-1) (-1:Int)).length=2*(adu l):=by
   grind
  have g1: ∀i,i<adu l->(l++[p.1]++EQ (adu l-1) (-1:Int))[i]! =l[i]!:=λi hi=>by
   grind
  have g2:(l++[p.1]++EQ (adu l-1) (-1:Int))[adu l]! =p.1:=by simp
  have g3: ∀i,adu l<i->i<2*adu l->(l++[p.1]++EQ (adu l-1) (-1:Int))[i]! = -1:=λi h1 h2=>by
   grind
  refine⟨by rw[ll];omega,by rw[ll];omega,λi j p8 hj he=>?_,λx hx=>?_⟩
  ·rw[ll]at hj
   rcases abK i (adu l)with a|a|a
   ·rw[g1 i a]at he ⊢
    rcases abK j (adu l)with b|b|b
    ·rw[g1 j b]at he;exact pl.once i j p8 b he
    ·rw[b,g2]at he;exact absurd he (ne i a)
    rw[g3 j b hj]at he;omega
   ·rw[a,g2,g3 j (by omega) hj]at he;omega
   grind
  rcases aby.1 hx with hx|hx
  ·rcases aby.1 hx with hx|hx
   ·exact(pl.ids x hx).ins
   obtain rfl:=List.mem_singleton.1 hx
   exact .inr ⟨p0,VG f m p⟩
  exact .inl (ac3.1 hx).2
theorem pK.aX{k:bQ}(ok:pK k):wo k.jp.ii.am k.kw.aX:=pL ok.br ok.perm
theorem adU{k:bQ}(ok:pK k)(iL:(adu k.jp.ii.am)<64)(h: ∀j,j<adu k.kw.aX->k.kw.aX[j]!≠ -1):(adu k.kw.aX)<=32:=by
 have all:=Lm λx hx=>by
  obtain⟨j,hj,rfl⟩:=aN.1 hx;have:=h j hj;rcases ok.aX.ids _ (aE hj)with e|e
  ·omega
  exact e.1
 have e:=ok.perm.length_eq;rw[all,iV]at e;obtain⟨i,hi,hp⟩:=ok.pow;have:i<=5:=by
  grind
 have:=abC (show 0<2 by omega) this;omega
section
variable {k : bQ} (n : alp k.jp) (sh : HG k)
include n sh
end
def Dd(l:List Int)(k:Nat):List Int:=
 if 1<adu l/\4*(dG (l.set k (-1))).length<=(adu l)then dG (l.set k (-1))++EQ ((adu l) / 2- (dG (l.set k (-1))).length) (-1)else l.set k (-1)
theorem XA: ∀m:Nat,1<=m->m<=32->bN [-1] (m:Int)=adw (EQ m (-1)):=by
 intro m h1 h2;have go:aa .u64 (m:Int)=(m:Int)->fK (aa .u64 (abq ([-1]:List Int).length)) (aa .u64 (m:Int))=adw (0,(m:Int)):=λh=>by
  rw[show aa .u64 (abq ([-1]:List Int).length)=1 from by kernel_rfl,h,Ae ⟨by decide,by decide⟩ ⟨by omega,by omega⟩];have e1:(1*(m:Int)) / 18446744073709551616=0:=by omega
  have e2:(1*(m:Int))%18446744073709551616=(m:Int):=by omega
  rw[e1,e2]
 have cs: ∀j,j<32->m=j+1->bN [-1] (m:Int)=adw (EQ m (-1)):=by
  intro j hj e;subst e;have:j=0\/j=1\/j=2\/j=3\/j=4\/j=5\/j=6\/j=7\/j=8\/j=9\/j=10\/j=11\/j=12\/j=13\/j=14\/j=15\/j=16\/j=17\/j=18\/j=19\/j=20\/j=21\/j=22\/j=23\/j=24\/j=25\/j=26\/j=27\/j=28\/j=29\/j=30\/j=31:=by omega
  rcases this with rfl|rfl|rfl|rfl|rfl|rfl|rfl|rfl|rfl|rfl|rfl|rfl|rfl|rfl|rfl|rfl|rfl|rfl|rfl|rfl|rfl|rfl|rfl|rfl|rfl|rfl|rfl|rfl|rfl|rfl|rfl|rfl
  all_goals (unfold bN ic;rw[go (by kernel_rfl)])
  ·exact(by kernel_rfl:_=aq aD (1,-1::EQ 0 0)).trans (bg.2 ⟨20,by kernel_rfl⟩)
  ·exact(by kernel_rfl:_=aq aD (1,-1::EQ 1 0)).trans (bg.2 ⟨20,by kernel_rfl⟩)
  ·exact(by kernel_rfl:_=aq aD (1,-1::EQ 2 0)).trans (bg.2 ⟨20,by kernel_rfl⟩)
  ·exact(by kernel_rfl:_=aq aD (1,-1::EQ 3 0)).trans (bg.2 ⟨20,by kernel_rfl⟩)
  ·exact(by kernel_rfl:_=aq aD (1,-1::EQ 4 0)).trans (bg.2 ⟨20,by kernel_rfl⟩)
  ·exact(by kernel_rfl:_=aq aD (1,-1::EQ 5 0)).trans (bg.2 ⟨20,by kernel_rfl⟩)
  ·exact(by kernel_rfl:_=aq aD (1,-1::EQ 6 0)).trans (bg.2 ⟨20,by kernel_rfl⟩)
  ·exact(by kernel_rfl:_=aq aD (1,-1::EQ 7 0)).trans (bg.2 ⟨20,by kernel_rfl⟩)
  ·exact(by kernel_rfl:_=aq aD (1,-1::EQ 8 0)).trans (bg.2 ⟨20,by kernel_rfl⟩)
  ·exact(by kernel_rfl:_=aq aD (1,-1::EQ 9 0)).trans (bg.2 ⟨20,by kernel_rfl⟩)
  ·exact(by kernel_rfl:_=aq aD (1,-1::EQ 10 0)).trans (bg.2 ⟨20,by kernel_rfl⟩)
  ·exact(by kernel_rfl:_=aq aD (1,-1::EQ 11 0)).trans (bg.2 ⟨20,by kernel_rfl⟩)
  ·exact(by kernel_rfl:_=aq aD (1,-1::EQ 12 0)).trans (bg.2 ⟨20,by kernel_rfl⟩)
  ·exact(by kernel_rfl:_=aq aD (1,-1::EQ 13 0)).trans (bg.2 ⟨20,by kernel_rfl⟩)
  ·exact(by kernel_rfl:_=aq aD (1,-1::EQ 14 0)).trans (bg.2 ⟨20,by kernel_rfl⟩)
  ·exact(by kernel_rfl:_=aq aD (1,-1::EQ 15 0)).trans (bg.2 ⟨20,by kernel_rfl⟩)
  ·exact(by kernel_rfl:_=aq aD (1,-1::EQ 16 0)).trans (bg.2 ⟨20,by kernel_rfl⟩)
  ·exact(by kernel_rfl:_=aq aD (1,-1::EQ 17 0)).trans (bg.2 ⟨20,by kernel_rfl⟩)
  ·exact(by kernel_rfl:_=aq aD (1,-1::EQ 18 0)).trans (bg.2 ⟨20,by kernel_rfl⟩)
  ·exact(by kernel_rfl:_=aq aD (1,-1::EQ 19 0)).trans (bg.2 ⟨20,by kernel_rfl⟩)
  ·exact(by kernel_rfl:_=aq aD (1,-1::EQ 20 0)).trans (bg.2 ⟨20,by kernel_rfl⟩)
  ·exact(by kernel_rfl:_=aq aD (1,-1::EQ 21 0)).trans (bg.2 ⟨20,by kernel_rfl⟩)
  ·exact(by kernel_rfl:_=aq aD (1,-1::EQ 22 0)).trans (bg.2 ⟨20,by kernel_rfl⟩)
  ·exact(by kernel_rfl:_=aq aD (1,-1::EQ 23 0)).trans (bg.2 ⟨20,by kernel_rfl⟩)
  ·exact(by kernel_rfl:_=aq aD (1,-1::EQ 24 0)).trans (bg.2 ⟨20,by kernel_rfl⟩)
  ·exact(by kernel_rfl:_=aq aD (1,-1::EQ 25 0)).trans (bg.2 ⟨20,by kernel_rfl⟩)
  ·exact(by kernel_rfl:_=aq aD (1,-1::EQ 26 0)).trans (bg.2 ⟨20,by kernel_rfl⟩)
  ·exact(by kernel_rfl:_=aq aD (1,-1::EQ 27 0)).trans (bg.2 ⟨20,by kernel_rfl⟩)
  ·exact(by kernel_rfl:_=aq aD (1,-1::EQ 28 0)).trans (bg.2 ⟨20,by kernel_rfl⟩)
  ·exact(by kernel_rfl:_=aq aD (1,-1::EQ 29 0)).trans (bg.2 ⟨20,by kernel_rfl⟩)
  ·exact(by kernel_rfl:_=aq aD (1,-1::EQ 30 0)).trans (bg.2 ⟨20,by kernel_rfl⟩)
  exact(by kernel_rfl:_=aq aD (1,-1::EQ 31 0)).trans (bg.2 ⟨20,by kernel_rfl⟩)
 exact cs (m-1) (by omega) (by omega)
theorem XB{l:List Int}{k:Nat}(hk:k<adu l)(h0:0<=l[k]!):(dG (l.set k (-1))).length+1=(dG l).length:=by
 have e1:l=l.take k++l[k]!::l.drop (k+1):=by simp_all
 have f1:(dG l).length=((l.take k).filter λx=>decide (0<=x)).length+(((l.drop (k+1)).filter λx=>decide (0<=x)).length+1):=by
  unfold dG
  grind
 have f2:(dG (l.set k (-1))).length=((l.take k).filter λx=>decide (0<=x)).length+((l.drop (k+1)).filter λx=>decide (0<=x)).length:=by
  unfold dG
  grind
 omega
theorem XC{f:List Pt}(hs:eu f){q:Nat}(hq:q<adu f){x:Int}(h:dY f x)(fo:x≠(f[q]!).1):dY (f.eraseIdx q) x:=by obtain⟨i,hi,rfl⟩:=h;obtain⟨j,hj,e⟩:=aN.1 ((DT hs hq).2 ⟨aE hi,fo⟩);exact⟨j,hj,by rw[e]⟩
theorem Ug{f f':List Pt}{l:List Int}(pl:wo f l){k:Nat}(hk:k<adu l)(h0:0<=l[k]!)(has: ∀x,dY f x->x≠l[k]!->dY f' x):wo f' (l.set k (-1)):=by
 refine⟨by grind,by rw[UV];exact pl.iq,λi j p8 hj he=>?_,λx hx=>?_⟩
 ·rw[UV]at hj
  rw[cw,cw]at he;rw[cw]
  by_cases a:i=k
  ·omega
  rw[Do (λh=>a h.1)]at he ⊢
  by_cases b:j=k
  ·omega
  rw[Do (λh=>b h.1)]at he;exact pl.once i j p8 hj he
 obtain⟨i,hi,rfl⟩:=aN.1 hx
 rw[UV]at hi;rw[cw]
 by_cases a:i=k
 ·rw[AC ⟨a,by omega⟩];exact .inl rfl
 rw[Do (λh=>a h.1)]
 refine(pl.ids _ (aE hi)).imp id λh=>⟨h.1,has _ h.2 λe=>a (pl.once.inj hi hk e h.1)⟩
theorem RM{f f':List Pt}{l:List Int}(pl:wo f l){k:Nat}(hk:k<adu l)(h0:0<=l[k]!)(has: ∀x,dY f x->x≠l[k]!->dY f' x):wo f' (Dd l k):=by
 have sp:=Ug pl hk h0 has;unfold Dd;split
 ·rename_i h
  have nd:=E9 sp.once;have iq:=pl.iq;obtain⟨A,hA⟩: ∃A,A=dG (l.set k (-1)):=⟨_,rfl⟩;rw[<-hA]at h nd ⊢;have An: ∀x∈A,0<=x:=λx hx=>(kx.1 (hA▸hx)).2
  have ll:(A++EQ ((adu l) / 2-(adu A)) (-1:Int)).length=(adu l) / 2:=by
   grind
  have g3: ∀i,adu A<=i->i<(adu l) / 2->(A++EQ ((adu l) / 2-(adu A)) (-1:Int))[i]! = -1:=λi h1 h2=>by
   grind
  refine⟨by rw[ll];omega,by rw[ll];omega,λi j p8 hj he=>?_,λx hx=>?_⟩
  ·rw[ll]at hj
   by_cases a:i<adu A
   ·rw[eE a]at he ⊢
    by_cases b:j<adu A
    ·rw[eE b]at he
     have:=(abE.1 nd) i j a b p8;rw[getElem!_pos A i a,getElem!_pos A j b]at he;exact absurd he this
    rw[g3 j (by omega) hj]at he
    have:=An _ (aE a);omega
   grind
  rcases aby.1 hx with hx|hx
  ·exact sp.ids x (kx.1 (hA▸hx)).1
  exact .inl (ac3.1 hx).2
 exact sp
theorem RN:eV=cW:=rfl
section
variable {k : bQ} (n : alp k.jp) (sh : HG k)
include n sh
end
theorem aa9{f:List Pt}(aV:aR f){t:Int×Int}{p:List Int}(pl:wo f p):Ma p (ez f t p):=by have R:=fh (f:=f) (t:=t) pl.one;refine⟨pl.one,pl.iq,R.1,pl.once,pl.Vg aV,R.qk,λi hi h=>?_⟩;rw[R.2 i hi]at h;unfold yk at h;omega
theorem aa'{l:List Int}(hl:(adu l)<=1000)(x:Int): ∃m,Iy l x m:=by
 have ix:=Ak l (-1) (by omega)
 by_cases h: ∃i,i<adu l/\l[i]! = -1
 ·obtain⟨k,k1,k2,k3⟩:=least h
  have k3:=k3;exact⟨_,.at_ k k1 k2 k3 (ix.1 k k1 k2 k3)⟩
 have h2:=λj hj e=>h ⟨j,hj,e⟩
 exact⟨_,.end_ h2 (ix.2 h2)⟩
theorem VH {f:List Pt} {p:List Int} (aV:aR f) (pl:wo f p) (h: ∀x,dY f x->x∈p):(cq f).Perm (dG p):=
 (List.perm_ext_iff_of_nodup (db aV.2.2) (E9 pl.once)).2 fun x=>⟨fun hx=>by
  have hp:=cz.1 hx;obtain ⟨i,hi,e⟩:=hp;have:=aV.2.1 _ (aE hi);unfold fM at this;exact kx.2 ⟨h x ⟨i,hi,e⟩,by omega⟩,fun hx=>by
  obtain ⟨h1,h2⟩:=kx.1 hx;exact cz.2 ((pl.ids x h1).has h2)⟩
theorem Iy.mem{l q:List Int}{x:Int}(h:Iy l x q):x∈q/\ ∀y∈l,0<=y->y∈q:=by
 cases h with
 |at_ k hk e _ _=>
  refine⟨List.mem_set hk x,λy hy h0=>?_⟩;obtain⟨i,hi,rfl⟩:=aN.1 hy;have g:=cw l k i x
  grind
 |end_ _ _=>grind
theorem aba{n:Nat}(h:E8 n)(h1:1<n):E8 (n / 2):=by
 obtain⟨i,hi,rfl⟩:=h;cases i with
 |zero=>omega
 |succ i=>exact⟨i,by omega,by omega⟩
theorem adV{n:Nat}(h:E8 n)(h1:n<=32):E8 (2*n):=by
 obtain⟨i,hi,rfl⟩:=h;refine⟨i+1,?_,(Pd i).symm⟩
 grind
theorem abb{l q:List Int}{x:Int}(h1:1<=adu l)(h:Iy l x q):(adu q=adu l/\ ∃k,k<adu l/\l[k]! = -1)\/(adu q=2*adu l/\ ∀j,j<adu l->l[j]!≠ -1):=by
 cases h with
 |at_ k hk e _ _=>grind
 |end_ h _=>grind
theorem abc{l:List Int}{j:Nat}:(Dd l j).length=if 1<adu l/\4*(dG (l.set j (-1))).length<=(adu l)then(adu l) / 2 else(adu l):=by
 unfold Dd
 grind
theorem abd{l:List Int}{j:Nat}{x:Int}(hx:x∈l)(h0:0<=x)(fo:x≠l[j]!):x∈Dd l j:=by
 have a:x∈l.set j (-1):=by
  obtain⟨i,hi,rfl⟩:=aN.1 hx;have g:=cw l j i (-1)
  grind
 unfold Dd;split
 ·exact List.mem_append_left _ (kx.2 ⟨a,h0⟩)
 exact a
section
variable {k : bQ} (ok : pK k) (sh : HG k)
include ok sh
theorem VI:gJ k=adw 0:=by rw[wq ok.iG.fit sh.p sh.w,AC ok]
theorem abe(p:Pt):(∃e:Int,e≠0/\dv k.jp.ii p=adw (⟨[]⟩,e)/\rD k p=adw (Jd,e))\/
 ∃(m:Nat) (q:List Int),Ro k.jp.ii.am p m/\ ¬dY k.jp.ii.am p.1/\fM p/\dv k.jp.ii p=adw (⟨qz k.jp.ii.am m p⟩,0)/\aR (qz k.jp.ii.am m p)/\
  Iy k.kw.aX p.1 q/\wo (qz k.jp.ii.am m p) q/\E8 (adu q)/\(cq (qz k.jp.ii.am m p)).Perm (dG q)/\
  ∀R,eY k.jp ⟨qz k.jp.ii.am m p⟩ q=adw R->rD k p=adw R:=by
 have c1:=VI ok sh;have aV:=ok.iG.dI;have pl:=ok.aX;rcases tH aV p with⟨e,e0,t1⟩|⟨m,hm,hp,po,iL,t1⟩
 ·have t1:=t1
  refine .inl ⟨e,e0,t1,?_⟩;unfold rD;rw[c1,aj,bw rfl,ww,t1,aj,dV e0,v6];rfl
 have tO:=Gi aV po hm iL;have iq:=pl.iq;have one:=pl.one;have full:=adU ok iL;obtain⟨q,w2⟩:=aa' (l:=k.kw.aX) (by omega) p.1;have p0:0<=p.1:=by have:=po;unfold fM at this;omega
 have pl':wo (qz k.jp.ii.am m p) q:=Uf pl p0 hp full w2;refine .inr ⟨m,q,hm,hp,po,t1,tO,w2,pl',?_,VH tO pl' λx hx=>?_,λR s1=>?_⟩
 ·rcases abb one w2 with⟨a,_⟩|⟨a,b⟩
  ·rw[a];exact ok.pow
  rw[a];exact adV ok.pow (full b)
 ·obtain⟨i,hi,rfl⟩:=hx
  rcases I9.1 (aE hi)with h|h
  ·rw[h];exact w2.mem.1
  obtain⟨j,hj,e⟩:=aN.1 h
  have:=aV.2.1 _ h;unfold fM at this;have hx:=ok.perm.mem_iff.1 (cz.2 ⟨j,hj,by rw[e]⟩);exact w2.mem.2 _ (kx.1 hx).1 (by omega)
 unfold rD
 rw[c1,aj,bw rfl,ww,t1,aj,bw rfl,ww,cM (by omega),aj];cases w2 with
 |at_ j hj e h hi=>simp_all[aA,ar,fI]
 |end_ h hi=>
  obtain⟨i,hi7,hpw⟩:=ok.pow;have rep:=Lq i (by omega);rw[<-hpw]at rep;rw[hi,aj,az (by decide),v6,aK,rep,aj];have em:(EQ (adu k.kw.aX) (-1:Int)).isEmpty=ae1:=by
   cases hh:(adu k.kw.aX)with
   |zero=>omega
   |succ _=>rfl
  rw[em,ww,bG (by rw[IR];omega),aj,ar _ _ (by rw[NE,IR];omega),aj,fI];have:(k.kw.aX++EQ (adu k.kw.aX) (-1:Int)).set (adu k.kw.aX) p.1=k.kw.aX++[p.1]++EQ (adu k.kw.aX-1) (-1):=by
   rw[abS _ _ (WF _),ad7];cases hh:(adu k.kw.aX)with
   |zero=>omega
   |succ n=>simp[abU]
  grind
theorem XD(id:Int):(¬dY k.jp.ii.am id/\cO k.jp.ii id=adw (⟨[]⟩,6)/\nR k id=adw (Jd,6))\/
 ∃q j:Nat,q<adu k.jp.ii.am/\(k.jp.ii.am[q]!).1=id/\j<adu k.kw.aX/\k.kw.aX[j]! =id/\0<=id/\cO k.jp.ii id=adw (⟨k.jp.ii.am.eraseIdx q⟩,0)/\
  aR (k.jp.ii.am.eraseIdx q)/\wo (k.jp.ii.am.eraseIdx q) (Dd k.kw.aX j)/\E8 (Dd k.kw.aX j).length/\(cq (k.jp.ii.am.eraseIdx q)).Perm (dG (Dd k.kw.aX j))/\
  (dG (k.kw.aX.set j (-1))).length=adu k.jp.ii.am-1/\
  ∀R,eY k.jp ⟨k.jp.ii.am.eraseIdx q⟩ (Dd k.kw.aX j)=adw R->nR k id=adw R:=by
 have c1:=VI ok sh;have aV:=ok.iG.dI;have pl:=ok.aX;have iq:=pl.iq
 by_cases Ps:dY k.jp.ii.am id
 case neg=>have t1:=xg aV Ps;refine .inl ⟨Ps,t1,?_⟩;unfold nR;rw[c1,aj,bw rfl,ww,t1,aj,dV (by decide),v6];rfl
 have hm:=kx.1 (ok.perm.mem_iff.1 (cz.2 Ps));obtain⟨q,hq,hqe⟩:=Ps;have t1:=Bz aV hq;rw[hqe]at t1;have tO:=C5 aV q;obtain⟨j,hj,e,ix⟩:=DR (by omega) hm.1;have h0:0<=k.kw.aX[j]!:=by omega
 have pl':=RM pl hj h0 λx hx fo=>XC aV.2.2 hq hx (by omega)
 have fl:(k.jp.ii.am.eraseIdx q).length=(dG (k.kw.aX.set j (-1))).length:=by
  have a:=XB hj h0;have b:=ok.perm.length_eq
  grind[iV,Gc]
 refine .inr ⟨q,j,hq,hqe,hj,e,hm.2,t1,tO,pl',?_,VH tO pl' λx hx=>?_,by grind,λR s1=>?_⟩
 ·rw[abc]
  split
  ·rename_i h;exact aba ok.pow h.1
  exact ok.pow
 ·obtain⟨i,hi,rfl⟩:=hx
  obtain⟨a,b⟩:=(DT aV.2.2 hq).1 (aE hi);obtain⟨i',tY,e'⟩:=aN.1 a;have hx:=kx.1 (ok.perm.mem_iff.1 (cz.2 ⟨i',tY,by rw[e']⟩))
  grind[abd]
 unfold nR
 rw[c1,aj,bw rfl,ww,t1,aj,bw rfl,ww,cM (by omega),aj,ix,aj,ar _ j hj,aj];simp only[fI,aK,UV,];have il:(dG (k.kw.aX.set j (-1))).length<=(adu k.kw.aX):=by have:=abQ (λx:Int=>decide (0<=x)) (k.kw.aX.set j (-1));rw[UV]at this;unfold dG;omega
 rw[fN ⟨by omega,by omega⟩];unfold Dd at s1
 by_cases a:1<adu k.kw.aX
 ·rw[az (by omega),v6]
  by_cases b:4*(dG (k.kw.aX.set j (-1))).length<=adu k.kw.aX
  ·rw[az (by omega),v6,RN]
   rw[AC ⟨a,b⟩]at s1;obtain⟨N,M,m1,m2,m3,m4⟩:=En (k.kw.aX.set j (-1)) (by rw[UV];omega);rw[UV]at m1 m3;have w2:aa .i64 (aa .i64 (Int.tdiv ((adu k.kw.aX):Int) 2) - (N:Int))=(((adu k.kw.aX) / 2-N:Nat):Int):=by rw[Int.tdiv_eq_ediv_of_nonneg (by omega),fN (n:=((adu k.kw.aX):Int) / 2) ⟨by omega,by omega⟩,fN ⟨by omega,by omega⟩];omega
   rw[m1,aj];rw[w2,XA _ (by omega) (by omega),aj];have em:(EQ ((adu k.kw.aX) / 2-N) (-1:Int)).isEmpty=ae1:=by
    cases hh:(adu k.kw.aX) / 2-N with
    |zero=>omega
    |succ _=>rfl
   have b1:Nat.ble (N+((adu k.kw.aX) / 2-N)) (adu k.kw.aX)=ae0:=by rw[Nat.ble_eq];omega
   have lay:(gQ M N (EQ ((adu k.kw.aX) / 2-N) (-1:Int))).take (N+((adu k.kw.aX) / 2-N))=dG (k.kw.aX.set j (-1))++EQ ((adu k.kw.aX) / 2-N) (-1):=by unfold gQ;rw[m4,abw (by rw[NE,IR];omega),abz (by rw[NE,IR];omega)]
   rw[em,ww,IR,b1,v6,m3,b1];simp only[ad3,Bool.and_self,v6];rw[lay,m2,s1,aj]
  rw[aA (by omega),ww]
  rw[Do (λh=>b h.2)]at s1;rw[s1,aj]
 grind
end
structure Fa(R:bQ)(F:List Pt)(P:List Int)(t:Int×Int):Prop where
 ok:pK R
 dI:R.jp.ii.am=F
 ci:R.jp.ci=t
 pls:R.kw.aX=P
theorem adP.alM{c:aH}(ok:aT c){f:List Pt}(aV:aR f){p:List Int}(pl:wo f p)(pw:E8 (adu p))(pm:(cq f).Perm (dG p)){k:bQ}(h:adP c f p k):Fa k f p c.ci:=by have q:=h.zF;have b:=h.aX;obtain⟨_,nd,_⟩:=pJ aV ok.dP pl;refine⟨⟨q.ok,by grind[aa9],by rw[b];exact pw,by rw[q.dI,b];exact pm,by rw[b,q.dI,q.ci],?_⟩,q.dI,q.ci,by rw[b]⟩;rw[b];exact y5 (ma q.ok.wF) nd (λz hz=>by obtain⟨y,hy,rfl⟩:=abA.1 hz;exact q.sub y hy) (λz hz=>dW.1 (q.has z hz))
abbrev ahx:bQ:=⟨eQ,⟨[],[]⟩⟩
abbrev ahy:cf:=⟨eQ,⟨0,[]⟩⟩
abbrev ahz:cC:=⟨eQ,[]⟩
def adW(t:Int×Int):Prop:=bo t/\ -1073741824<=t.1/\t.1<=1073741824/\t.2<=1024
abbrev ahA:bX:=⟨eQ,[]⟩
inductive VC:aah->aH->Prop
 |hp{k:bX}(ok:kW k)(a:adW k.jp.ci):VC ⟨1,k,ahx,ahy,ahz⟩ k.jp
 |tn{k:bQ}(ok:pK k)(a:adW k.jp.ci):VC ⟨2,ahA,k,ahy,ahz⟩ k.jp
 |ht{k:cf}(ok:jm k)(a:adW k.jp.ci):VC ⟨3,ahA,ahx,k,ahz⟩ k.jp
 |hg{k:cC}(ok:jo k)(a:adW k.jp.ci):VC ⟨4,ahA,ahx,ahy,k⟩ k.jp
theorem pK.sh{k:bQ}(ok:pK k):HG k:=by have:=ok.br.iq;have h:=(fh (f:=k.jp.ii.am) (t:=k.jp.ci) ok.br.one).1;refine⟨ok.iG.short,by omega,?_⟩;rw[ok.right];omega
theorem kW.XV{k:bX}(ok:kW k):nH k=adw 0/\o8 k=adw 0:=by have:=ok.bd;rw[pD ok.iG.fit (by omega),KZ ok.iG.fit (by omega),AC ok];simp
theorem pK.XV{k:bQ}(ok:pK k):gJ k=adw 0/\pf k=adw 0:=by rw[wq ok.iG.fit ok.sh.p ok.sh.w,Lp ok.iG.fit ok.sh.p ok.sh.w,AC ok];simp
theorem jm.XV{k:cf}(ok:jm k):lV k=adw 0/\pg k=adw 0:=by rw[oe ok.iG.fit,K0 ok.iG.fit,AC ok];simp
theorem jo.XV{k:cC}(ok:jo k):lW k=adw 0/\rB k=adw 0:=by rw[og ok.iG.fit,K9 ok.iG.fit,AC ok];simp
section
variable {c : aah} {q : aH} (v : VC c q)
include v
end
theorem Ls{c:aH}(ok:aT c){f:List Pt}(aV:aR f){p:List Int}(pl:wo f p)(pw:E8 (adu p))(pm:(cq f).Perm (dG p)){k:Nat}(hr:eR c 100 k)(hk:k+200<=999999):
 ∃(R:bQ) (k2:Nat),mZ c ⟨f⟩ p=adw (R,0)/\R.kw=⟨p,ez f c.ci p⟩/\Fa R f p c.ci/\eR R.jp 100 k2/\k2<=k+190:=by
 have h1:=ye aV ok.gZ ok.dP pl;obtain⟨oL,nd,el⟩:=pJ aV ok.dP pl;obtain⟨q,q1,q2,q3,k',q4,q5⟩:=uK ok aV oL nd (by omega) hr (by omega);refine⟨⟨q,⟨p,ez f c.ci p⟩⟩,k',?_,rfl,adP.alM ok aV pl pw pm ⟨q2,rfl⟩,q5,q4⟩;unfold mZ
 grind
theorem Uh{to:Int×Int}(rt:bo to)(dX:jb to): ∀(d:Nat) (k:bQ) (out:List (Int×Int)) (n:Nat),R9 k.jp.ii.am k.jp.ci<=d->pK k->eR k.jp 100 n->n+190*d+200<=999999->adu out+d<=1048000-> ¬gY to k.jp.ci<0->
 ∃(R:bQ) (o:List (Int×Int)) (k2:Nat),aq iC (tP k.jp k.kw.aX k.kw.kG to out)=adw (R,o,0)/\Fa R k.jp.ii.am k.kw.aX to/\eR R.jp 100 k2/\k2<=n+190*d:=by
 have done: ∀(k:bQ) (out:List (Int×Int)),pK k-> ¬gY to k.jp.ci<0-> ¬E4 k.jp to->
  ∃R:bQ,aq iC (tP k.jp k.kw.aX k.kw.kG to out)=adw (R,out,0)/\Fa R k.jp.ii.am k.kw.aX to/\R.jp=Vw k.jp to:=λk out nE le io=>by
  have ok:=nE.iG;have pl:=pL nE.br nE.perm;obtain⟨c,p,w⟩:=k;have hw:w=ez c.ii.am c.ci p:=nE.right;subst hw;have cp:=nE.cert;have ct: ∀e∈k8 p (ez c.ii.am c.ci p),qy c.af.ce e:=λe he=>dW.2 (cp.mem_iff.2 he)
  have h1:=ye ok.dI rt dX pl;have bs:=Me ok pl ct rt le io;have h1:oX c.ii to p=adw (⟨p,ez c.ii.am to p⟩,k8 p (ez c.ii.am to p)):=h1;rw[bs]at h1;have B5:(aH.mk (c.ci.1,c.ci.2) (Field.mk c.ii.am) (cm.mk c.af.aW c.af.ce) (aS.mk (bF.mk c.ae.ai.ay c.ae.ai.be c.ae.ai.bi) c.ae.bv c.ae.aC) c.io)=c:=rfl;have asL:((to.1,to.2):Int×Int)=to:=rfl;refine⟨⟨Vw c to,⟨p,ez c.ii.am c.ci p⟩⟩,au ?_,⟨⟨Gm ok rt dX le io,nE.br,nE.pow,nE.perm,bs.symm,cp⟩,rfl,rfl,rfl⟩,rfl⟩;unfold iC tP;simp[Gl ok rt dX le io,I' ok rt dX le io]
  grind
 intro d
 induction d with
 |zero=>
  intro k out n ht nE hr hk ho le;have pl:=pL nE.br nE.perm;have ld: ∀x∈k.jp.af.ce,leads (bC k.jp.ii.am x.2.2) (bC k.jp.ii.am x.2.1) k.jp.ci:=λx hx=>
   Dc nE.iG.dI pl (by rw[<-nE.right];exact nE.cert.mem_iff.1 (abV hx))
  by_cases io:E4 k.jp to
  ·obtain⟨x,c1,e1,Eh,hf,hn,N5,ph⟩:=xq nE.iG ld hr rt dX le io
   omega
  obtain⟨R,a1,a2,a3⟩:=done k out nE le io
  exact⟨R,out,n,a1,a2,by rw[a3];exact⟨hr.l,hr.n,hr.u⟩,by omega⟩
 |succ d ih=>
  intro k out n ht nE hr hk ho le;have pl:=pL nE.br nE.perm;have ld: ∀x∈k.jp.af.ce,leads (bC k.jp.ii.am x.2.2) (bC k.jp.ii.am x.2.1) k.jp.ci:=λx hx=>
   Dc nE.iG.dI pl (by rw[<-nE.right];exact nE.cert.mem_iff.1 (abV hx))
  by_cases io:E4 k.jp to
  ·obtain⟨x,c1,e1,Eh,hf,hn,N5,ph⟩:=xq nE.iG ld hr rt dX le io
   obtain⟨R,k2,s1,sb,s2,s3,s4⟩:=Ls Eh Eh.dI (by rw[hf];exact pl) nE.pow (by rw[hf];exact nE.perm) N5 (by omega);have s1:=s1;have ol:ba out [x]=adw (out++[x]):=bG (by rw[PP];omega);obtain⟨c,p,w⟩:=k;have B5:(aH.mk (c.ci.1,c.ci.2) (Field.mk c.ii.am) (cm.mk c.af.aW c.af.ce) (aS.mk (bF.mk c.ae.ai.ay c.ae.ai.be c.ae.ai.bi) c.ae.bv c.ae.aC) c.io)=c:=rfl;have asL:((to.1,to.2):Int×Int)=to:=rfl;have s1:=s1;have e1:=e1;have rU:iC (tP c p w to out)=adw (.next (tP R.jp R.kw.aX R.kw.kG to (out++[x]))):=by
    unfold iC tP;simp[e1,s1,ol]
   have hf:=hf;have hn:=hn;show∃(S:bQ) (o:List (Int×Int)) (k2:Nat),aq iC (tP c p w to out)=adw (S,o,0)/\Fa S c.ii.am p to/\eR S.jp 100 k2/\k2<=n+190*(d+1);rw[aQ rU];have e3:R.jp.ii.am=c.ii.am:=by rw[s2.dI,hf]
   have ph:R9 c.ii.am c1.ci+1<=R9 c.ii.am c.ci:=ph;have ht:R9 c.ii.am c.ci<=d+1:=ht;have io:=io;obtain⟨S,o,k3,t1,t2,t3,t4⟩:=ih R (out++[x]) k2 (by rw[e3,s2.ci];omega) s2.ok s3 (by omega) (by rw[NE,PP];omega) (by rw[s2.ci,hn];exact io.late);refine⟨S,o,k3,t1,?_,t3,by omega⟩;rw[e3,s2.pls]at t2;exact t2
  obtain⟨R,a1,a2,a3⟩:=done k out nE le io
  exact⟨R,out,n,a1,a2,by rw[a3];exact⟨hr.l,hr.n,hr.u⟩,by omega⟩
theorem Ui{k:bQ}{F:List Pt}{P:List Int}{t:Int×Int}(at_:Fa k F P t)(h12:(adu F)<=12){n:Nat}(hr:eR k.jp 100 n)(hn:n<=500000){to:Int×Int}(rt:bo to)(dX:jb to)(le: ¬gY to t<0):
 ∃(R:bQ) (o:List _) (n2:Nat),s5 k to=adw (R,o,0)/\Fa R F P to/\eR R.jp 100 n2/\n2<=n+30000:=by
 obtain⟨ok,dI,ci,pls⟩:=at_;subst dI ci pls;have sh:=ok.sh;have c1:gJ k=adw 0:=by rw[wq ok.iG.fit sh.p sh.w,AC ok]
 have pb:=T6 (t:=k.jp.ci) h12;obtain⟨R,o,k2,r1,r2,r3,r4⟩:=Uh rt dX 144 k [] n pb ok hr (by omega) (by simp) le;refine⟨R,o,k2,?_,r2,r3,by omega⟩;unfold s5;rw[c1,aj,bw rfl,ww,cZ dX,AC rt,aj,bw rfl,ww,CT dX ok.iG.dP,AC ⟨rt,ok.iG.gZ⟩,aj,aA le];exact r1
theorem XE{k:bX}{F:List Pt}{t:Int×Int}(at_:Gj k F t)(h12:(adu F)<=12){n:Nat}(hr:eR k.jp 100 n)(hn:n<=500000){to:Int×Int}(rt:bo to)(dX:jb to)(le: ¬gY to t<0):
 ∃(R:bX) (o:List (Int×Int)) (n2:Nat),vn k to=adw (R,o,0)/\Gj R F to/\eR R.jp 100 n2/\n2<=n+50000:=by
 obtain⟨ok,dI,ci⟩:=at_;subst dI ci;have ln:=ok.len;have bd:=ok.bd;have c1:=pD ok.iG.fit (show(adu k.bv)<=1000 by omega);rw[AC ok]at c1;have tb:=aaU (f:=k.jp.ii.am) (l:=k.bv) (t:=k.jp.ci) ln h12;obtain⟨c2,l2,o,k2,a1,a2,a3,a4,a5,a6,a7⟩:=aaV rt dX 4000 k.jp k.bv [] n tb ⟨ok.iG,ok.perm,ok.cert⟩ (by omega) hr (by omega) (by simp) le;refine⟨⟨Vw c2 to,l2⟩,o,k2,?_,⟨adI a2 rt dX a4 a5,by show c2.ii.am=_;rw[a3],rfl⟩,⟨a6.l,a6.n,a6.u⟩,by omega⟩;unfold vn;rw[c1,aj,bw rfl,ww,cZ dX,AC rt,aj,bw rfl,ww,CT dX ok.iG.dP,AC ⟨rt,ok.iG.gZ⟩,aj,aA le];exact a1
def Chg{α:Type}(r:Field×Int)(o:Option (α×Int))(z:α)(at_:α->List Pt->Prop)(iG:α->aH)(n m:Nat):Prop:=
 (r.2≠0/\o=adw (z,r.2))\/(r.2=0/\adu r.1.am<=m/\ ∃(R:α) (n2:Nat),o=adw (R,0)/\at_ R r.1.am/\eR (iG R) 100 n2/\n2<=n+190)
theorem Ns{c:aH}(ok:aT c){f:List Pt}(aV:aR f){l:List Int}(pm:(cq f).Perm l)(hh:Hp (iZ f c.ci) l){k:Nat}(hr:eR c 100 k)(hk:k+200<=999999):
 ∃(R:bX) (k2:Nat),FW c f l=(R,0)/\Gj R f c.ci/\eR R.jp 100 k2/\k2<=k+190:=by
 have f1:=aV.1;have ln:(adu l)=(adu f):=by rw[<-pm.length_eq];exact If ..
 have oL:=Bx aV pm;have nd:=vR (pm.nodup_iff.1 (db aV.2.2));have el:(dN l).length=adu l-1:=gU l _;obtain⟨q,q1,q2,q3,k',q4,q5⟩:=uK ok aV oL nd (by omega) hr (by omega);have s:bY c ⟨f⟩ l=adw (⟨q,l⟩,0):=by
  unfold bY
  grind[yc,aj]
 exact⟨⟨q,l⟩,k',by unfold FW;rw[s];rfl,yY.bv aV pm rfl q2 hh,q5,q4⟩
theorem alN{k:bX}{F:List Pt}{t:Int×Int}(a:Gj k F t){n:Nat}(hr:eR k.jp 100 n)(hn:n<=900000)(p:Pt):
 ∃r:Field×Int,dv ⟨F⟩ p=adw r/\Chg r (rC k p) noK (λR f=>Gj R f t) (λR=>R.jp) n (adu F+1):=by
 obtain⟨ok,dI,ci⟩:=a;subst dI ci;rcases aaO ok p with⟨e,e0,t1,h1⟩|⟨m,hm,hp,po,iL,t1,l,pm,hh,h1⟩
 ·exact⟨_,t1,.inl ⟨e0,h1⟩⟩
 obtain⟨R,n2,s1,s2,s3,s4⟩:=Ns ok.iG (Gi ok.iG.dI po hm iL) pm hh hr (by omega)
 exact⟨_,t1,.inr ⟨rfl,abN (Ao hm.le p),R,n2,by rw[h1,s1],s2,s3,s4⟩⟩
theorem ahB{k:bX}{F:List Pt}{t:Int×Int}(a:Gj k F t){n:Nat}(hr:eR k.jp 100 n)(hn:n<=900000)(id:Int):
 ∃r:Field×Int,cO ⟨F⟩ id=adw r/\Chg r (mq k id) noK (λR f=>Gj R f t) (λR=>R.jp) n (adu F):=by
 obtain⟨ok,dI,ci⟩:=a;subst dI ci;rcases Xk ok id with⟨_,t1,h1⟩|⟨q,hq,_,t1,l,pm,hh,h1⟩
 ·exact⟨_,t1,.inl ⟨by decide,h1⟩⟩
 obtain⟨R,n2,s1,s2,s3,s4⟩:=Ns ok.iG (C5 ok.iG.dI q) pm hh hr (by omega)
 exact⟨_,t1,.inr ⟨rfl,abv _ q,R,n2,by rw[h1,s1],s2,s3,s4⟩⟩
theorem Nt {k:cf} (ok:jm k) {F:List Pt} (tO:aR F) {n:Nat} (hr:eR k.jp 100 n) (hn:n<=900000): ∃(R:cf) (n2:Nat),
 ((uA ⟨F⟩ k.jp.ci).bind fun a2=>(rE a2.1).bind fun l3=>(gq k.jp ⟨F⟩ l3).bind fun a4=>
  bif a4.2 !=0 then adw (cf.mk (aH.mk (0,0) (Field.mk []) (cm.mk 0 []) (aS.mk (bF.mk [] [] []) [] []) []) (Tree.mk 0 []),a4.2) else adw (cf.mk a4.1 a2.1,0))=adw (R,0)/\
 Hy R F k.jp.ci/\eR R.jp 100 n2/\n2<=n+190:=by
 obtain ⟨r,N,h1,h2⟩:=Vu tO ok.iG.gZ ok.iG.dP;have ln:=h2.len;have el:=pG N (adu F);obtain ⟨oL,nd,_⟩:=h2.Rp tO;have f1:=tO.1;obtain ⟨q,q1,q2,q3,k',q4,q5⟩:=uK ok.iG tO oL nd (by omega) hr (by omega);have ee:=TZ h2 (by omega);refine ⟨⟨q,⟨r,N⟩⟩,k',?_,⟨⟨q2.ok,?_,?_⟩,q2.dI,q2.ci⟩,q5,q4⟩
 · grind
 · show hZ q.ii.am q.ci N r
   rw [q2.dI,q2.ci];exact h2
 rw [q2.dI];exact q3
theorem alO{k:cf}{F:List Pt}{t:Int×Int}(a:Hy k F t){n:Nat}(hr:eR k.jp 100 n)(hn:n<=900000)(p:Pt):
 ∃r:Field×Int,dv ⟨F⟩ p=adw r/\Chg r (xn k p) noH (λR f=>Hy R f t) (λR=>R.jp) n (adu F+1):=by
 obtain⟨ok,dI,ci⟩:=a;subst dI ci;have c1:=oe ok.iG.fit;have aV:=ok.iG.dI;rcases tH aV p with⟨e,e0,t1⟩|⟨m,hm,hp,po,iL,t1⟩
 ·have t2:dv k.jp.ii p=adw _:=t1
  refine⟨_,t1,.inl ⟨e0,?_⟩⟩;unfold xn iD yT
  grind
 have t2:dv k.jp.ii p=adw _:=t1
 obtain⟨R,n2,s1,s2,s3,s4⟩:=Nt ok (Gi aV po hm iL) hr hn;refine⟨_,t1,.inr ⟨rfl,abN (Ao hm.le p),R,n2,?_,s2,s3,s4⟩⟩;unfold xn iD yT
 grind
theorem ahC{k:cf}{F:List Pt}{t:Int×Int}(a:Hy k F t){n:Nat}(hr:eR k.jp 100 n)(hn:n<=900000)(id:Int):
 ∃r:Field×Int,cO ⟨F⟩ id=adw r/\Chg r (qP k id) noH (λR f=>Hy R f t) (λR=>R.jp) n (adu F):=by
 obtain⟨ok,dI,ci⟩:=a;subst dI ci;have c1:=oe ok.iG.fit;rw[AC ok]at c1;have aV:=ok.iG.dI
 by_cases Ps:dY k.jp.ii.am id
 case neg=>have t1:=xg aV Ps;have t2:=t1;refine⟨_,t1,.inl ⟨by decide,?_⟩⟩;unfold qP hJ xb;simp[c1,t2,]
 obtain⟨q,hq,rfl⟩:=Ps;have t1:=Bz aV hq;have t2:cO k.jp.ii _=adw _:=t1;obtain⟨R,n2,s1,s2,s3,s4⟩:=Nt ok (C5 aV q) hr hn;refine⟨_,t1,.inr ⟨rfl,abv _ q,R,n2,?_,s2,s3,s4⟩⟩;unfold qP hJ xb
 grind
theorem Iz{c:aH}(ok:aT c){f:List Pt}(aV:aR f){k:Nat}(hr:eR c 100 k)(hk:k<=900000):
 ∃(R:cC) (k2:Nat),gF c ⟨f⟩=adw (R,0)/\Gu R f c.ci/\eR R.jp 100 k2/\k2<=k+190:=by
 obtain⟨oL,nd,_⟩:=xt (t:=c.ci) aV;have el:=pI (f:=f) (rN f c.ci) (adu f);have f1:=aV.1;obtain⟨q,q1,q2,q3,k',q4,q5⟩:=uK ok aV oL nd (by omega) hr (by omega);have hh:=Jb aV ok.gZ ok.dP;refine⟨⟨q,rN f c.ci⟩,k',?_,Xv.hg aV (R:=(⟨q,rN f c.ci⟩,0)) ⟨rfl,rfl,q2⟩,q5,q4⟩;unfold gF
 grind
theorem alP{k:cC}{F:List Pt}{t:Int×Int}(a:Gu k F t){n:Nat}(hr:eR k.jp 100 n)(hn:n<=900000)(p:Pt):
 ∃r:Field×Int,dv ⟨F⟩ p=adw r/\Chg r (uE k p) noG (λR f=>Gu R f t) (λR=>R.jp) n (adu F+1):=by
 obtain⟨ok,dI,ci⟩:=a;subst dI ci;have c1:=og ok.iG.fit;have aV:=ok.iG.dI;rcases tH aV p with⟨e,e0,t1⟩|⟨m,hm,hp,po,iL,t1⟩
 ·have t2:dv k.jp.ii p=adw _:=t1
  refine⟨_,t1,.inl ⟨e0,?_⟩⟩;unfold uE gK xa
  grind
 have t2:dv k.jp.ii p=adw _:=t1
 obtain⟨R,n2,s1,s2,s3,s4⟩:=Iz ok.iG (Gi aV po hm iL) hr hn;refine⟨_,t1,.inr ⟨rfl,abN (Ao hm.le p),R,n2,?_,s2,s3,s4⟩⟩;unfold uE gK xa
 grind
theorem ahD{k:cC}{F:List Pt}{t:Int×Int}(a:Gu k F t){n:Nat}(hr:eR k.jp 100 n)(hn:n<=900000)(id:Int):
 ∃r:Field×Int,cO ⟨F⟩ id=adw r/\Chg r (py k id) noG (λR f=>Gu R f t) (λR=>R.jp) n (adu F):=by
 obtain⟨ok,dI,ci⟩:=a;subst dI ci;have c1:=og ok.iG.fit;rw[AC ok]at c1;have aV:=ok.iG.dI
 by_cases Ps:dY k.jp.ii.am id
 case neg=>have t1:=xg aV Ps;have t2:=t1;refine⟨_,t1,.inl ⟨by decide,?_⟩⟩;unfold py gx vq;simp[c1,t2,]
 obtain⟨q,hq,rfl⟩:=Ps;have t1:=Bz aV hq;have t2:cO k.jp.ii _=adw _:=t1;obtain⟨R,n2,s1,s2,s3,s4⟩:=Iz ok.iG (C5 aV q) hr hn;refine⟨_,t1,.inr ⟨rfl,abv _ q,R,n2,?_,s2,s3,s4⟩⟩;unfold py gx vq
 grind
theorem Nu{c:aH}(ok:aT c){f:List Pt}(aV:aR f){p:List Int}(pl:wo f p)(pw:E8 (adu p))(pm:(cq f).Perm (dG p)){k:Nat}(hr:eR c 100 k)(hk:k<=900000):
 ∃(R:bQ) (k2:Nat),eY c ⟨f⟩ p=adw (R,0)/\Fa R f p c.ci/\eR R.jp 100 k2/\k2<=k+190:=by
 have h1:=Av aV ok.gZ ok.dP pl.one pl.iq pl.ids pl.once;have e1:=Lk (fh (f:=f) (t:=c.ci) pl.one) pl.iq pl.once;obtain⟨oL,nd,el⟩:=pJ aV ok.dP pl;obtain⟨q,q1,q2,q3,k',q4,q5⟩:=uK ok aV oL nd (by omega) hr (by omega);refine⟨⟨q,⟨p,ez f c.ci p⟩⟩,k',?_,adP.alM ok aV pl pw pm ⟨q2,rfl⟩,q5,q4⟩;unfold eY
 grind
theorem alQ{k:bQ}{F:List Pt}{P:List Int}{t:Int×Int}(a:Fa k F P t){n:Nat}(hr:eR k.jp 100 n)(hn:n<=900000)(p:Pt):
 ∃r:Field×Int,dv ⟨F⟩ p=adw r/\Chg r (rD k p) Jd (λR f=> ∃P,Fa R f P t) (λR=>R.jp) n (adu F+1):=by
 obtain⟨ok,dI,ci,pls⟩:=a;subst dI ci pls;rcases abe ok ok.sh p with⟨e,e0,t1,h1⟩|⟨m,q,hm,hp,po,t1,tO,_,pl,pw,pm,go⟩
 ·exact⟨_,t1,.inl ⟨e0,h1⟩⟩
 obtain⟨R,n2,s1,s2,s3,s4⟩:=Nu ok.iG tO pl pw pm hr hn
 exact⟨_,t1,.inr ⟨rfl,abN (Ao hm.le p),R,n2,go _ s1,⟨_,s2⟩,s3,s4⟩⟩
theorem ahE{k:bQ}{F:List Pt}{P:List Int}{t:Int×Int}(a:Fa k F P t){n:Nat}(hr:eR k.jp 100 n)(hn:n<=900000)(id:Int):
 ∃r:Field×Int,cO ⟨F⟩ id=adw r/\Chg r (nR k id) Jd (λR f=> ∃P,Fa R f P t) (λR=>R.jp) n (adu F):=by
 obtain⟨ok,dI,ci,pls⟩:=a;subst dI ci pls;rcases XD ok ok.sh id with⟨_,t1,h1⟩|⟨q,j,hq,_,_,_,_,t1,tO,pl,pw,pm,_,go⟩
 ·exact⟨_,t1,.inl ⟨by decide,h1⟩⟩
 obtain⟨R,n2,s1,s2,s3,s4⟩:=Nu ok.iG tO pl pw pm hr hn
 exact⟨_,t1,.inr ⟨rfl,abv _ q,R,n2,go _ s1,⟨_,s2⟩,s3,s4⟩⟩
def zB:bF:=⟨EQ 200 0,EQ 200 ae1,(acI 200).map λj:Nat=>(199:Int) - (j:Int)⟩
def Je:aS:=⟨zB,[],EQ 200 (-1)⟩
def iW(f:Field)(t:Int×Int):aH:=⟨t,f,⟨0,[]⟩,Je,[]⟩
theorem RO:FZ 200=adw (zB,0):=
 (by kernel_rfl:FZ 200=aq Ih (200,200,0,EQ 200 0,EQ 200 ae1,EQ 200 0)).trans (bg.2 ⟨300,by kernel_rfl⟩)
theorem XF:bN [-1] 200=adw (EQ 200 (-1)):=by
 unfold bN ic;have m:fK (aa .u64 (abq ([-1]:List Int).length)) (aa .u64 200)=adw (0,200):=by rw[show aa .u64 (abq ([-1]:List Int).length)=1 from by kernel_rfl,show aa .u64 200=200 from by kernel_rfl,Ae ⟨by decide,by decide⟩ ⟨by decide,by decide⟩];rfl
 rw[m];exact(by kernel_rfl:_=aq aD (1,-1::EQ 199 0)).trans (bg.2 ⟨20,by kernel_rfl⟩)
theorem Mf:A' 200=adw (Je,0):=by unfold A';rw[RO,aj,bw rfl,ww,XF];rfl
theorem xj(f:Field){t:Int×Int}(dX:jb t):uu f t=adw (if jS f.am≠0 then(eQ,jS f.am)else if bo t then(iW f t,0)else(eQ,8)):=by
 unfold uu;rw[eW,aj]
 by_cases h:jS f.am=0
 ·have aV:=dM.1 h
  have f1:=aV.1;rw[bw h,ww,cZ dX,aj,Do (show¬jS f.am≠0 from λk=>k h)]
  by_cases rt:bo t
  ·rw[AC rt,AC rt,bw rfl,ww,Mf,aj,cM (show(adu f.am)<=1048576 by omega),aj]
   rfl
  rw[Do rt,Do rt,dV (by decide),v6]
 rw[dV h,v6,AC h]
theorem yf{α:Type}[Inhabited α]{n i:Nat}(a:α)(h:i<n):(EQ n a)[i]! =a:=by rw[getElem!_pos _ i (by rw[IR];exact h),List.getElem_replicate]
theorem adX{i:Nat}(hi:i<200):(i:Int)∈zB.bi:=by refine abA.2 ⟨199-i,ad4.2 (by omega),?_⟩;show(199:Int) - ((199-i:Nat):Int)=(i:Int);omega
theorem pM:(adu zB.ay)=200:=IR ..
set_option maxRecDepth 100000 in
theorem abf:(adu zB.bi)=200:=by unfold zB;exact(If _).trans aci
theorem XG:iE zB where
 n1:=by rw[pM];omega
 n2:=by rw[pM];omega
 ul:=by rw[pM];exact IR ..
 fr:=λx hx=>by obtain⟨j,hj,rfl⟩:=abA.1 hx;have:=ad4.1 hj;rw[pM];omega
 fd:=by
  refine xY List.nodup_range λi hi j hj h=>?_
  have h:(199:Int) - (i:Int)=199- (j:Int):=h;omega
 uf:=λi hi=>by
  rw[pM]at hi;rw[show zB.be[i]! =ae1 from yf ae1 hi];constructor
  ·intro h;cases h
  intro h;exact absurd (adX hi) h
 us:=λi hi=>by rw[pM]at hi;rw[show zB.ay[i]! =0 from yf 0 hi,show zB.be[i]! =ae1 from yf ae1 hi];exact⟨by decide,by decide,λh=>by cases h⟩
set_option maxRecDepth 100000 in
theorem Uj:gb Je where
 so:=XG
 wl:=(IR (n:=200) (a:=(-1:Int))).trans pM.symm
 hl:=((ad5 _).trans abf).trans pM.symm
 fwd:=λi hi h=>by rw[show Je.ai.be[i]! =ae1 from yf ae1 (by rw[<-pM];exact hi)]at h;cases h
 un:=λi hi _=>yf (-1) (by rw[<-pM];exact hi)
 ev:=λw hw=>absurd hw (aaP w)
 nd:=λv w _ hw=>absurd hw (aaP w)
 ord:=λk _ hk=>absurd hk (aaP k)
theorem DY{f:Field}(aV:aR f.am){t:Int×Int}(r:bo t)(dX:jb t):aT (iW f t) where
 gZ:=r
 dP:=dX
 dI:=aV
 wF:=(⟨by decide,by decide,by decide,λi hi=>absurd hi (aaP i),λi hi=>absurd hi (aaP i),λi j _ hj=>absurd hj (aaP j),λi j _ hj=>absurd hj (aaP j)⟩:hM ⟨0,[]⟩)
 nB:=Uj
 Hu:=IR ..
 hd:=rfl
 known:=λi hi=>absurd hi (aaP i)
 AA:=rfl
theorem adY{f:List Pt}(aV:aR f){t:Int×Int}(r:bo t)(dX:jb t)(c0:List Pt×Int×Int×Int×List Int): ∀(i:Nat) (l:List Int),(∀x∈l,dY f x)->l.Nodup->i<adu l->adu l<=1000->adu c0.2.2.2.2=adu l->
 aq (jO c0) ((i:Int),l,f,t.1,t.2)=adw (nC f t i l):=by
 intro i
 induction i using acG with
 |ind i ih=>
  intro l hp nd hi hl hc;cases i with
  |zero=>unfold nC;refine au ?_;unfold jO;simp only[aA (show¬(0:Int)<((0:Nat):Int) by omega),ww,hc,beq_self_eq_true,v6]
  |succ i=>
   have hu:=OS (i:=i+1) (by omega) (by omega);rw[show(i+1-1) / 2=i / 2 from rfl]at hu;have hj:i / 2<(adu l):=by omega
   have g1:=ar l (i+1) hi;have g2:=ar l (i / 2) hj;have g3:=ar (l.set (i+1) l[i / 2]!) (i / 2) (by rw[UV];exact hj);have a1:=Rj aV r dX (hp _ (aE hi)) (hp _ (aE hj)) (λh=>bJ.1 nd (i / 2) (i+1) (by omega) hi h.symm);have sp:=kv (l:=l) hi hj;have sl:(fO l (i+1) (i / 2)).length=(adu l):=sp.length_eq;unfold nC
   by_cases c:leads (bC f l[i+1]!) (bC f l[i / 2]!) t
   ·rw[AC c]
    rw[az c]at a1;rw[aQ (y:=(((i / 2:Nat):Int),fO l (i+1) (i / 2),f,t.1,t.2)) (by unfold jO;simp only[az (show(0:Int)<((i+1:Nat):Int) by omega),v6,g1,aj,hu,g2,a1,fI,g3];rfl)];exact ih (i / 2) (by omega) _ (λx hx=>hp x (sp.mem_iff.1 hx)) (sp.nodup_iff.2 nd) (by omega) (by omega) (by omega)
   rw[Do c]
   rw[aA c]at a1;refine au ?_;unfold jO;simp only[az (show(0:Int)<((i+1:Nat):Int) by omega),v6,g1,aj,hu,g2,a1,ww,hc,beq_self_eq_true]
theorem adZ{f:List Pt}(aV:aR f){t:Int×Int}(r:bo t)(dX:jb t){i:Nat}{l:List Int}(hp: ∀x∈l,dY f x)(nd:l.Nodup)(hi:i<adu l)(hl:(adu l)<=1000):pQ (f,t.1,t.2,(i:Int),l)=adw (nC f t i l):=by unfold pQ;exact adY aV r dX (f,t.1,t.2,(i:Int),l) i l hp nd hi hl rfl
def bS(f:List Pt)(t:Int×Int)(c:aH)(i:Nat)(l:List Int):=
 (f,((adu f):Int),(i:Int),f,t.1,t.2,(0:Int),(0:Int),(0:Int),c.ci.1,c.ci.2,c.ii.am,c.af.aW,c.af.ce,c.ae.ai.ay,c.ae.ai.be,c.ae.ai.bi,c.ae.bv,c.ae.aC,c.io,(0:Int),(0:Int),(0:Int),l)
structure SOA{α:Type}(P:α->α->Prop)(S:α->Prop):Prop where
 X0: ∀a,S a-> ¬P a a
 tr: ∀a b c,S a->S b->S c->P a b->P b c->P a c
 ntr: ∀a b c,S a->S b->S c-> ¬P a b-> ¬P b c-> ¬P a c
theorem SOA.asym{α:Type}{P:α->α->Prop}{S:α->Prop}(o:SOA P S){a b:α}(ha:S a)(hb:S b)(h:P a b): ¬P b a:=λk=>o.X0 a ha (o.tr a b a ha hb ha h k)
section
variable {α : Type} [Inhabited α] {P : α -> α -> Prop} {S : α -> Prop}
def Gz(l:List α)(i j:Nat):List α:=(l.set i l[j]!).set j l[i]!
theorem HH(l:List α)(i j:Nat):(Gz l i j).length=(adu l):=by unfold Gz;rw[UV,UV]
theorem BI(l:List α){i j:Nat}(hi:i<adu l)(hj:j<adu l)(k:Nat):(Gz l i j)[k]! =if k=j then l[i]! else if k=i then l[j]! else l[k]!:=by
 unfold Gz;rw[cw,UV,cw]
 by_cases c:k=j
 ·rw[AC ⟨c,hj⟩,AC c]
 rw[Do (λh=>c h.1),Do c]
 by_cases d:k=i
 ·rw[AC ⟨d,hi⟩,AC d]
 rw[Do (λh=>d h.1),Do d]
theorem Fb{l:List α}{i j:Nat}(hi:i<adu l)(hj:j<adu l):(Gz l i j).Perm l:=by unfold Gz;rw[getElem!_pos l j hj,getElem!_pos l i hi];exact List.set_set_perm hi hj
noncomputable def Mg(P:α->α->Prop):Nat->List α->List α
 |0,l=>l
 |j+1,l=>if P l[j+1]! l[j]! then Mg P j (Gz l (j+1) j)else l
theorem Nv(P:α->α->Prop): ∀(j:Nat) (l:List α),j<adu l->(Mg P j l).Perm l
 |0,l,_=>abD _
 |j+1,l,h=>by
  unfold Mg;split
  ·exact(Nv P j _ (by rw[HH];omega)).trans (Fb h (by omega))
  exact abD _
def Uk(P:α->α->Prop)(l:List α)(n:Nat):Prop:= ∀a b,a<b->b<n-> ¬P l[b]! l[a]!
structure ahF(P:α->α->Prop)(l:List α)(i j:Nat):Prop where
 lt:j<=i
 le:i<adu l
 el: ∀a b,a<b->b<=i->a≠j->b≠j-> ¬P l[b]! l[a]!
 up: ∀b,j<b->b<=i-> ¬P l[b]! l[j]!
theorem abg(o:SOA P S): ∀(j i:Nat) (l:List α),(∀x∈l,S x)->ahF P l i j->Uk P (Mg P j l) (i+1):=by
 intro j
 induction j with
 |zero=>
  intro i l _ v a b h1 h2
  by_cases c:a=0
  ·subst c;exact v.up b h1 (by omega)
  exact v.el a b h1 (by omega) c (by omega)
 |succ j ih=>
  intro i l hS v;have hi:=v.le;have hj:=v.lt;have sm: ∀k,k<adu l->S l[k]!:=λk hk=>hS _ (aE hk)
  have h1:j+1<(adu l):=by omega
  have h0:j<(adu l):=by omega
  unfold Mg;split
  ·rename_i hc
   refine ih i _ (λx hx=>hS x ((Fb h1 h0).mem_iff.1 hx)) ⟨by omega,by rw[HH];exact hi,λa b a1 a2 a3 a4=>?_,λb b1 b2=>?_⟩
   ·rw[BI l h1 h0,BI l h1 h0,Do a3,Do a4]
    by_cases c:a=j+1
    ·subst c
     rw[AC rfl,Do (by omega)];exact v.el j b (by omega) a2 (by omega) (by omega)
    rw[Do c]
    by_cases d:b=j+1
    ·subst d
     rw[AC rfl];exact v.el a j (by omega) (by omega) (by omega) (by omega)
    rw[Do d]
    exact v.el a b a1 a2 c d
   rw[BI l h1 h0,BI l h1 h0,AC rfl,Do (by omega)]
   by_cases c:b=j+1
   ·subst c
    rw[AC rfl];exact o.asym (sm _ h1) (sm _ h0) hc
   rw[Do c]
   exact v.up b (by omega) b2
  rename_i hc
  intro a b a1 a2
  by_cases c:a=j+1
  ·subst c;exact v.up b a1 (by omega)
  by_cases d:b=j+1
  ·subst d
   by_cases e:a=j
   ·subst e;exact hc
   exact o.ntr _ _ _ (sm _ h1) (sm _ h0) (sm _ (by omega)) hc (v.el a j (by omega) (by omega) c (by omega))
  exact v.el a b a1 (by omega) c d
noncomputable def De(P:α->α->Prop)(l:List α):Nat->List α
 |0=>l
 |i+1=>Mg P i (De P l i)
theorem yg(P:α->α->Prop)(l:List α): ∀i,i<=adu l->(De P l i).Perm l
 |0,_=>abD _
 |i+1,h=>by have p:=yg P l i (by omega);exact(Nv P i _ (by rw[p.length_eq];omega)).trans p
theorem Lt(o:SOA P S){l:List α}(hS: ∀x∈l,S x): ∀i,i<=adu l->Uk P (De P l i) i
 |0,_=>λa b _ h=>by omega
 |i+1,h=>by have p:=yg P l i (by omega);have s:=Lt o hS i (by omega);refine abg o i i _ (λx hx=>hS x (p.mem_iff.1 hx)) ⟨WF _,by rw[p.length_eq];omega,λa b a1 a2 a3 a4=>s a b a1 (by omega),λb b1 b2=>by omega⟩
end
section
variable {f : List Pt} {t : Int × Int}
abbrev wG(t:Int×Int)(p q:Pt):Prop:=leads p q t
theorem abh{f:List Pt}(hs:eu f)(t:Int×Int):SOA (wG t) (λp=>p∈f) where
 X0:=λa _ h=>eN h h
 tr:=λ_ _ _ _ _ _ h k=>pE h k
 ntr:=λa b c ha hb hc h1 h2 h=>by
  by_cases e:b.1=c.1
  ·have:b=c:=by rw[<-tI hs hb,<-tI hs hc,e]
   exact h1 (this▸h)
  rcases abP (leads b c t)with k|k
  ·exact h2 k
  exact h1 (pE h (fJ t e k))
theorem abi(hs:eu f){l:List Pt}(p:l.Perm f){i j:Nat}(hi:i<adu l)(hj:j<adu l)(fo:i≠j):(l[i]!).1≠(l[j]!).1:=by
 have nd:(cq l).Nodup:=(p.map λx:Pt=>x.1).nodup_iff.2 (db hs);intro e;have b: ∀k,k<adu l->(cq l)[k]! =(l[k]!).1:=λk hk=>by unfold cq;rw[getElem!_pos _ k (by rw[If];exact hk),acF,getElem!_pos l k hk]
 have ll:(cq l).length=(adu l):=If ..;rcases abK i j with c|c|c
 ·exact bJ.1 nd i j c (by omega) (by rw[b i hi,b j hj];exact e)
 ·exact fo c
 exact bJ.1 nd j i c (by omega) (by rw[b i hi,b j hj];exact e.symm)
def i1S(n i j:Nat)(l:List Pt)(t:Int×Int):=((0:Int),(n:Int),(i:Int),(j:Int),l,t.1,t.2)
def i2S(n i:Nat)(l:List Pt)(t:Int×Int):=((0:Int),(n:Int),(i:Int),l,t.1,t.2)
theorem abj(aV:aR f)(r:bo t)(dX:jb t){n:Nat}(hn:n<=64): ∀(j i:Nat) (l:List Pt),l.Perm f->adu l=n->j<=i->i<n->
 aq bj (i1S n i j l t)=adw (.next (i2S n (i+1) (Mg (wG t) j l) t)):=by
 intro j
 induction j with
 |zero=>intro i l p hl hj hi;refine au ?_;unfold bj i1S i2S;simp only[aA (show¬(0:Int)<((0:Nat):Int) by omega),ww,aM (show i<1000000000 by omega),Mg]
 |succ j ih=>
  intro i l p hl hj hi;have h1:j+1<(adu l):=by omega
  have h0:j<(adu l):=by omega
  have m1:=p.mem_iff.1 (aE h1);have m0:=p.mem_iff.1 (aE h0);have ne:=abi aV.2.2 p h1 h0 (by omega);have ah:df l[j+1]! l[j]! (t.1,t.2)=adw (ae2 (leads l[j+1]! l[j]! t),0):=by
   rcases lC (aV.2.1 _ m1) (aV.2.1 _ m0) dX r with h|⟨h,_⟩
   ·rw[show((t.1,t.2):Int×Int)=t from rfl,h,Do ne]
   exact absurd h ne
  have wp:aa .i64 (((j+1:Nat):Int)-1)=(j:Int):=by rw[fN ⟨by omega,by omega⟩];omega
  have g1:=ar l (j+1) h1;have g0:=ar l j h0;have gs:aF (cQ l ((j+1:Nat):Int) l[j]!) (j:Int)=adw ((cQ l ((j+1:Nat):Int) l[j]!)[j]!):=ar _ j (by rw[Cs];exact h0);have nb:((l[j+1]!).1==(l[j]!).1)=ae1:=by simpa using ne
  by_cases c:leads l[j+1]! l[j]! t
  ·have s1:bj (i1S n i (j+1) l t)=adw (.next (i1S n i j (Gz l (j+1) j) t)):=by
    unfold bj i1S;simp only[az (show(0:Int)<((j+1:Nat):Int) by omega),v6,wp,g1,g0,aj,nb,ww,ah,az c,beq_self_eq_true,gs];simp only[fI];rfl
   rw[aQ s1];have pm:=(Fb h1 h0).trans p;rw[ih i (Gz l (j+1) j) pm (by rw[HH];exact hl) (by omega) hi]
   conv=>rhs;unfold Mg
   rw[AC (show wG t l[j+1]! l[j]! from c)]
  refine au ?_
  unfold bj i1S;simp only[az (show(0:Int)<((j+1:Nat):Int) by omega),v6,wp,g1,g0,aj,nb,ww,ah,aA c,beq_self_eq_true,aM (show i<1000000000 by omega)];unfold Mg;rw[Do (show¬wG t l[j+1]! l[j]! from c)];rfl
theorem XH(aV:aR f)(r:bo t)(dX:jb t){c0:Int×Int×List Pt×Int×Int}(hc:(adu c0.2.2.1)=adu f): ∀(d i:Nat),adu f-i<=d->i<=adu f->
 aq (iU c0) (i2S (adu f) i (De (wG t) f i) t)=adw (De (wG t) f (adu f),t.1,t.2):=by
 have f1:=aV.1;intro d
 induction d with
 |zero=>
  intro i hd hi;have:i=(adu f):=by omega
  subst this;have le:=(yg (wG t) f (adu f) (WF _)).length_eq;refine au ?_;unfold iU i2S;simp only[aA (show¬((adu f):Int)<((adu f):Int) by omega),ww,le,hc,beq_self_eq_true,v6]
 |succ d ih=>
  intro i hd hi
  by_cases e:i=adu f
  ·exact ih i (by omega) hi
  have pm:=yg (wG t) f i hi
  have s1:iU c0 (i2S (adu f) i (De (wG t) f i) t)=adw (.next (i2S (adu f) (i+1) (De (wG t) f (i+1)) t)):=by have:=abj aV r dX f1 i i _ pm pm.length_eq (WF _) (show i<(adu f) by omega);unfold iU;show(bif ae2 ((i:Int)<((adu f):Int))then _ else _)=_;rw[az (show(i:Int)<((adu f):Int) by omega),v6];exact this
  rw[aQ s1];exact ih (i+1) (by omega) (by omega)
theorem abk(s:ByteArray){n:Nat}(h:n<=12)(hs:12<s.size): ∃r,wE s (n:Int)=adw r:=by show∃r,(s[n]?.map λb=>(b.toNat:Int))=adw r;rw[getElem?_pos s n (show n<s.size by omega)];exact⟨_,rfl⟩
set_option maxRecDepth 100000 in
theorem alS{n:Nat}(h:n<=12): ∃r,u7 (n:Int)=adw r:=by
 unfold u7 wj;rw[aA (show¬4294967296<=(n:Int) by omega),ww,aA (show¬65536<=(n:Int) by omega),ww,aA (show¬256<=(n:Int) by omega),ww];have w8:aa .u8 (n:Int)=(n:Int):=by
  have:n=0\/n=1\/n=2\/n=3\/n=4\/n=5\/n=6\/n=7\/n=8\/n=9\/n=10\/n=11\/n=12:=by omega
  rcases this with rfl|rfl|rfl|rfl|rfl|rfl|rfl|rfl|rfl|rfl|rfl|rfl|rfl<;>rfl
 have key: ∀s:ByteArray,12<s.size-> ∃r,((wE s (aa .u8 (n:Int))).bind λn7=>adw (aa .i64 (0+aa .i64 n7))).bind (λn0=>adw n0)=adw r:=λs h12=>by obtain⟨r,e⟩:=abk s h h12;rw[w8,e];exact⟨_,rfl⟩
 exact key _ (by decide)
theorem IP(aV:aR f)(r:bo t)(dX:jb t)(h12:(adu f)<=12): ∃L:List Pt,wY ⟨f⟩ t=adw (L,0)/\L.Perm f/\Uk (wG t) L (adu f):=by
 have f1:=aV.1;obtain⟨m,hm⟩:=alS h12;have pm:=yg (wG t) f (adu f) (WF _);refine⟨De (wG t) f (adu f),?_,pm,Lt (abh aV.2.2 t) (λx hx=>hx) _ (WF _)⟩;have ins:bH (0,((adu f):Int),f,t.1,t.2)=adw (De (wG t) f (adu f),t.1,t.2):=by
  unfold bH
  by_cases h0:(adu f)=0
  ·obtain rfl:f=[]:=abr.1 h0
   refine au ?_;unfold iU;rfl
  refine Eq.trans ?_ (XH aV r dX (c0:=(0,((adu f):Int),f,t.1,t.2)) rfl (adu f) 1 (by omega) (by omega))
  have:De (wG t) f 1=f:=rfl;rw[this];rfl
 have pdq:cD (0,((adu f):Int),m,f,t.1,t.2)=adw (De (wG t) f (adu f),t.1,t.2):=by show dw (fC 999999) _=_;unfold dw;refine au ?_;unfold ft;simp only[show aa .i64 (((adu f):Int)-0)=((adu f):Int) by rw[fN ⟨by omega,by omega⟩];omega,az (show((adu f):Int)<=12 by omega),v6,ins,aj,pm.length_eq,beq_self_eq_true]
 have hc:cU ⟨f⟩=adw 0:=by rw[eW];exact congrArg adw (dM.2 aV)
 have ck:dE t=adw 0:=by rw[cZ dX,AC r]
 have wl:aa .u64 (abq (adu f))=((adu f):Int):=by show(abq (Nat.mod (adu f) 18446744073709551616))=_;rw[show Nat.mod (adu f) 18446744073709551616=(adu f)from Nat.mod_eq_of_lt (by omega)];rfl
 unfold wY eJ;simp only[hc,aj,show((0:Int) !=0)=ae1 from rfl,ww,ck,cM (show(adu f)<=1048576 by omega),wl,hm];rw[show cD (0,abq (adu f),m,f,t)=_ from pdq];simp only[aj,pm.length_eq,beq_self_eq_true,v6]
theorem jH(aV:aR f)(r:bo t)(dX:jb t)(h12:(adu f)<=12):(f=[]/\fU ⟨f⟩ t=adw (0,42))\/
 ∃p,p∈f/\(∀q∈f,¬leads q p t)/\fU ⟨f⟩ t=adw (p.1,0):=by
 obtain⟨L,h1,h2,h3⟩:=IP aV r dX h12;have le:=h2.length_eq;unfold fU;rw[h1,aj,show((0:Int) !=0)=ae1 from rfl,ww]
 by_cases h0:(adu f)=0
 ·obtain rfl:f=[]:=abr.1 h0
  obtain rfl:L=[]:=abr.1 le;exact .inl ⟨rfl,rfl⟩
 have hl:0<(adu L):=by omega
 right;refine⟨L[0]!,h2.mem_iff.1 (aE hl),λq hq=>?_,?_⟩
 ·obtain⟨i,hi,rfl⟩:=aN.1 (h2.mem_iff.2 hq)
  by_cases c:i=0
  ·subst c;exact λh=>eN h h
  exact h3 0 i (by omega) (by omega)
 rw[show((abq (adu L)==0):Bool)=ae1 by simp only[aK,beq_eq_false_iff_ne];omega,ww,ar L 0 hl|>(λh=>(h:aF L 0=adw L[0]!)),aj]
end
theorem y8 (f : Field) (t : Int × Int) : eR (iW f t) 100 0 where
  l := abF _
  n := by show (iW f t).af.aW <= 0; unfold iW; exact Int.le_refl _
  u := fun j hj => by
    show (EQ 200 (0 : Int))[j]! <= 0
    rw [yf 0 (by rw [<- pM]; exact hj)]; exact Int.le_refl _
theorem XI{f:Field}(aV:aR f.am)(h10:(adu f.am)<=12){t:Int×Int}(rt:bo t)(dX:jb t): ∃k:bX,vI f t=adw (k,0)/\Gj k f.am t/\eR k.jp 100 11:=by
 have f1:=aV.1;have il:(cq f.am).length=(adu f.am):=If ..;have so:=nS aV.2.2 t;have go: ∀(d i:Nat) (l:List Int),adu f.am-i<=d->i<=adu f.am->((cq f.am).take i).Perm l->Hp (iZ f.am t) l->
  ∃k:bX,aq mX (bS f.am t (iW f t) i l)=adw (k,0)/\Gj k f.am t/\eR k.jp 100 11:=by
  have fin: ∀l:List Int,(cq f.am).Perm l->Hp (iZ f.am t) l-> ∃k:bX,aq mX (bS f.am t (iW f t) (adu f.am) l)=adw (k,0)/\Gj k f.am t/\eR k.jp 100 11:=by
   intro l pm hh;have ll:(adu l)=(adu f.am):=by rw[<-pm.length_eq,il]
   have ok0:=DY aV rt dX;have oL:mM (iW f t).ii.am (dN l):=Bx aV pm;have hr0:=y8 f t;have el:(dN l).length<=11:=by rw[gU];omega
   obtain⟨r,g1,k',g2,g3⟩:=K3 ok0 oL (by omega) hr0 (by omega);obtain⟨S,g1',sq⟩:=Gf ok0 aV oL;have e:S=(r,0):=abt (g1'.symm.trans g1);subst e;rcases sq with⟨_,q⟩|q
   case inr=>cases q
   have g1:gX (iW f t) f (dN l)=adw (r,0):=g1;have hp:Gj ⟨r,l⟩ f.am t:=yY.bv (c:=iW f t) (R:=⟨r,l⟩) aV pm rfl q hh;refine⟨⟨r,l⟩,au ?_,hp,⟨?_,?_,?_⟩⟩
   ·have B5:aH.mk ((iW f t).ci.1,(iW f t).ci.2) (Field.mk (iW f t).ii.am) (cm.mk (iW f t).af.aW (iW f t).af.ce) (aS.mk (bF.mk (iW f t).ae.ai.ay (iW f t).ae.ai.be (iW f t).ae.ai.bi) (iW f t).ae.bv (iW f t).ae.aC) (iW f t).io=iW f t:=rfl
    have asM:Field.mk f.am=f:=rfl;unfold mX bS;simp only[aA (show¬((adu f.am):Int)<((adu f.am):Int) by omega),ww,Gg l (by omega),aj,B5,asM,g1]
   ·have e1:=hp.ok.cert.length_eq
    rw[If]at e1;have e1:(adu r.af.ce)=(dN l).length:=e1;show(adu r.af.ce)<=100;omega
   ·show r.af.aW<=((11:Nat):Int)
    have:=g3.n;omega
   show∀j,j<adu r.ae.ai.ay->r.ae.ai.ay[j]!<=((11:Nat):Int)
   intro j hj;have:=g3.u j hj;omega
  intro d
  induction d with
  |zero=>
   intro i l hd hi pm hh;have:i=(adu f.am):=by omega
   subst this;rw[<-il,abu]at pm;exact fin l pm hh
  |succ d ih=>
   intro i l hd hi pm hh
   by_cases he:i=adu f.am
   ·subst he
    rw[<-il,abu]at pm;exact fin l pm hh
   have tY:i<(adu f.am):=by omega
   have nd:=db aV.2.2;have ll:(adu l)=i:=by rw[<-pm.length_eq,aaQ];omega
   have idi:(cq f.am)[i]! =(f.am[i]!).1:=by rw[getElem!_pos (cq f.am) i (by omega),getElem!_pos f.am i tY];exact acF ..
   have pm1:((cq f.am).take (i+1)).Perm (l++[(f.am[i]!).1]):=by rw[da (by omega),idi];exact pm.append_right _
   have nd1:(l++[(f.am[i]!).1]).Nodup:=pm1.nodup_iff.1 (nd.sublist (List.take_sublist _ _));have hp1: ∀x∈l++[(f.am[i]!).1],dY f.am x:=λx hx=>cz.1 (List.mem_of_mem_take (pm1.mem_iff.2 hx))
   have l1:(l++[(f.am[i]!).1]).length=i+1:=by rw[NE,PP,ll]
   have ap:ba l [(f.am[i]!).1]=adw (l++[(f.am[i]!).1]):=bG (by rw[PP];omega);have sc:=aM (show i<1000000000 by omega);have g:=ar f.am i tY;have s1:mX (bS f.am t (iW f t) i l)=adw (.next (bS f.am t (iW f t) (i+1) (nC f.am t i (l++[(f.am[i]!).1])))):=by unfold mX bS;simp only[az (show(i:Int)<((adu f.am):Int) by omega),v6,g,aj,ap,adZ aV rt dX hp1 nd1 (show i<(l++[(f.am[i]!).1]).length by omega) (by omega),sc]
   rw[aQ s1];refine ih (i+1) _ (by omega) (by omega) (pm1.trans (By f.am t i _ (by omega)).symm) ?_;refine Hx so (λ_ _=>Iff.rfl) i _ hp1 ⟨by omega,λj j1 j2 j3=>?_,λj j1 j2 j3 j4=>by simp only[par]at j3;omega⟩;have b1:(l++[(f.am[i]!).1])[j]! =l[j]!:=eE (by omega);have b2:(l++[(f.am[i]!).1])[par j]! =l[par j]!:=eE (by simp only[par];omega);rw[b1,b2];exact hh j j1 (by omega)
 obtain⟨k,k1,k2,k3⟩:=go (adu f.am) 0 [] (by omega) (by omega) (abD _) (λj h1 h2=>by simp at h2);refine⟨k,?_,k2,k3⟩;have cn:=xj f dX;rw[Do (show¬jS f.am≠0 from λh=>h (dM.2 aV)),AC rt]at cn;unfold vI;rw[cn,aj,bw rfl,ww];exact k1
theorem Pg{k:bX}(ok:kW k)(h12:(adu k.jp.ii.am)<=12): ∃a:Int×Int,pU k=adw a/\fU k.jp.ii k.jp.ci=adw a:=by
 have aV:=ok.iG.dI;have c1:=pD ok.iG.fit (show(adu k.bv)<=1000 by have:=ok.bd;omega);rw[AC ok]at c1;have ln:=ok.len
 by_cases h0:(adu k.bv)=0
 ·have e0:k.jp.ii.am=[]:=abr.1 (by omega)
  rcases jH aV ok.iG.gZ ok.iG.dP h12 with⟨_,m⟩|⟨p,hp,_,_⟩
  ·refine⟨_,?_,m⟩
   unfold pU;rw[c1,aj,bw rfl,ww,aK,lZ (by omega),v6]
  rw[e0]at hp;cases hp
 have hl:0<(adu k.bv):=by omega
 have so:=nS aV.2.2 k.jp.ci;have all: ∀j,j<adu k.bv-> ¬leads (bC k.jp.ii.am k.bv[j]!) (bC k.jp.ii.am k.bv[0]!) k.jp.ci:=by
  intro j
  induction j using acG with
  |ind j ih=>
   intro hj
   by_cases c:j=0
   ·subst c;exact λh=>eN h h
   have hp:=ok.hp j (by omega) hj
   have hq:par j<(adu k.bv):=by simp only[par];omega
   exact so.ntr (ok.has _ (aE hj)) (ok.has _ (aE hq)) (ok.has _ (aE hl)) hp (ih (par j) (by simp only[par];omega) hq)
 rcases jH aV ok.iG.gZ ok.iG.dP h12 with⟨e0,_⟩|⟨p,hp,hm,m⟩
 ·have:(adu k.jp.ii.am)=0:=by rw[e0];rfl
  omega
 refine⟨_,?_,m⟩
 have h0m:=vv aV.2.2 (ok.has _ (aE hl));have pid:p.1=k.bv[0]!:=by
  refine abx λfo=>?_
  obtain⟨j,hj,ej⟩:=aN.1 (ok.perm.mem_iff.1 (abA.2 ⟨p,hp,rfl⟩));have pp:=tI aV.2.2 hp;have nl:=all j hj;have ej:k.bv[j]! =p.1:=ej;rw[ej,pp]at nl;exact hm _ h0m.1 (fJ k.jp.ci (by rw[h0m.2];exact fo) nl)
 unfold pU;rw[c1,aj,bw rfl,ww,aK,jA (by omega),ww,ar k.bv 0 hl|>(λh=>(h:aF k.bv 0=adw k.bv[0]!)),aj,pid]
theorem Nw(n:Nat)(h:n<=64): ∃e,e<=6/\n<=2^e/\ ∀k,k<e->2^k<n:=by
 have key: ∀m:Fin 65,∃e,e<=6/\m.val<=2^e/\ ∀k,k<e->2^k<m.val:=by decide+kernel
 exact key ⟨n,by omega⟩
noncomputable def lg(n:Nat):Nat:=if h: ∃e,e<=6/\n<=2^e/\ ∀k,k<e->2^k<n then h.choose else 0
theorem Jf{n:Nat}(h:n<=64):lg n<=6/\n<=2^lg n/\ ∀k,k<lg n->2^k<n:=by unfold lg;rw[dif_pos (Nw n h)];exact(Nw n h).choose_spec
noncomputable def jr(f:List Pt):List Int:=cq f++EQ (2^lg (adu f)-(adu f)) (-1)
section
variable {f : List Pt} (h64 : (adu f) <= 64)
include h64
theorem Fc:(jr f).length=2^lg (adu f):=by have:=Jf h64;unfold jr;rw[NE,iV,IR];omega
theorem ae5:1<=2^lg (adu f)/\2^lg (adu f)<=64:=
 ⟨Nat.pow_pos (by omega),ad6 (abC (by omega) (Jf h64).1) (by decide)⟩
end
theorem Um(j:Nat):k7 0 j:=by
 have key: ∀(n m:Nat),m<=n->1<=m-> ∃d,m / 2^d=1:=by
  intro n
  induction n with
  |zero=>intro m h1 h2;omega
  |succ n ih=>
   intro m h1 h2
   by_cases h:m=1
   ·exact⟨0,by rw[h]⟩
   obtain⟨d,hd⟩:=ih (m / 2) (by omega) (by omega);refine⟨d+1,?_⟩;rw[acl,adc,<-abB];exact hd
 obtain⟨d,hd⟩:=key (j+1) (j+1) (WF _) (by omega);exact⟨d,by omega⟩
theorem RP{i j:Nat}(h:k7 i j)(fo:j≠i):k7 (2*i+1) j\/k7 (2*i+2) j:=by
 obtain⟨d,hd⟩:=h;cases d with
 |zero=>rw[ado,Nat.div_one]at hd;omega
 |succ d=>
  rw[acl,<-abB]at hd
  by_cases e:(j+1) / 2^d=2*(i+1)
  ·exact .inl ⟨d,by omega⟩
  exact .inr ⟨d,by omega⟩
theorem abl{i j:Nat}(h:k7 i j)(fo:j≠i):2*i+1<=j:=by
 obtain⟨d,hd⟩:=h;cases d with
 |zero=>rw[ado,Nat.div_one]at hd;omega
 |succ d=>rw[acl,adc,<-abB]at hd;have:=Nat.div_le_self ((j+1) / 2) (2^d);omega
section
variable {f : List Pt} (aV : aR f) {t : Int × Int} {p w : List Int} (pl : wo f p) (R : Em f t p w)
include aV pl R
theorem Lu{i:Nat}(hi:i<adu w+adu p):HB f (bu p w i):=by have _:=aV;exact pl.ids _ (jq R.1 R.qk hi)
theorem abm: ∀(d i:Nat),adu w+adu p-i<=d->i<adu w+adu p-> ∀j,adu w<=j->j<adu w+adu p->k7 i j->0<=p[j-(adu w)]!->
 0<=bu p w i/\(bu p w i=p[j-(adu w)]!\/leads (bC f (bu p w i)) (bC f p[j-(adu w)]!) t):=by
 have hl:=R.1;intro d
 induction d with
 |zero=>intro i h1 h2;omega
 |succ d ih=>
  intro i h1 h2 j j1 j2 hu h0
  by_cases hi:i<adu w
  ·have fo:j≠i:=by omega
   have wv:bu p w i=yk f t (bu p w (2*i+1)) (bu p w (2*i+2)):=by rw[<-R.2 i hi];unfold bu;rw[AC hi]
   have ix:=Lu aV pl R (i:=2*i+1) (by omega);have iy:=Lu aV pl R (i:=2*i+2) (by omega);have kn:=DW hl R.qk pl.once hi;rw[wv];unfold yk;rcases RP hu fo with hu|hu
   ·obtain⟨a,b⟩:=ih (2*i+1) (by omega) (by omega) j j1 j2 hu h0
    rw[Do (by omega)]
    by_cases y0:bu p w (2*i+2)<0
    ·rw[AC y0];exact⟨a,b⟩
    rw[Do y0]
    by_cases ld:leads (bC f (bu p w (2*i+1))) (bC f (bu p w (2*i+2))) t
    ·rw[AC ld];exact⟨a,b⟩
    rw[Do ld]
    have l2:=fJ t (by rw[(bK aV (ix.has a)).2,(bK aV (iy.has (by omega))).2];exact kn a) ld;refine⟨by omega,.inr ?_⟩;rcases b with b|b
    ·rw[<-b];exact l2
    exact pE l2 b
   obtain⟨a,b⟩:=ih (2*i+2) (by omega) (by omega) j j1 j2 hu h0
   by_cases x0:bu p w (2*i+1)<0
   ·rw[AC x0];exact⟨a,b⟩
   rw[Do x0,Do (by omega)]
   by_cases ld:leads (bC f (bu p w (2*i+1))) (bC f (bu p w (2*i+2))) t
   ·rw[AC ld]
    refine⟨by omega,.inr ?_⟩;rcases b with b|b
    ·rw[<-b];exact ld
    exact pE ld b
   rw[Do ld];exact⟨a,b⟩
  have e:j=i:=abx λh=>by have:=abl hu h;omega
  subst e;have:bu p w j=p[j-(adu w)]!:=by unfold bu;rw[Do hi]
  rw[this];exact⟨h0,.inl rfl⟩
theorem RQ(pm:(cq f).Perm (dG p))(hf:0<adu f): ∃i,yZ (DS f t) 0 (adu f) i/\(f[i]!).1=bu p w 0/\0<=bu p w 0:=by
 have hl:=R.1;have h1:=pl.one;have all: ∀k,k<adu f->0<=bu p w 0/\(bu p w 0=(f[k]!).1\/leads (bC f (bu p w 0)) f[k]! t):=λk hk=>by have m:(f[k]!).1∈dG p:=pm.mem_iff.1 (cz.2 ⟨k,hk,rfl⟩);obtain⟨m1,m2⟩:=kx.1 m;obtain⟨j,hj,e⟩:=aN.1 m1;have:=abm aV pl R _ 0 (WF _) (by omega) (adu w+j) (by omega) (by omega) (Um _) (by rw[show(adu w)+j-(adu w)=j by omega,e];exact m2);rw[show(adu w)+j-(adu w)=j by omega,e,iO aV.2.2 hk rfl]at this;exact this
 have r0:=(all 0 hf).1;obtain⟨i,hi,e⟩:=(Lu aV pl R (i:=0) (by omega)).has r0;refine⟨i,⟨abF _,hi,λk _ hk fo=>?_⟩,e,r0⟩;rcases(all k hk).2 with h|h
 ·exact absurd (gT aV.2.2 hi hk (by rw[e,h])) (λh=>fo h.symm)
 rw[<-e,iO aV.2.2 hi rfl]at h;exact h
end
theorem IQ{f:List Pt}(h64:(adu f)<=64):sD ⟨f⟩=adw (jr f):=by
 obtain⟨g1,g2,g3⟩:=Jf h64;obtain⟨b1,b2⟩:=ae5 h64;have fl:=Fc h64;have stL: ∀i,i<=adu f->((jr f).take i++EQ (2^lg (adu f)-i) (-1)).length=2^lg (adu f):=λi hi=>by rw[NE,aaQ,IR,fl];omega
 have in1:=bz (body:=nZ) (λi=>(f,((adu f):Int),(i:Int),(jr f).take i++EQ (2^lg (adu f)-i) (-1))) (adu f) (λi hi=>by
  unfold nZ;simp only[az (show(i:Int)<((adu f):Int) by omega),v6,ar f i hi,aj,aM (show i<1000000000 by omega),ar _ i (show i<((jr f).take i++EQ (2^lg (adu f)-i) (-1)).length by rw[stL i (by omega)];omega),fI];have e:((jr f).take i++EQ (2^lg (adu f)-i) (-1)).set i (f[i]!).1=(jr f).take (i+1)++EQ (2^lg (adu f)- (i+1)) (-1):=by
   rw[da (show i<(jr f).length by omega),abS _ _ (by rw[aaQ];omega),aaQ,Nat.min_eq_left (by omega),ad7];obtain⟨c,hc⟩: ∃c,2^lg (adu f)-i=c+1:=⟨2^lg (adu f)-i-1,by omega⟩;rw[hc,show 2^lg (adu f)- (i+1)=c by omega,abU,List.set_cons_zero,List.append_assoc,List.singleton_append];rw[show(jr f)[i]! =(f[i]!).1 from by unfold jr;rw[eE (by rw[iV];exact hi),qR hi]]
  rw[e])
 have out:=bz (body:=qE) (λi=>(((2^i:Nat):Int),f)) (lg (adu f)) (λi hi=>by have:=g3 i hi;unfold qE;simp only[aK,az (show((2^i:Nat):Int)<((adu f):Int) by omega),v6];rw[dbl (by omega),Pd]);unfold sD;refine(show _=_ from out).trans (au ?_);unfold qE;simp only[aK,aA (show¬((2^lg (adu f):Nat):Int)<((adu f):Int) by omega),ww,Lq _ g1,aj];have st0:aq nZ (f,((adu f):Int),0,EQ (2^lg (adu f)) (-1))=_:=in1;refine st0.trans (au ?_);unfold nZ;simp only[aA (show¬((adu f):Int)<((adu f):Int) by omega),ww];have e:(jr f).take (adu f)++EQ (2^lg (adu f)-(adu f)) (-1)=jr f:=by
  unfold jr;rw[abw (by rw[iV];exact WF _),abz (by rw[iV];exact WF _)]
 rw[e]
theorem Ph{f:List Pt}(aV:aR f):wo f (jr f):=by
 have h64:=aV.1;obtain⟨b1,b2⟩:=ae5 h64;have fl:=Fc h64;refine⟨by omega,by omega,λi j p8 hj e=>?_,λx hx=>?_⟩
 ·by_cases h2:j<adu f
  ·have e1:(jr f)[i]! =(f[i]!).1:=by unfold jr;rw[eE (by rw[iV];omega),qR (by omega)]
   have e2:(jr f)[j]! =(f[j]!).1:=by unfold jr;rw[eE (by rw[iV];omega),qR (by omega)]
   rw[e1,e2]at e;have:=gT aV.2.2 (by omega) h2 e;omega
  rw[e]
  unfold jr;rw[tc (by rw[iV];omega),iV,yf _ (by omega)];decide
 unfold jr at hx
 rcases aby.1 hx with h|h
 ·have hp:=cz.1 h
  have:=(bK aV hp).1;have e2:=(bK aV hp).2;unfold fM at this;exact .inr ⟨by omega,hp⟩
 exact .inl (abL h)
theorem XJ{f:List Pt}(aV:aR f):dG (jr f)=cq f:=by unfold jr dG;rw[abX,abT.2 (λx hx=>by have hp:=cz.1 hx;have:=(bK aV hp).1;have e2:=(bK aV hp).2;unfold fM at this;simpa using(show 0<=x by omega)),List.filter_eq_nil_iff.2 (λx hx=>by rw[abL hx];decide),ab0]
theorem Pj{k:bQ}(ok:pK k)(sh:HG k)(c1:gJ k=adw 0): ∃b:Int×Int,oq k=adw b/\(b=(0,42)/\adu k.jp.ii.am=0\/ ∃i,yZ (DS k.jp.ii.am k.jp.ci) 0 (adu k.jp.ii.am) i/\b=((k.jp.ii.am[i]!).1,0)):=by
 have aV:=ok.iG.dI;have f1:=aV.1;have s1:=sh.p;have s2:=sh.w;have b1:=ok.br.one;have b2:=ok.br.iq;have b3:=ok.br.len;have pl:=pL ok.br ok.perm;have R:Em k.jp.ii.am k.jp.ci k.kw.aX k.kw.kG:=by rw[ok.right];exact fh pl.one
 have bc:oo k.kw=adw 0:=by have:=Aw k.kw.aX k.kw.kG s1 s2;rw[AC ok.br]at this;exact this
 have nd:iz k.kw 0=adw (bu k.kw.aX k.kw.kG 0):=qG (p:=k.kw.aX) (w:=k.kw.kG) (i:=0) (by omega) (by omega);unfold oq xS;rw[c1,aj,bw rfl,ww,bc,aj,bw rfl,ww,nd,aj]
 by_cases h0:(adu k.jp.ii.am)=0
 ·refine⟨(0,42),?_,.inl ⟨rfl,h0⟩⟩
  rw[aA (λh=>?_)]
  ·rfl
  have m:=jq R.1 R.qk (i:=0) (by omega);have:=ok.perm.mem_iff.2 (kx.2 ⟨m,h⟩);obtain⟨i,hi,_⟩:=cz.1 this;omega
 obtain⟨i,tp,e,r0⟩:=RQ aV pl R ok.perm (by omega)
 have hi:=tp.hi;refine⟨((k.jp.ii.am[i]!).1,0),?_,.inr ⟨i,tp,rfl⟩⟩
 rw[az r0,v6,e];rfl
theorem Uo{k:bQ}(ok:pK k)(sh:HG k)(h12:(adu k.jp.ii.am)<=12)(c1:gJ k=adw 0): ∃b,oq k=adw b/\fU k.jp.ii k.jp.ci=adw b:=by
 obtain⟨b,b1,b3⟩:=Pj ok sh c1;refine⟨b,b1,?_⟩;have aV:=ok.iG.dI;rcases b3 with⟨rfl,h0⟩|⟨i,tp,rfl⟩
 ·rcases jH aV ok.iG.gZ ok.iG.dP h12 with⟨_,m⟩|⟨p,hp,_,_⟩
  ·exact m
  have:=List.length_pos_of_mem hp;omega
 have hi:=tp.hi
 rcases jH aV ok.iG.gZ ok.iG.dP h12 with⟨h0,_⟩|⟨p,hp,hm,m⟩
 ·rw[h0]at hi;exact absurd hi (aaP _)
 obtain⟨j,hj,rfl⟩:=aN.1 hp
 have:i=j:=abx λh=>hm _ (aE hi) (tp.top j (abF _) hj (λe=>h e.symm))
 subst this;exact m
theorem GA{k:cf}(ok:jm k):(k.jp.ii.am=[]/\mg k=adw (0,42))\/
 ∃i,i<adu k.jp.ii.am/\(∀j,j<adu k.jp.ii.am->j≠i->DS k.jp.ii.am k.jp.ci i j)/\mg k=adw ((k.jp.ii.am[i]!).1,0):=by
 have c1:=oe ok.iG.fit;rw[AC ok]at c1;have tr:=ok.lw;have tt:=tr.lw;have ln:=tr.len;unfold mg;rw[c1,aj,bw rfl,ww];generalize hr:k.lw.lc=rt at tt ⊢;cases tt with
 |nil h0=>refine .inl ⟨abr.1 (by omega),?_⟩;rw[az (by decide),v6]
 | @node _ _ i tp _ _=>have hi:=tp.hi;refine .inr ⟨i,hi,λj hj fo=>tp.top j (abF _) hj fo,?_⟩;rw[aA (by omega),ww,ar k.lw.ls i (by omega),aj,tr.ids i hi]
theorem Lv{k:cf}(ok:jm k)(h12:(adu k.jp.ii.am)<=12): ∃a:Int×Int,mg k=adw a/\fU k.jp.ii k.jp.ci=adw a:=by
 have aV:=ok.iG.dI;rcases GA ok with⟨h0,l⟩|⟨i,hi,ht,l⟩
 ·rcases jH aV ok.iG.gZ ok.iG.dP h12 with⟨_,m⟩|⟨p,hp,_,_⟩
  ·exact⟨_,l,m⟩
  rw[h0]at hp;cases hp
 rcases jH aV ok.iG.gZ ok.iG.dP h12 with⟨h0,_⟩|⟨p,hp,hm,m⟩
 ·rw[h0]at hi;cases hi
 obtain⟨j,hj,rfl⟩:=aN.1 hp
 have:j=i:=by
  rcases abP (j=i)with e|e
  ·exact e
  exact absurd (ht j hj e) (hm _ (aE hi))
 subst this;exact⟨_,l,m⟩
theorem Jg{f:List Pt}{t:Int×Int}(aV:aR f){i:Nat}(hi:i<adu f):(rN f t)[i]! = -1↔ ∀q∈f,¬leads q f[i]! t:=by
 have so:=nS aV.2.2 t;have hS: ∀x∈cq f,dY f x:=λx hx=>cz.1 hx
 have im:(f[i]!).1∈cq f:=cz.2 ⟨i,hi,rfl⟩;obtain⟨t1,t2⟩:=ou so (List.ne_nil_of_mem im) hS;have nd:=(vU (t:=t) aV).1.nodup_iff.2 (db aV.2.2);have head:(jT (iZ f t) (cq f),(-1:Int))∈tQ f t:=by
  unfold tQ;have ln:(cq f).length=(adu f):=If ..;generalize hx:cq f=l at*;cases l with
  |nil=>cases im
  |cons a l=>rw[<-ln];simp only[abM,kY];exact List.mem_cons_self
 constructor
 ·intro h q hq hl
  rcases abP ((f[i]!).1=jT (iZ f t) (cq f))with e|e
  ·refine t2 q.1 (abA.2 ⟨q,hq,rfl⟩) ?_
   show leads (bC f q.1) (bC f _) t;rw[<-e,tI aV.2.2 hq,iO aV.2.2 hi rfl];exact hl
  ·
   have hm:=Vz (t:=t) aV hi;rw[h]at hm;exact e (abn aV hm)
 intro h
 have e:(f[i]!).1=jT (iZ f t) (cq f):=by
  rcases abP ((f[i]!).1=jT (iZ f t) (cq f))with e|e
  ·exact e
  rcases so.Xd _ _ (hS _ im) (hS _ t1) e with k|k
  ·exact absurd k (t2 _ im)
  have k:leads (bC f _) (bC f (f[i]!).1) t:=k
  rw[iO aV.2.2 hi rfl]at k;exact absurd k (h _ (vv aV.2.2 (hS _ t1)).1)
 rw[K8 hi,e];exact C9 nd head
where
 abn {f:List Pt} {t:Int×Int} (aV:aR f) {x:Int} (h:(x,(-1:Int))∈tQ f t):x=jT (iZ f t) (cq f):=by
  have so:=nS aV.2.2 t;have hS: ∀x∈cq f,dY f x:=λx hx=>cz.1 hx
  have ln:(cq f).length=(adu f):=If ..;have nd:=db aV.2.2;have pos: ∀y∈cq f,(0:Int)<=y:=λy hy=>by have:=bK aV (cz.1 hy);have h1:=this.1.1;rw[this.2]at h1;exact h1
  unfold tQ at h;generalize hx:cq f=l at*;cases l with
  |nil=>rw[<-ln]at h;simp only[List.length_nil,kY]at h;cases h
  |cons a l=>
   obtain⟨t1,t2⟩:=ou so (List.cons_ne_nil a l) hS;rw[<-ln]at h;simp only[abM,kY]at h;rcases List.mem_cons.1 h with e|e
   ·exact congrArg Prod.fst e
   exfalso
   have bad: ∀b,(x,(-1:Int))∈kY (iZ f t) xi (adu l) (mB xi (a::l) (jT (iZ f t) (a::l)) 0 b) (jT (iZ f t) (a::l)) 1->False:=λb hb=>by
    have sl:=uL (bit:=xi) t1 0 b;rw[abM]at sl;rcases(yd so DV (adu l) (mB xi (a::l) (jT (iZ f t) (a::l)) 0 b) (jT (iZ f t) (a::l)) 1 (λz hz=>hS z (gA.1 hz).1) (pH nd _ 0 b) (Nat.le_of_lt_succ sl)).2 _ hb with k|⟨k,_⟩
    ·have h0:=pos _ t1
     rw[<-show(-1:Int)=jT (iZ f t) (a::l)from k]at h0;exact absurd h0 (by decide)
    exact absurd (show(0:Int)<= -1 from pos _ (gA.1 k).1) (by decide)
   rcases aby.1 e with e|e
   ·exact bad 0 e
   exact bad 1 e
theorem Lw{k:cC}(ok:jo k)(h12:(adu k.jp.ii.am)<=12): ∃a:Int×Int,qt k=adw a/\fU k.jp.ii k.jp.ci=adw a:=by
 have c1:=og ok.iG.fit;rw[AC ok]at c1;have aV:=ok.iG.dI;have ul:=Gs k.jp.ii.am k.jp.ci;rw[ok.up]at ul;unfold qt;rw[c1,aj,bw rfl,ww];rcases jH aV ok.iG.gZ ok.iG.dP h12 with⟨h0,m⟩|⟨p,hp,first,m⟩
 ·have ul:(adu k.up)=0:=by rw[ul,h0];rfl
  refine⟨(0,42),?_,m⟩;rw[(Ak k.up (-1) (by omega)).2 (λj hj=>by omega),aj,az (by decide),v6]
 obtain⟨i,hi,rfl⟩:=aN.1 hp
 have ui:k.up[i]! = -1:=by rw[<-ok.up];exact(Jg aV hi).2 first
 have o:=xh aV.2.2 k.jp.ci;have uo: ∀j,j<i->k.up[j]!≠ -1:=λj hj e=>by
  rw[<-ok.up]at e;have fj:=(Jg aV (show j<(adu k.jp.ii.am) by omega)).1 e
  by_cases c:DS k.jp.ii.am k.jp.ci j i
  ·exact first _ (aE (by omega)) c
  exact fj _ (aE hi) (o.Xd j i (by omega) hi (by omega) c)
 refine⟨((k.jp.ii.am[i]!).1,0),?_,m⟩;rw[(Ak k.up (-1) (by omega)).1 i (by omega) ui uo,aj,aA (by omega),ww,ar _ i hi,aj]
theorem XK{f:List Pt}{t:Int×Int}{N:List Nd}{r:Int}(tr:hZ f t N r):(cE N (adu f)).length=adu f-1:=by
 have ln:=tr.len;have key: ∀k,k<=adu f->(cE N k).length=if 0<=r/\r<(k:Int)then k-1 else k:=by
  intro k
  induction k with
  |zero=>intro _;rw[Do (by omega)];rfl
  |succ k ih=>
   intro hk;have e:=ih (by omega);have pr:=tr.par (show k<(adu f) by omega);have es:(cE N (k+1)).length=(cE N k).length+(Ap N k).length:=by show(cE N k++Ap N k).length=_;rw[NE]
   rw[es,e];unfold Ap
   by_cases c:(k:Int)=r
   ·rw[Do (show¬rM N k<(adu N) by rw[pr.1 c];omega),Do (by omega),AC (by omega)];rfl
   rw[AC (pr.2.1 c).1,PP]
   by_cases d:0<=r/\r<(k:Int)
   ·rw[AC d,AC (by omega)];omega
   rw[Do d,Do (by omega)]
 rw[key _ (WF _)];have tt:=tr.lw;generalize r=rt at tt ⊢;cases tt with
 |nil h0=>rw[Do (by omega)];omega
 | @node _ _ i tp _ _=>have hi:=tp.hi;rw[AC (by omega)]
theorem Uq{f:List Pt}(aV:aR f)(t:Int×Int):(gg f (rN f t) (adu f)).length=adu f-1:=by
 by_cases h0:(adu f)=0
 ·have:=pI (f:=f) (rN f t) (adu f)
  omega
 have so:=nS aV.2.2 t;have il:(cq f).length=(adu f):=If ..;obtain⟨t1,t2⟩:=ou so (l:=cq f) (λe=>by rw[e]at il;exact h0 il.symm) (λx hx=>cz.1 hx);obtain⟨i,hi,ei⟩:=cz.1 t1;have o:=xh aV.2.2 t;have first: ∀q∈f,¬leads q f[i]! t:=λq hq hl=>by refine t2 q.1 (abA.2 ⟨q,hq,rfl⟩) ?_;show leads (bC f q.1) (bC f _) t;rw[<-ei,tI aV.2.2 hq,iO aV.2.2 hi rfl];exact hl
 have ui:=(Jg aV hi).2 first
 have key: ∀k,k<=adu f->(gg f (rN f t) k).length=if i<k then k-1 else k:=by
  intro k
  induction k with
  |zero=>intro _;rfl
  |succ k ih=>
   intro hk;rw[Da,NE,ih (by omega)]
   by_cases c:k=i
   ·subst c
    rw[ui,Do (show¬(0:Int)<= -1 by decide),Do (by omega),AC (by omega)];rfl
   have nn:(rN f t)[k]!≠ -1:=λe=>by
    have fk:=(Jg aV (show k<(adu f) by omega)).1 e
    by_cases a:DS f t k i
    ·exact first _ (aE (by omega)) a
    exact fk _ (aE hi) (o.Xd k i (by omega) hi c a)
   rcases aaX (t:=t) aV (show k<(adu f) by omega)with e|⟨e,_⟩
   ·exact absurd e nn
   rw[AC e,PP]
   by_cases d:i<k
   ·rw[AC d,AC (by omega)];omega
   rw[Do d,Do (by omega)]
 rw[key _ (WF _),AC hi]
def Mh(p w:List Int):Nat->Nat
 |0=>0
 |m+1=>Mh p w m+if 0<=bu p w m then 1 else 0
theorem RR{p w:List Int}(hc:Db p w)(hn: ∀i,i<adu w->w[i]!<0->bu p w (2*i+1)<0/\bu p w (2*i+2)<0):
 ∀k,k<=adu w->Mh p w (2*k+1)=(if 0<=bu p w 0 then 1 else 0)+Mh p w k+(qn p w k).length
 |0,_=>by simp[Mh,qn]
 |k+1,hk=>by
  have ih:=RR hc hn k (by omega);have el:(qn p w (k+1)).length=(qn p w k).length+if 0<=bu p w (2*k+1)/\0<=bu p w (2*k+2)then 1 else 0:=by
   rw[y7,NE];cases h:y6 p w k with
   |none=>
    unfold y6 at h;rw[Do (λq=>?_)]
    ·rfl
    rw[Do (by omega)]at h;split at h<;>cases h
   |some e=>obtain⟨a,b,_⟩:=BH h;rw[AC ⟨a,b⟩];rfl
  rw[show 2*(k+1)+1=(2*k+1)+1+1 by omega,Mh,Mh,ih,el,Mh];have e:bu p w k=w[k]!:=by unfold bu;rw[AC (by omega)]
  have c:=hc k (by omega);have n:=hn k (by omega);rw[e,show 2*k+1+1=2*k+2 by omega];generalize bu p w (2*k+1)=x at*;generalize bu p w (2*k+2)=y at*;generalize w[k]! =v at*
  by_cases hx:0<=x<;>by_cases hy:0<=y<;>by_cases hv:0<=v<;>simp only[hx,hy,hv,if_true,if_false,and_self,and_true,true_and,and_false,false_and]<;>omega
theorem Ur{p w:List Int}(k:Nat)(hk:k<=adu p):Mh p w (adu w+k)=Mh p w (adu w)+(dG (p.take k)).length:=by
 induction k with
 |zero=>simp[dG]
 |succ k ih=>
  rw[show(adu w)+(k+1)=(adu w+k)+1 by omega,Mh,ih (by omega),ov (by omega),NE];have e:bu p w (adu w+k)=p[k]!:=by unfold bu;rw[Do (by omega)];congr 1;omega
  rw[e]
  by_cases h:0<=p[k]!
  ·rw[AC h,AC h];simp;omega
  rw[Do h,Do h];simp
theorem Us(p w:List Int):qn p w (adu w)=k8 p w:=rfl
theorem RS{p w:List Int}(br:Ma p w):(k8 p w).length+(if 0<=bu p w 0 then 1 else 0)=(dG p).length:=by have h1:=RR br.cho br.none_ (adu w) (WF _);have h2:=Ur (p:=p) (w:=w) (adu p) (WF _);have:=br.len;rw[abu,show(adu w)+adu p=2*adu w+1 by omega]at h2;rw[Us]at h1;omega
section
variable {f : Field} (aV : aR f.am) (h12 : (adu f.am) <= 12) {t : Int × Int} (rt : bo t) (dX : jb t)
include aV h12 rt dX
theorem HI: ∃(k:cf) (n:Nat),sG f t=adw (k,0)/\Hy k f.am t/\eR k.jp 100 n/\n<=190:=by obtain⟨R,k2,s1,s2,s3,s4⟩:=Iw (DY aV rt dX) aV h12 (y8 f t) (by omega);have s1:ng (iW f t) f=adw (R,0):=s1;have cn:=xj f dX;rw[Do (show¬jS f.am≠0 from λh=>h (dM.2 aV)),AC rt]at cn;refine⟨R,k2,?_,s2,s3,by omega⟩;unfold sG;rw[cn,aj,bw rfl,ww,s1,aj]
theorem HJ: ∃(k:cC) (n:Nat),sJ f t=adw (k,0)/\Gu k f.am t/\eR k.jp 100 n/\n<=190:=by obtain⟨R,k2,s1,s2,s3,s4⟩:=Ix (DY aV rt dX) aV h12 (y8 f t) (by omega);have s1:gF (iW f t) f=adw (R,0):=s1;have cn:=xj f dX;rw[Do (show¬jS f.am≠0 from λh=>h (dM.2 aV)),AC rt]at cn;refine⟨R,k2,?_,s2,s3,by omega⟩;unfold sJ;rw[cn,aj,bw rfl,ww,s1,aj]
omit h12 in
theorem IS: ∃(k:bQ) (n:Nat),sE f t=adw (k,0)/\Fa k f.am (jr f.am) t/\eR k.jp 100 n/\n<=190:=by
 have pl:=Ph aV;have f1:=aV.1;obtain⟨R,k2,s1,_,s2,s3,s4⟩:=Ls (DY aV rt dX) aV pl ⟨_,by have:=(Jf f1).1;omega,Fc f1⟩ (by rw[XJ aV]) (y8 f t) (by omega);have s1:mZ (iW f t) f (jr f.am)=adw (R,0):=s1;have k1:sD f=adw (jr f.am):=IQ f1;have cn:=xj f dX;rw[Do (show¬jS f.am≠0 from λh=>h (dM.2 aV)),AC rt]at cn;refine⟨R,k2,?_,s2,s3,by omega⟩;unfold sE;rw[cn,aj,bw rfl,ww,k1,aj,s1,aj]
end
theorem Pk{k:bX}(ok:kW k):(adu k.jp.af.ce)=adu k.jp.ii.am-1:=by have h:=ok.cert.length_eq;rw[If]at h;rw[h,gU,ok.len]
theorem Lx{k:cf}(ok:jm k):(adu k.jp.af.ce)=adu k.jp.ii.am-1:=by have h:=ok.cert.length_eq;rw[If,XK ok.lw]at h;exact h
theorem Ly{k:cC}(ok:jo k):(adu k.jp.af.ce)=adu k.jp.ii.am-1:=by have h:=ok.cert.length_eq;rw[If,<-ok.up,Uq ok.iG.dI]at h;exact h
theorem Mi{k:bQ}(ok:pK k):(adu k.jp.af.ce)=adu k.jp.ii.am-1:=by
 have h:=ok.cert.length_eq;rw[If]at h;have c:=RS ok.br;have pm:=ok.perm.length_eq;have il:(cq k.jp.ii.am).length=(adu k.jp.ii.am):=If ..;have pl:=pL ok.br ok.perm;have R:Em k.jp.ii.am k.jp.ci k.kw.aX k.kw.kG:=by rw[ok.right];exact fh pl.one
 by_cases h0:(adu k.jp.ii.am)=0
 ·omega
 obtain⟨i,tp,e,r0⟩:=RQ ok.iG.dI pl R ok.perm (by omega)
 grind
theorem alT{α:Type}(f:Nat->Option α):Tw 0 f=f 0:=rfl
theorem alU{α:Type}(f:Nat->Option α):Tw 1 f=f 1:=rfl
theorem alV{α:Type}(f:Nat->Option α):Tw 2 f=f 2:=rfl
theorem alW{α:Type}(f:Nat->Option α):Tw 3 f=f 3:=rfl
theorem Pm{x:bm}{f:Field}{t:Int×Int}(h1:Gj x.bv f.am t)(h2: ∃P,Fa x.gC f.am P t)(h3:Hy x.dR f.am t)(h4:Gu x.eT f.am t)(h12:(adu f.am)<=12):ff x f t=adw ae0:=by
 obtain⟨P,h2⟩:=h2;have n1:=Pk h1.ok;have n2:=Mi h2.ok;have n3:=Lx h3.ok;have n4:=Ly h4.ok;have f1:=h1.dI;have f2:=h2.dI;have f3:=h3.dI;have f4:=h4.dI;have t1:=h1.ci;have t2:=h2.ci;have t3:=h3.ci;have t4:=h4.ci;have k1:=h1.ok.XV.2;have k2:=h2.ok.XV.2;have k3:=h3.ok.XV.2;have k4:=h4.ok.XV.2;obtain⟨a,l1,e1⟩:=Pg h1.ok (by rw[f1];exact h12);obtain⟨a2,l2,e2⟩:=Uo h2.ok h2.ok.sh (by rw[f2];exact h12) h2.ok.XV.1;obtain⟨a3,l3,e3⟩:=Lv h3.ok (by rw[f3];exact h12);obtain⟨a4,l4,e4⟩:=Lw h4.ok (by rw[f4];exact h12);have g1:fU f t=adw a:=by rw[<-e1,<-t1];congr 1;cases f;simp at f1;rw[<-f1]
 have g2:fU f t=adw a2:=by rw[<-e2,<-t2];congr 1;cases f;simp at f2;rw[<-f2]
 have g3:fU f t=adw a3:=by rw[<-e3,<-t3];congr 1;cases f;simp at f3;rw[<-f3]
 have g4:fU f t=adw a4:=by rw[<-e4,<-t4];congr 1;cases f;simp at f4;rw[<-f4]
 have mx:(if aa .i64 (abq (adu f.am)-1)>0 then aa .i64 (abq (adu f.am)-1)else 0)=abq (adu f.am-1):=by have w:aa .i64 (abq (adu f.am)-1)=((adu f.am):Int)-1:=fN ⟨by show(-9223372036854775808:Int)<=((adu f.am):Int)-1;omega,by show((adu f.am):Int)-1<9223372036854775808;omega⟩;rw[w];split<;>simp<;>omega
 have sm:xT (Field.mk f.am) (Field.mk f.am)=adw ae0:=by rw[Rg _ _ (by omega)];simp
 unfold ff;rw[g1,aj,l1,aj,l2,aj,l3,aj,l4,aj];refine(aQ (y:=?_) ?_).trans ?_
 rotate_left
 ·unfold np tlL
  simp only[alT,tlC,t1,f1,sm,beq_self_eq_true,n1,mx,bne_self_eq_false];rfl
 rw[show aa .i64 ((0:Int)+1)=1 from rfl];refine(aQ (y:=?_) ?_).trans ?_
 rotate_left
 ·unfold np tlL
  simp only[alU,tlC,t2,f2,sm,beq_self_eq_true,n2,mx,bne_self_eq_false];rfl
 rw[show aa .i64 ((1:Int)+1)=2 from rfl];refine(aQ (y:=?_) ?_).trans ?_
 rotate_left
 ·unfold np tlL
  simp only[alV,tlC,t3,f3,sm,beq_self_eq_true,n3,mx,bne_self_eq_false];rfl
 rw[show aa .i64 ((2:Int)+1)=3 from rfl];refine(aQ (y:=?_) ?_).trans ?_
 rotate_left
 ·unfold np tlL
  simp only[alW,tlC,t4,f4,sm,beq_self_eq_true,n4,mx,bne_self_eq_false];rfl
 rw[show aa .i64 ((3:Int)+1)=4 from rfl];refine au ?_;unfold np;simp;have q1:o8 (bX.mk (aH.mk (t.1,t.2) (Field.mk f.am) x.bv.jp.af x.bv.jp.ae x.bv.jp.io) x.bv.bv)=adw 0:=by rw[<-t1,<-f1];exact k1
 show(o8 (bX.mk (aH.mk (t.1,t.2) (Field.mk f.am) x.bv.jp.af x.bv.jp.ae x.bv.jp.io) x.bv.bv)).bind _=_;rw[q1,aj,bw rfl,ww];have q2:pf (bQ.mk (aH.mk (t.1,t.2) (Field.mk f.am) x.gC.jp.af x.gC.jp.ae x.gC.jp.io) x.gC.kw)=adw 0:=by rw[<-t2,<-f2];exact k2
 show(pf (bQ.mk (aH.mk (t.1,t.2) (Field.mk f.am) x.gC.jp.af x.gC.jp.ae x.gC.jp.io) x.gC.kw)).bind _=_;rw[q2,aj,bw rfl,ww];have q3:pg (cf.mk (aH.mk (t.1,t.2) (Field.mk f.am) x.dR.jp.af x.dR.jp.ae x.dR.jp.io) x.dR.lw)=adw 0:=by rw[<-t3,<-f3];exact k3
 show(pg (cf.mk (aH.mk (t.1,t.2) (Field.mk f.am) x.dR.jp.af x.dR.jp.ae x.dR.jp.io) x.dR.lw)).bind _=_;rw[q3,aj,bw rfl,ww];have q4:rB (cC.mk (aH.mk (t.1,t.2) (Field.mk f.am) x.eT.jp.af x.eT.jp.ae x.eT.jp.io) x.eT.up)=adw 0:=by rw[<-t4,<-f4];exact k4
 simp_all
theorem eR.mono{c:aH}{m k k':Nat}(h:eR c m k)(hk:k<=k'):eR c m k':=⟨h.l,by have:=h.n;omega,λj hj=>by have:=h.u j hj;omega⟩
structure A4(x:bm)(F:List Pt)(t:Int×Int)(n:Nat):Prop where
 hp:Gj x.bv F t
 tn: ∃P,Fa x.gC F P t
 ht:Hy x.dR F t
 hg:Gu x.eT F t
 r1:eR x.bv.jp 100 n
 r2:eR x.gC.jp 100 n
 r3:eR x.dR.jp 100 n
 r4:eR x.eT.jp 100 n
theorem Pn{f:Field}(aV:aR f.am)(h12:(adu f.am)<=12){t:Int×Int}(rt:bo t)(dX:jb t): ∃x,yG f t=adw (x,ae0)/\A4 x f.am t 190:=by obtain⟨k1,b1,p1,q1⟩:=XI aV h12 rt dX;obtain⟨k2,n2,b2,p2,q2,m2⟩:=IS aV rt dX;obtain⟨k3,n3,b3,p3,q3,m3⟩:=HI aV h12 rt dX;obtain⟨k4,n4,b4,p4,q4,m4⟩:=HJ aV h12 rt dX;refine⟨⟨k1,k2,k3,k4⟩,?_,⟨p1,⟨_,p2⟩,p3,p4,q1.mono (by omega),q2.mono m2,q3.mono m3,q4.mono m4⟩⟩;unfold yG;rw[b1,aj,b2,aj,b3,aj,b4,aj];rfl
theorem IA{x:bm}{F:List Pt}{t:Int×Int}{n:Nat}(a:A4 x F t n)(h12:(adu F)<=12)(hn:n<=500000){to:Int×Int}(rt:bo to)(dX:jb to)(le: ¬gY to t<0): ∃y,nQ x to=adw (y,ae0)/\A4 y F to (n+50000):=by
 obtain⟨P,tn⟩:=a.tn;obtain⟨k1,o1,n1,b1,p1,q1,m1⟩:=XE a.hp h12 a.r1 hn rt dX le;obtain⟨k2,o2,n2,b2,p2,q2,m2⟩:=Ui tn h12 a.r2 hn rt dX le;obtain⟨k3,o3,n3,b3,p3,q3,m3⟩:=RC a.ht h12 a.r3 hn rt dX le;obtain⟨k4,o4,n4,b4,p4,q4,m4⟩:=RA a.hg h12 a.r4 hn rt dX le;refine⟨⟨k1,k2,k3,k4⟩,?_,⟨p1,⟨_,p2⟩,p3,p4,q1.mono m1,q2.mono (by omega),q3.mono (by omega),q4.mono (by omega)⟩⟩;unfold nQ;rw[b1,aj,b2,aj,b3,aj,b4,aj];rfl
theorem Chg.get{α:Type}{r:Field×Int}{o:Option _}{z:α}{at_:α->List Pt->Prop}{iG:α->aH}{n m:Nat}(h:Chg r o z at_ iG n m): ∃R,o=adw (R,r.2)/\(r.2=0->adu r.1.am<=m/\at_ R r.1.am/\eR (iG R) 100 (n+190)):=by
 rcases h with⟨h1,h2⟩|⟨h1,h2,R,n2,h3,h4,h5,h6⟩
 ·grind
 exact⟨R,by rw[h3,h1],λ_=>⟨h2,h4,h5.mono h6⟩⟩
theorem ad0{x:bm}{F:List Pt}{t:Int×Int}{n:Nat}(a:A4 x F t n)(hn:n<=900000)(p:Pt):
 ∃(r:Field×Int) (R1:bX) (R2:bQ) (R3:cf) (R4:cC),dv ⟨F⟩ p=adw r/\rC x.bv p=adw (R1,r.2)/\rD x.gC p=adw (R2,r.2)/\xn x.dR p=adw (R3,r.2)/\uE x.eT p=adw (R4,r.2)/\
  (r.2=0->adu r.1.am<=adu F+1/\A4 ⟨R1,R2,R3,R4⟩ r.1.am t (n+190)):=by
 obtain⟨P,tn⟩:=a.tn;obtain⟨r,e1,c1⟩:=alN a.hp a.r1 hn p;obtain⟨r2,e2,c2⟩:=alQ tn a.r2 hn p;obtain⟨r3,e3,c3⟩:=alO a.ht a.r3 hn p;obtain⟨r4,e4,c4⟩:=alP a.hg a.r4 hn p;obtain rfl:=abt (e1.symm.trans e2);obtain rfl:=abt (e1.symm.trans e3);obtain rfl:=abt (e1.symm.trans e4);obtain⟨R1,g1,k1⟩:=c1.get;obtain⟨R2,g2,k2⟩:=c2.get;obtain⟨R3,g3,k3⟩:=c3.get;obtain⟨R4,g4,k4⟩:=c4.get;exact⟨r,R1,R2,R3,R4,e1,g1,g2,g3,g4,λh=>⟨(k1 h).1,(k1 h).2.1,(k2 h).2.1,(k3 h).2.1,(k4 h).2.1,(k1 h).2.2,(k2 h).2.2,(k3 h).2.2,(k4 h).2.2⟩⟩
theorem RU{x:bm}{F:List Pt}{t:Int×Int}{n:Nat}(a:A4 x F t n)(hn:n<=900000)(p:Int):
 ∃(r:Field×Int) (R1:bX) (R2:bQ) (R3:cf) (R4:cC),cO ⟨F⟩ p=adw r/\mq x.bv p=adw (R1,r.2)/\nR x.gC p=adw (R2,r.2)/\qP x.dR p=adw (R3,r.2)/\py x.eT p=adw (R4,r.2)/\
  (r.2=0->adu r.1.am<=adu F/\A4 ⟨R1,R2,R3,R4⟩ r.1.am t (n+190)):=by
 obtain⟨P,tn⟩:=a.tn;obtain⟨r,e1,c1⟩:=ahB a.hp a.r1 hn p;obtain⟨r2,e2,c2⟩:=ahE tn a.r2 hn p;obtain⟨r3,e3,c3⟩:=ahC a.ht a.r3 hn p;obtain⟨r4,e4,c4⟩:=ahD a.hg a.r4 hn p;obtain rfl:=abt (e1.symm.trans e2);obtain rfl:=abt (e1.symm.trans e3);obtain rfl:=abt (e1.symm.trans e4);obtain⟨R1,g1,k1⟩:=c1.get;obtain⟨R2,g2,k2⟩:=c2.get;obtain⟨R3,g3,k3⟩:=c3.get;obtain⟨R4,g4,k4⟩:=c4.get;exact⟨r,R1,R2,R3,R4,e1,g1,g2,g3,g4,λh=>⟨(k1 h).1,(k1 h).2.1,(k2 h).2.1,(k3 h).2.1,(k4 h).2.1,(k1 h).2.2,(k2 h).2.2,(k3 h).2.2,(k4 h).2.2⟩⟩
theorem A4.right{x:bm}{f:Field}{t:Int×Int}{n:Nat}(a:A4 x f.am t n)(h12:(adu f.am)<=12):ff x f t=adw ae0:=Pm a.hp a.tn a.ht a.hg h12
theorem VJ{y:bm}{f:Field}{mid to:Int×Int}{n:Nat}(a:A4 y f.am mid n)(h12:(adu f.am)<=12)(hn:n<=500000)(rt:bo to)(dX:jb to)(le: ¬gY to mid<0):
 ((ff y f mid).bind λb=>bif !b then adw ae1 else(nQ y to).bind λq=>bif ae0 then bif q.2 then(ff q.1 f to).bind λc=>adw c else adw ae1 else adw ae1)=adw ae0:=by
 obtain⟨z,m1,m2⟩:=IA a h12 hn rt dX le;rw[a.right h12,aj,aai,ww,m1,aj,v6,v6,m2.right h12,aj]
theorem RW{a b:Int×Int}(ha:jb a)(hb:jb b):Bf a b=adw (if bo a/\bo b then 0 else 8):=by
 unfold Bf;rw[pA ha,aj,pA hb]
 grind
theorem Df{a b:Int×Int}(h: ¬0<gY a b): ¬gY b a<0:=Vy.2 (adH.1 (by omega))
theorem HK(f:Field)(s m t:Int×Int)(p:Pt)(id:Int)(s64:jb s)(m64:jb m)(t64:jb t):CS f s m t p id=adw ae0:=by
 unfold CS;rw[aj]
 by_cases h8:8<(abq (adu f.am))
 ·grind
 rw[aA h8,ww,CV,aj]
 by_cases hf:jS f.am=0
 case neg=>grind
 rw[bw hf,ww];have aV:=dM.1 hf;have h9:(adu f.am)<=8:=by grind
 rw[RW s64 m64,aj]
 by_cases rr:bo s/\bo m
 case neg=>grind
 rw[AC rr,bw rfl,ww,pA t64,aj]
 by_cases rt:bo t
 case neg=>grind
 rw[AC rt,bw rfl,ww,EY s64 m64,aj]
 by_cases l1:0<gY s m
 ·grind
 rw[aA l1,ww,EY m64 t64,aj]
 by_cases l2:0<gY m t
 ·grind
 rw[aA l2,ww,aai,ww];obtain⟨x,b1,a1⟩:=Pn aV (by omega) rr.1 s64;obtain⟨y,b2,a2⟩:=IA a1 (by omega) (by omega) rr.2 m64 (Df l1);obtain⟨r,R1,R2,R3,R4,e0,e1,e2,e3,e4,ok⟩:=ad0 a2 (by omega) p;have e0:dv f p=adw r:=e0;rw[b1,aj,aai,ww,a1.right (by omega),aj,aai,ww,b2,aj,aai,ww,a2.right (by omega),aj,aai,ww,
  e0,aj,e1,aj,e2,aj,e3,aj,e4,aj,bw rfl,ww,ww,ww,ww]
 by_cases h0:r.2=0
 ·rw[lZ h0,v6]
  obtain⟨hl,a3⟩:=ok h0;obtain⟨q,S1,S2,S3,S4,g0,g1,g2,g3,g4,ok2⟩:=RU a3 (by omega) id;have g0:cO r.1 id=adw q:=g0;rw[g0,aj,g1,aj,g2,aj,g3,aj,g4,aj,bw rfl,ww,ww,ww,ww]
  by_cases k0:q.2=0
  ·rw[lZ k0,v6]
   grind[VJ,Df]
  rw[jA k0,ww]
  grind[VJ,Df]
 rw[jA h0,ww]
 obtain⟨q,S1,S2,S3,S4,g0,g1,g2,g3,g4,ok2⟩:=RU a2 (by omega) id;have g0:cO f id=adw q:=g0;rw[g0,aj,g1,aj,g2,aj,g3,aj,g4,aj,bw rfl,ww,ww,ww,ww]
 by_cases k0:q.2=0
 ·rw[lZ k0,v6]
  grind[VJ,Df]
 rw[jA k0,ww]
 have e:=VJ a2 (by omega) (by omega) rt t64 (Df l2);rw[a2.right (by omega)]at e;exact e
end Go.Proofs.YtkdikjnhkfffjaaGreat
