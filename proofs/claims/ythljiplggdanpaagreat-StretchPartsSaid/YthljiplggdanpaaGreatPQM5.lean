/- Plain laws (5). -/
import Derived.Test.YthljiplggdanpaaGreatPQM4
import Derived.Test.YthljiplggdanpaaGreatPVm3
import Derived.Test.YthljiplggdanpaaGreatPQS3
open List renaming replicate->EQ,length_singleton->If,length_append->IR,length_set->UV,append_nil->WF,length_replicate->aa9,length_take->aaE,take_of_length_le->aaF,length_drop->ab1,take_append_of_le_length->ab4,length_map->aba,perm_ext_iff_of_nodup->abb,pairwise_iff_getElem->abc,take_length->abe,mem_append->abf,length_filter_le->abg,mem_replicate->abi,mem_map->abm,drop_length->abn,foldl_cons->abo,length->abw
open Bool renaming not_true->NE,not_false->abu,true_and->abv,true->abz,false->abA
open Int renaming ofNat->PP,toNat_natCast->abk
open Nat renaming zero_le->ab3,le_refl->abd,pow_le_pow_right->abh,lt_trichotomy->abl
open Classical renaming not_imp->abj
open Option renaming some->aby
open Decidable renaming decide->abC
namespace Go.Proofs.YthljiplggdanpaaGreat
open Go.Vm Classical
structure O9 (p w:List Int):Prop where
 one:1<=abw p
 gU:(abw p)<=64
 len:(abw w)+1=abw p
 once:DV p
 UT: ∀x∈p,-1<=x/\x<=65535
 cho:E6 p w
 none_: ∀i,i<abw w->w[i]!<0->bM p w (2*i+1)<0/\bM p w (2*i+2)<0
def O' (p w:List Int) (i:Nat):Prop:=(w[i]! =bM p w (2*i+1)\/w[i]! =bM p w (2*i+2))/\ ¬(w[i]!<0/\(0<=bM p w (2*i+1)\/0<=bM p w (2*i+2)))
def Xq (p w:List Int) (i:Nat):Prop:=(w[i]! =bM p w (2*i+1)\/w[i]! =bM p w (2*i+2))/\ ¬(w[i]! = -1/\(bM p w (2*i+1)≠ -1\/bM p w (2*i+2)≠ -1))
def L6 (p:List Int) (i:Nat):Prop:= -1<=p[i]!/\p[i]!<=65535
def Lk (p:List Int) (i:Nat):Prop:= ∀j,j<i->p[j]! =p[i]!->p[i]!<0
theorem Gy {p:List Int}:(∀i,i<abw p->Lk p i)↔DV p:=
 ⟨fun h i j pX hj e=>by rw [e];exact h j hj i pX e,fun h i hi j hj e=>by have:=h j i hj hi e;omega⟩
theorem Pa {p:List Int}:(∀i,i<abw p->L6 p i)↔ ∀x∈p,-1<=x/\x<=65535:=(CY (P:=fun x=> -1<=x/\x<=65535)).symm
theorem aaT {p w:List Int} (h1:1<=abw p) (h64:(abw p)<=64) (hl:(abw w)+1=abw p):
 O9 p w↔(∀i,i<abw p->Lk p i)/\(∀i,i<abw p->L6 p i)/\ ∀i,i<abw w->O' p w i:=by
 rw [Gy,Pa];constructor
 · intro h
   refine ⟨h.once,h.UT,fun i hi=>⟨h.cho i hi,fun ⟨a,b⟩=>?_⟩⟩;have:=h.none_ i hi a;omega
 rintro ⟨a,b,c⟩
 exact ⟨h1,h64,hl,a,b,fun i hi=>(c i hi).1,fun i hi h0=>by have:=(c i hi).2;omega⟩
theorem Ry {p w:List Int} (hl:(abw w)+1=abw p) (hr: ∀x∈p,-1<=x/\x<=65535):(∀i,i<abw w->O' p w i)↔ ∀i,i<abw w->Xq p w i:=by
 constructor<;>intro h i hi
 · have hc:=fun i hi=>(h i hi).1
   have a1:=hr _ (kU hl hc (i:=2*i+1) (by omega));have a2:=hr _ (kU hl hc (i:=2*i+2) (by omega));obtain ⟨b1,b2⟩:=h i hi;exact ⟨b1,by omega⟩
 have hc:=fun i hi=>(h i hi).1
 have a1:=hr _ (kU hl hc (i:=2*i+1) (by omega));have a2:=hr _ (kU hl hc (i:=2*i+2) (by omega));obtain ⟨b1,b2⟩:=h i hi;exact ⟨b1,by omega⟩
theorem HE (p w:List Int) (hl:(abw p)<=1000) (wl:(abw w)<=1000):uY ⟨p,w⟩=aby (if O9 p w then 0 else 8):=by
 unfold uY;simp []
 by_cases h1:((abw p):Int)<1
 · rw [ay h1,v6,Do (fun h=>by have:=h.one;omega)]
 rw [az h1,ww]
 by_cases h2:(64:Int)<((abw p):Int)
 · rw [ay h2,v6,Do (fun h=>by have:=h.gU;omega)]
 rw [az h2,ww,u7 (by omega) (by omega)]
 by_cases h3:(abw w)+1=abw p
 case neg=>rw [db (by omega),v6,Do (fun h=>h3 h.len)]
 rw [aY (by omega),ww];have l1:=kQ (body:=jZ) (fun i=>(w,((abw w):Int),(i:Int),p,w)) (abw w) (O' p w) (e:= .done (.done 0)) (fun i hi=>by
  unfold jZ O';have k1:=uC (i:=i) (by omega) 1 (by omega);have k2:=uC (i:=i) (by omega) 2 (by omega);simp (disch:=omega) only [ay,ar w i hi,ai,show aa .i64 (aa .i64 (2*(i:Int))+1)=((2*i+1:Nat):Int) from k1,show aa .i64 (aa .i64 (2*(i:Int))+2)=((2*i+2:Nat):Int) from k2,v7,aM];generalize bM p w (2*i+1)=x;generalize bM p w (2*i+2)=y;generalize w[i]! =v
  by_cases a1:v=x
  · rw [aY a1,ww]
    by_cases a3:v<0
    · rw [ay a3,v6]
      by_cases a4:0<=(if y>x then y else x)
      · rw [ay a4,v6]
        exact ⟨fun _=>rfl,fun h=>by split at a4<;>omega⟩
      rw [az a4,ww]
      exact ⟨fun h=>by split at a4<;>omega,fun _=>rfl⟩
    rw [az a3,ww]
    exact ⟨fun h=>by omega,fun _=>rfl⟩
  · rw [db a1,v6]
    by_cases a2:v=y
    · rw [aY a2,ww]
      by_cases a3:v<0
      · rw [ay a3,v6]
        by_cases a4:0<=(if y>x then y else x)
        · rw [ay a4,v6]
          exact ⟨fun _=>rfl,fun h=>by split at a4<;>omega⟩
        rw [az a4,ww]
        exact ⟨fun h=>by split at a4<;>omega,fun _=>rfl⟩
      rw [az a3,ww]
      exact ⟨fun h=>by omega,fun _=>rfl⟩
    rw [db a2,v6]
    exact ⟨fun _=>rfl,fun h=>by omega⟩) (by
  unfold jZ;simp (disch:=omega) only [az,ww])
 have l1':aq jZ (w,((abw w):Int),0,p,w)=aby (.done (.done (if∀i,i<abw w->O' p w i then 0 else 8))):=by
  refine (l1).trans ?_
  by_cases h: ∀i,i<abw w->O' p w i
  · rw [AC h,AC h]
  rw [Do h,Do h]
 have l2: ∀m,aq j0 (p,((abw p):Int),0,p,w,m)=aby (.done (if (∀i,i<abw p->L6 p i)/\ ∀i,i<abw w->O' p w i then 0 else 8)):=fun m=>by
  have l2:=kQ (body:=j0) (fun i=>(p,((abw p):Int),(i:Int),p,w,m)) (abw p) (L6 p) (e:= .done (if∀i,i<abw w->O' p w i then 0 else 8)) (fun i hi=>by
   unfold j0 vV L6;simp only [ay (show (i:Int)<((abw p):Int) by omega),v6,ar p i hi,ai,aM (show i<1000000000 by omega)];generalize p[i]! =v
   by_cases a1: -1<=v
   · rw [ay a1,v6,ai]
     by_cases a2:v<=65535
     · rw [ay a2];exact ⟨fun h=>absurd ⟨a1,a2⟩ h,fun _=>rfl⟩
     rw [az a2]
     refine ⟨fun _=>?_,fun h=>absurd h.2 a2⟩;rw [ay (by omega)];rfl
   · rw [az a1,ww,ai]
     refine ⟨fun _=>?_,fun h=>absurd h.1 a1⟩;rw [ay (by omega)];rfl) (by
   unfold j0;simp (disch:=omega) only [az,ww,aF,l1'])
  refine (l2).trans ?_
  by_cases h: ∀i,i<abw p->L6 p i
  · rw [AC h];congr 2;exact Bm ⟨fun k=>⟨h,k⟩,fun k=>k.2⟩
  rw [Do h,Do (fun k=>h k.1)]
 have l3:=kQ (body:=pG) (fun i=>(p,((abw p):Int),(i:Int),p,w,Li p i)) (abw p) (Lk p) (e:=if (∀i,i<abw p->L6 p i)/\ ∀i,i<abw w->O' p w i then 0 else 8) (fun i hi=>by
  unfold pG;simp only [ay (show (i:Int)<((abw p):Int) by omega),v6,ar p i hi,ai,Lj,aM (show i<1000000000 by omega)]
  by_cases a:Lk p i
  · rw [az (fun ⟨h0,j,hj,e⟩=>by have:=a j hj e;omega)]
    exact ⟨fun h=>absurd a h,fun _=>rfl⟩
  · rw [ay (by
     unfold Lk at a;obtain ⟨j,hj⟩:=Classical.not_forall.1 a;obtain ⟨hj,h⟩:=abj.1 hj;obtain ⟨h,h0⟩:=abj.1 h;exact ⟨by omega,j,hj,h⟩)]
    refine ⟨fun _=>?_,fun h=>absurd h a⟩;rw [ay (by omega)];rfl) (by
  unfold pG;simp (disch:=omega) only [az,ww,aF,l2])
 refine (l3).trans ?_;rw [Bm (aaT (by omega) (by omega) h3)]
 grind
theorem Lm (p:List Int) (hl:(abw p)<=1000):CH p=aby (!abC (DV p)):=by
 have l2:=kQ (body:=sG) (fun i=>(p,(i:Int))) (abw p) (Lk p) (r:=abz) (e:=abA) (fun i hi=>by
  have l1:=kQ (body:=sF) (fun j=>(p,(i:Int),(j:Int))) i (fun j=>p[j]! =p[i]!->p[i]!<0) (r:= .done abz) (e:= .next (p,((i+1:Nat):Int))) (fun j hj=>by
   unfold sF;simp (disch:=omega) only [ar,aM]
   grind) (by
   unfold sF;simp (disch:=omega) only [az,ww,aM])
  unfold sG
  by_cases a:Lk p i
  · rw [AC (show∀j,j<i->p[j]! =p[i]!->p[i]!<0 from a)] at l1
    grind
  · rw [Do (show¬ ∀j,j<i->p[j]! =p[i]!->p[i]!<0 from a)] at l1
    grind) (by
  unfold sG;simp)
 refine (l2).trans ?_
 by_cases h:DV p
 · rw [AC (Gy.2 h),ay h];rfl
 rw [Do (fun k=>h (Gy.1 k)),az h];rfl
theorem Ln (p w:List Int) (hl:(abw p)<=1000) (wl:(abw w)<=1000):yw ⟨p,w⟩=aby (if O9 p w then 0 else 8):=by
 unfold yw;simp []
 by_cases h1:((abw p):Int)<1
 · rw [ay h1,v6,Do (fun h=>by have:=h.one;omega)]
 rw [az h1,ww]
 by_cases h2:(64:Int)<((abw p):Int)
 · rw [ay h2,v6,Do (fun h=>by have:=h.gU;omega)]
 rw [az h2,ww,u7 (by omega) (by omega)]
 by_cases h3:(abw w)+1=abw p
 case neg=>rw [db (by omega),v6,Do (fun h=>h3 h.len)]
 rw [aY (by omega),ww,Lm p hl,ai]
 by_cases ho:DV p
 case neg=>rw [az ho,Do (fun h=>ho h.once)];rfl
 rw [ay ho,NE,ww];have l1:=kQ (body:=oT) (fun i=>((i:Int),p,w)) (abw w) (Xq p w) (e:= .done 0) (fun i hi=>by
  unfold oT Xq;have k1:=uC (i:=i) (by omega) 1 (by omega);have k2:=uC (i:=i) (by omega) 2 (by omega);simp (disch:=omega) only [aF,ay,ar w i hi,ai,show aa .i64 (aa .i64 (2*(i:Int))+1)=((2*i+1:Nat):Int) from k1,show aa .i64 (aa .i64 (2*(i:Int))+2)=((2*i+2:Nat):Int) from k2,HA,aM];generalize bM p w (2*i+1)=x;generalize bM p w (2*i+2)=y;generalize w[i]! =v
  by_cases a1:v=x
  · rw [aY a1,ww]
    by_cases a3:v= -1
    · rw [lL a3,v6]
      by_cases a4:x= -1
      · rw [aY a4,ww]
        by_cases a5:y= -1
        · rw [aY a5,ww];exact ⟨fun h=>by omega,fun _=>rfl⟩
        rw [db a5,v6];exact ⟨fun _=>rfl,fun h=>by omega⟩
      rw [db a4,v6];exact ⟨fun _=>rfl,fun h=>by omega⟩
    rw [jm a3,ww];exact ⟨fun h=>by omega,fun _=>rfl⟩
  · rw [db a1,v6]
    by_cases a2:v=y
    · rw [aY a2,ww]
      by_cases a3:v= -1
      · rw [lL a3,v6]
        by_cases a4:x= -1
        · rw [aY a4,ww]
          by_cases a5:y= -1
          · rw [aY a5,ww];exact ⟨fun h=>by omega,fun _=>rfl⟩
          rw [db a5,v6];exact ⟨fun _=>rfl,fun h=>by omega⟩
        rw [db a4,v6];exact ⟨fun _=>rfl,fun h=>by omega⟩
      rw [jm a3,ww];exact ⟨fun h=>by omega,fun _=>rfl⟩
    rw [db a2,v6]
    exact ⟨fun _=>rfl,fun h=>by omega⟩) (by
  unfold oT;simp (disch:=omega) only [aF,az,ww])
 have l1':aq oT (0,p,w)=aby (.done (if∀i,i<abw w->Xq p w i then 0 else 8)):=by
  refine (l1).trans ?_
  by_cases h: ∀i,i<abw w->Xq p w i
  · rw [AC h,AC h]
  rw [Do h,Do h]
 have l2:=kQ (body:=sH) (fun i=>(((abw p):Int),(i:Int),p,w)) (abw p) (L6 p) (e:=if∀i,i<abw w->Xq p w i then 0 else 8) (fun i hi=>by
  unfold sH L6;simp (disch:=omega) only [ay,ar p i hi,ai,aM];generalize p[i]! =v
  by_cases a1:v< -1
  · rw [ay a1];exact ⟨fun _=>rfl,fun h=>by omega⟩
  · rw [az a1,ww]
    by_cases a2:65535<v
    · rw [ay a2];exact ⟨fun _=>rfl,fun h=>by omega⟩
    rw [az a2];exact ⟨fun h=>by omega,fun _=>rfl⟩) (by
  unfold sH;simp (disch:=omega) only [az,ww,l1'])
 refine (l2).trans ?_;rw [Bm (aaT (by omega) (by omega) h3)]
 congr 1
 by_cases hr: ∀i,i<abw p->L6 p i
 · rw [AC hr]
   exact Bm ⟨fun h=>⟨Gy.2 ho,hr,(Ry h3 (Pa.1 hr)).2 h⟩,fun h=>(Ry h3 (Pa.1 hr)).1 h.2.2⟩
 grind
noncomputable def xS (p w:List Int) (k:Nat):List (Int×Int):=(List.range k).filterMap (BL p w)
theorem C7 (p w:List Int) (k:Nat):xS p w (k+1)=xS p w k++(match BL p w k with|some e=>[e]|none=>[]):=by
 unfold xS
 grind [List.range_succ]
theorem E9 (p w:List Int) (k:Nat):(xS p w k).length<=k:=by
 have:=List.length_filterMap_le (BL p w) (List.range k)
 rwa [List.length_range] at this
section
variable {p w : List Int} (hl : (abw w) + 1 = (abw p)) (h64 : (abw p) <= 64) (hc : E6 p w)
include hl h64
theorem Rz:Ky ⟨p,w⟩=aby (jC p w):=by
 have st:=bg (body:=yz) (fun i=>((i:Int),p,w,xS p w i)) (abw w) (fun i hi=>by
  have k1:=uC (i:=i) (by omega) 1 (by omega);have k2:=uC (i:=i) (by omega) 2 (by omega);have el:=E9 p w i;rw [C7];unfold yz;simp (disch:=omega) only [aF,ay,v6,show aa .i64 (aa .i64 (2*(i:Int))+1)=((2*i+1:Nat):Int) from k1,show aa .i64 (aa .i64 (2*(i:Int))+2)=((2*i+2:Nat):Int) from k2,HA,ai,ar w i hi,aM];unfold BL;generalize bM p w _=x;generalize bM p w _=y;generalize w[i]! =v
  by_cases a1:x<0
  · grind
  rw [az a1,ww]
  by_cases a2:y<0
  · grind
  rw [az a2,ww,Do (by omega)]
  by_cases a3:v=x
  · rw [lL a3,v6,AC a3,bA (by grind),ai]
  rw [jm a3,ww,Do a3,bA (by grind),ai])
 refine (st).trans (au ?_);unfold yz;simp (disch:=omega) only [aF,az,];rfl
include hc
theorem RA (hr: ∀x∈p,-1<=x/\x<=65535):aq oW (w,((abw w):Int),0,p,w,[])=aby (⟨p,w⟩,jC p w):=by
 have st:=bg (body:=oW) (fun i=>(w,((abw w):Int),(i:Int),p,w,xS p w i)) (abw w) (fun i hi=>by
  have k1:=uC (i:=i) (by omega) 1 (by omega);have k2:=uC (i:=i) (by omega) 2 (by omega);have el:=E9 p w i;have m1:=hr _ (kU hl hc (i:=2*i+1) (by omega));have m2:=hr _ (kU hl hc (i:=2*i+2) (by omega));have cv:=hc i hi;have fin: ∀(x y v:Int),(-1<=x/\x<=65535)->(-1<=y/\y<=65535)->(v=x\/v=y)->
   (bif abC (0<=x) then
    bif abC (0<=y) then (aX (xS p w i) [(aa .i64 (aa .i64 (x+y) -v),v)]).bind fun l3=>aby (Step.next (ρ:=bG×List (Int×Int)) (w,((abw w):Int),aa .i64 ((i:Int)+1),p,w,l3))
    else aby (Step.next (w,((abw w):Int),aa .i64 ((i:Int)+1),p,w,xS p w i))
   else aby (Step.next (w,((abw w):Int),aa .i64 ((i:Int)+1),p,w,xS p w i)))=
   aby (Step.next (w,((abw w):Int),((i+1:Nat):Int),p,w,xS p w i++(match (if x<0\/y<0 then none else if v=x then aby (y,x) else aby (x,y)) with|some e=>[e]|none=>[]))):=by
   intro x y v hx hy hv;rw [aM (by omega)]
   by_cases a1:x<0
   · rw [az (by omega),ww,AC (.inl a1)];simp
   rw [ay (by omega),v6]
   by_cases a2:y<0
   · rw [az (by omega),ww,AC (.inr a2)];simp
   rw [ay (by omega),v6,Do (by omega),bA (by rw [If];omega),ai,eD (n:=x+y) ⟨by omega,by omega⟩,eD ⟨by omega,by omega⟩]
   grind
  rw [C7];unfold oW;have e1:bM p w (2*i+1)=if 2*i+1<(abw w) then w[2*i+1]! else p[2*i+1-(abw w)]!:=rfl
  have e2:bM p w (2*i+2)=if 2*i+2<(abw w) then w[2*i+2]! else p[2*i+2-(abw w)]!:=rfl
  have f1:=fin _ _ _ m1 m2 cv;simp (disch:=omega) only [aF,ay,show aa .i64 (aa .i64 (2*(i:Int))+1)=((2*i+1:Nat):Int) from k1,show aa .i64 (aa .i64 (2*(i:Int))+2)=((2*i+2:Nat):Int) from k2,ar w i hi,ai,beq_self_eq_true]
  by_cases b1:2*i+1<abw w
  · rw [AC b1] at e1
    rw [ay (by omega),v6,ar w _ b1,ai,<- e1]
    by_cases b2:2*i+2<abw w
    · rw [AC b2] at e2
      rw [ay (by omega),v6,ar w _ b2,ai,<- e2];exact f1
    rw [Do b2] at e2
    rw [az (by omega),ww,eD ⟨by omega,by omega⟩,show ((2*i+2:Nat):Int) - ((abw w):Int)=((2*i+2-(abw w):Nat):Int) by omega,ar p _ (by omega),ai,<- e2];exact f1
  rw [Do b1] at e1
  rw [Do (by omega)] at e2;rw [az (by omega),ww,eD ⟨by omega,by omega⟩,show ((2*i+1:Nat):Int) - ((abw w):Int)=((2*i+1-(abw w):Nat):Int) by omega,ar p _ (by omega),ai,<- e1,
   az (by omega),ww,eD ⟨by omega,by omega⟩,show ((2*i+2:Nat):Int) - ((abw w):Int)=((2*i+2-(abw w):Nat):Int) by omega,ar p _ (by omega),ai,<- e2]
  exact f1)
 refine (st).trans (au ?_);unfold oW;simp (disch:=omega) only [az,];rfl
end
structure tq (f:List Pt) (p:List Int):Prop where
 one:1<=abw p
 gU:(abw p)<=64
 once:DV p
 ids: ∀x∈p,IQ f x
theorem tq.UT {f:List Pt} (bc:aT f) {p:List Int} (h:tq f p): ∀x∈p,-1<=x/\x<=65535:=fun x hx=>by
 rcases h.ids x hx with e|⟨e,hp⟩
 · omega
 have:=(bT bc hp).1
 have e2:=(bT bc hp).2;unfold eZ at this;omega
section
variable {f : List Pt} (bc : aT f) {t : Int × Int} (r : bu t) (eR : jb t) {p : List Int} (pl : tq f p)
include bc eR pl
theorem m8:ve f (jC p (cN f t p))/\(jC p (cN f t p)).Nodup/\(jC p (cN f t p)).length<=63:=by have:=eR;have R:=fu (f:=f) (t:=t) pl.one;have m:=pl.gU;have:=R.1;have el:=Ld p (cN f t p);exact ⟨Xn bc R.1 pl.gU R.uB pl.once fun x hx h0=>(pl.ids x hx).has h0,O6 R.1 R.uB pl.once,by omega⟩
include r
theorem xT:rC ⟨f⟩ t p=aby (⟨p,cN f t p⟩,jC p (cN f t p)):=by have R:=fu (f:=f) (t:=t) pl.one;unfold rC;rw [Al bc r eR pl.one pl.gU pl.ids pl.once,ai];exact RA R.1 pl.gU R.uB (pl.UT bc)
end
def yR:bN:=⟨cS,⟨[],[]⟩⟩
structure adA (c:aH) (f:List Pt) (p:List Int) (k:bN):Prop where
 qp:BI c f (jC p (cN f c.ii p)) k.kw
 aW:k.lc=⟨p,cN f c.ii p⟩
theorem Fa {c:aH} (ok:aQ c) {f:List Pt} (bc:aT f) {p:List Int} (pl:tq f p):
 ∃R:bN×Int,sX c ⟨f⟩ p=aby R/\(R.2=0/\adA c f p R.1\/R=(yR,18)):=by
 have h1:=xT bc ok.hZ ok.dw pl;obtain ⟨xX,nd,el⟩:=m8 bc ok.dw pl;obtain ⟨R,r1,r3⟩:=Ad ok bc xX nd (by omega);unfold sX;rw [h1,ai,r1,ai];rcases r3 with ⟨q0,qq⟩|he
 · rw [aY q0];exact ⟨_,rfl,.inl ⟨rfl,qq,rfl⟩⟩
 rw [he];exact ⟨_,rfl,.inr rfl⟩
def ef (p:List Int):List Int:=p.filter fun x=>decide (0<=x)
theorem qo {p:List Int} {j:Nat} (hj:j<abw p):ef (p.take (j+1))=ef (p.take j)++if 0<=p[j]! then [p[j]!] else []:=by
 unfold ef;rw [dG hj,List.filter_append]
 grind
theorem aaU (p:List Int) (j:Nat):(ef (p.take j)).length<=j:=by have:=abg (fun x:Int=>decide (0<=x)) (p.take j);rw [aaE] at this;unfold ef;omega
theorem Gz (p:List Int) (hl:(abw p)<=1000):Hi p=aby (ef p):=by
 have st:=bg (body:=wN) (fun i=>(p,(i:Int),ef (p.take i))) (abw p) (fun i hi=>by
  have el:=aaU p i;rw [qo hi];unfold wN;simp (disch:=omega) only [aF,ay,v6,ar p i hi,ai,aM]
  by_cases h:0<=p[i]!
  · rw [ay h,v6,AC h,bA (by rw [If];omega),ai]
  rw [az h,ww,Do h,WF])
 refine (st).trans (au ?_);unfold wN;simp
structure Nq (p:List Int) (i j:Nat) (L:List Int):Prop where
 len:(abw L)=abw p
 le:i<=j
 lt:j<=abw p
 got:L.take i=ef (p.take j)
 rest: ∀k,j<=k->k<abw p->L[k]! =p[k]!
theorem Nq.cnt {p:List Int} {i j:Nat} {L:List Int} (h:Nq p i j L):i=(ef (p.take j)).length:=by have:=congrArg List.length h.got;rw [aaE,h.len] at this;have:=h.le;have:=h.lt;omega
theorem adB {p:List Int} {i:Nat} {L:List Int} (h:Nq p i (abw p) L): ∃M:List Int,bq p ((i:Int),((abw p):Int),L)=aby (.done (.done (i,abw p,M)))/\abw M=abw p/\M.take i=ef p:=by
 have hl:=h.len;have hi:=h.le;have got:=h.got;rw [abe] at got;unfold bq;simp (disch:=omega) only [aF,hl,az,ww,ay,abk,Nat.zero_add,Bool.and_true]
 by_cases h0:(abw p)-i=0
 · simp_all [pO,]
 have n1:Nat.beq (abw p-i) 0=abA:=by
  cases hb:Nat.beq _ 0 with
  |false=>rfl
  |true=>have:=Nat.eq_of_beq_eq_true hb;omega
 have n2:Nat.ble (i+(abw p-i)) (abw p)=abz:=Nat.ble_eq_true_of_le (by omega);have ll:(gy L i (EQ (abw p-i) (0:Int))).length=(abw p):=by unfold gy;simp;omega
 rw [n1,ww,n2,v6,pO _ i (by rw [ll];omega),ai,ll,beq_self_eq_true,v6];unfold gy
 grind
theorem ahs {p:List Int} (hp:(abw p)<=1000): ∀(d i j:Nat) (L:List Int),abw p-j<=d->Nq p i j L->
 ∃(n:Nat) (M:List Int),aq (bq p) ((i:Int),(j:Int),L)=aby (.done (n,abw p,M))/\n=(ef p).length/\abw M=abw p/\M.take n=ef p:=by
 have fin: ∀(i j:Nat) (L:List Int),abw p<=j->Nq p i j L-> ∃(n:Nat) (M:List Int),aq (bq p) ((i:Int),(j:Int),L)=aby (.done (n,abw p,M))/\n=(ef p).length/\abw M=abw p/\M.take n=ef p:=by
  intro i j L hj h;obtain rfl:j=(abw p):=by have:=h.lt;omega
  obtain ⟨M,m1,m2,m3⟩:=adB h;exact ⟨i,M,au m1,by rw [h.cnt,abe],m2,m3⟩
 intro d
 induction d with
 |zero=>grind
 |succ d ih=>
  intro i j L hd h
  by_cases hj:(abw p)<=j
  · grind
  have hl:=h.len;have p9:=h.le;have e:=h.rest j (abd _) (by omega);have st:bq p ((i:Int),(j:Int),L)=aby (.next (((if 0<=p[j]! then i+1 else i:Nat):Int),((j+1:Nat):Int),if 0<=p[j]! then L.set i p[j]! else L)):=by
   unfold bq iU;simp only [aF,hl,ay (show (j:Int)<((abw p):Int) by omega),ar L j (by omega),ai,e,aM (show i<1000000000 by omega),aM (show j<1000000000 by omega)]
   by_cases h0:0<=p[j]!
   · rw [az (by omega),abu,v6,ar L i (by omega),ai,AC h0,AC h0];rfl
   grind
  rw [aJ st];refine ih _ _ _ (by omega) ?_
  by_cases h0:0<=p[j]!
  · rw [AC h0,AC h0]
    refine ⟨by grind,by omega,by omega,?_,fun k hk HQ=>?_⟩
    · rw [qo (by omega),AC h0,<- h.got,dG (by grind),cf,AC ⟨rfl,by omega⟩,List.take_set_of_le (abd i)]
    rw [cf,Do (by omega)];exact h.rest k (by omega) HQ
  rw [Do h0,Do h0]
  refine ⟨hl,by omega,by omega,?_,fun k hk HQ=>h.rest k (by omega) HQ⟩;rw [qo (by omega),Do h0,WF];exact h.got
theorem Lo: ∀{l:List Int},(∀x∈l,0<=x)->ef l=l:=fun {l} h=>List.filter_eq_self.2 fun x hx=>by grind
theorem Eo (p:List Int) (hp:(abw p)<=1000): ∃(n:Nat) (M:List Int),cI p=aby (n,abw p,M)/\n=(ef p).length/\abw M=abw p/\M.take n=ef p:=by
 have key: ∀(d m:Nat),abw p-m<=d->m<=abw p->(∀k,k<m->0<=p[k]!)-> ∃(n:Nat) (M:List Int),aq (bB p) (((abw p):Int),(m:Int),p)=aby (n,abw p,M)/\n=(ef p).length/\abw M=abw p/\M.take n=ef p:=by
  intro d;have fin: ∀m,m=abw p->(∀k,k<m->0<=p[k]!)-> ∃(n:Nat) (M:List Int),aq (bB p) (((abw p):Int),(m:Int),p)=aby (n,abw p,M)/\n=(ef p).length/\abw M=abw p/\M.take n=ef p:=by
   intro m hm h;subst hm;have e:=Lo fun x hx=>by obtain ⟨i,hi,rfl⟩:=aS.1 hx;exact h i hi
   refine ⟨abw p,p,au ?_,by rw [e],rfl,by rw [abe,e]⟩;unfold bB;simp
  induction d with
  |zero=>grind
  |succ d ih=>
   intro m h1 h2 h
   by_cases hm:m=abw p
   · exact fin m hm h
   by_cases h0:0<=p[m]!
   · have st:bB p (((abw p):Int),(m:Int),p)=aby (.next (((abw p):Int),((m+1:Nat):Int),p)):=by
      unfold bB iU;simp (disch:=omega) only [ay,v6,ar,ai,az,ww,aM]
     grind [aJ]
   have hd:Nq p m (m+1) p:=⟨rfl,by omega,by omega,by
    rw [qo (by omega),Do h0,WF,Lo fun x hx=>?_];obtain ⟨i,hi,_,rfl⟩:=cE.1 hx;exact h i hi,fun k _ _=>rfl⟩
   obtain ⟨n,M,m1,m2,m3,m4⟩:=ahs hp (abw p) m _ p (by omega) hd;refine ⟨n,M,au ?_,m2,m3,m4⟩;unfold bB iU;simp (disch:=omega) only [ay,v6,ar,ai,beq_self_eq_true,jm,ww,aM,m1]
 exact key (abw p) 0 (by omega) (ab3 _) (fun k hk=>absurd hk (Nat.not_lt_zero k))
def GA (n:Nat):Prop:= ∃i,i<7/\n=2^i
theorem RC {n:Nat} (h1:1<=n) (h2:n<=64):rT .i64 (n:Int) ((n-1:Nat):Int)=0↔GA n:=by
 have key: ∀k:Fin 65,1<=k.val->((rT .i64 (k.val:Int) ((k.val-1:Nat):Int)=0)↔ ∃i,i<7/\k.val=2^i):=by decide+kernel
 exact key ⟨n,by omega⟩ h1
theorem dbl {q:Nat} (h:q<=64):aa .i64 ((q:Int)*2)=((2*q:Nat):Int):=by grind [eD]
theorem Vj (i:Nat):2^(i+1)=2*2^i:=by omega
theorem Lp {n:Nat}:CI (n:Int)=aby (abC (GA n)):=by
 have st:=kQ (body:=xB) (fun i=>((n:Int),((2^i:Nat):Int))) 7 (fun i=>n≠2^i) (r:=abz) (fun i hi=>by
  have b1:2^i<=64:=Nat.le_trans (abh (by omega) (show i<=6 by omega)) (by decide);unfold xB
  by_cases h:n=2^i
  · grind
  · rw [jm (by omega),ww,dbl b1,Vj]
    grind) (by
  rfl)
 refine (st).trans ?_
 by_cases h:GA n
 · obtain ⟨i,hi,e⟩:=h
   rw [Do (fun k=>k i hi e),ay ⟨i,hi,e⟩]
 rw [AC (fun i hi e=>h ⟨i,hi,e⟩),az h]
theorem uE (f:List Pt):(ed f).length=(abw f):=aba ..
theorem Bw {f:List Pt} {i:Nat} (h:i<abw f):(ed f)[i]! =(f[i]!).1:=by
 unfold ed
 grind
section
variable {f : List Pt} (h64 : (abw f) <= 64)
include h64
end
theorem TL:CL=rF:=rfl
structure tu (k:bN):Prop where
 fw:aQ k.kw
 br:O9 k.lc.aW k.lc.k8
 pow:GA (abw k.lc.aW)
 perm:(ed k.kw.io.am).Perm (ef k.lc.aW)
 right:k.lc.k8=cN k.kw.io.am k.kw.ii k.lc.aW
 cert:(k.kw.af.ce.map fun x=>x.2).Perm (jC k.lc.aW k.lc.k8)
theorem m9 {p:List Int} {x:Int}:x∈ef p↔x∈p/\0<=x:=by unfold ef;simp
theorem xU {f:List Pt} {p w:List Int} (br:O9 p w) (pm:(ed f).Perm (ef p)):tq f p:=by
 refine ⟨br.one,br.gU,br.once,fun x hx=>?_⟩;have:=br.UT x hx
 by_cases h:0<=x
 · exact .inr ⟨h,dz.1 (pm.mem_iff.2 (m9.2 ⟨hx,h⟩))⟩
 exact .inl (by omega)
theorem Fb {p:List Int} (h:DV p):(ef p).Nodup:=by
 have go: ∀(j:Nat),j<=abw p->(ef (p.take j)).Nodup:=by
  intro j
  induction j with
  |zero=>intro _;simp [ef]
  |succ j ih=>
   intro hj;rw [qo (by omega)]
   by_cases h0:0<=p[j]!
   · rw [AC h0]
     refine List.nodup_append.2 ⟨ih (by omega),by simp,fun a ha b hb e=>?_⟩;obtain rfl:b=p[j]!:=by simpa using hb
     subst e;have hm:=(m9.1 ha).1;obtain ⟨i,hi,_,e⟩:=cE.1 hm;have:=h i j hi (by omega) e;omega
   rw [Do h0,WF];exact ih (by omega)
 have:=go (abw p) (abd _)
 grind
theorem TM {f:List Pt} (h:fo f):(ed f).Pairwise (· <= ·):=by
 refine abc.2 fun i j hi hj pX=>?_
 rw [uE] at hi hj;have:=eO h pX hj;rw [<- getElem!_pos _ i (by omega),<- getElem!_pos _ j (by omega),Bw hi,Bw hj];omega
theorem RD {f:List Pt} (h:fo f) (l:List Int):q9 l=ed f↔(ed f).Perm l:=by
 grind [AU,List.Perm.eq_of_pairwise,Int.le_antisymm,AV,TM]
theorem L7 (l:List Int) (f:List Pt) (hl:(abw l)<=1000):cQ l f ()=aby (abC (l=ed f)):=by
 unfold cQ;simp []
 by_cases h:(abw l)=abw f
 case neg=>rw [db (by omega),v6,az (fun e=>h (by rw [e,uE]))]
 rw [aY (by omega),ww];have key:=kQ (body:=cC) (fun i=>(f,l,((abw l):Int),(i:Int))) (abw l) (fun i=>l[i]! =(f[i]!).1) (r:=abA) (e:=abz) (fun i hi=>by
  unfold cC xE;simp (disch:=omega) only [ar,aM]
  grind) (by
  unfold cC;simp)
 refine (key).trans ?_
 by_cases q:l=ed f
 · rw [AC (fun i hi=>by rw [q,Bw (by omega)]),ay q]
 rw [Do (fun w=>q (mW (by rw [uE];exact h) fun i hi=>by grind [Bw])),az q]
theorem Pb (a b:List Int) (ha:(abw a)<=1000):iF a b=aby (abC (a=b)):=by
 unfold iF;simp []
 by_cases h:(abw a)=abw b
 case neg=>rw [db (by omega),v6,az (fun e=>h (by rw [e]))]
 rw [aY (by omega),ww];have key:=kQ (body:=fI) (fun i=>(a,b,((abw a):Int),(i:Int))) (abw a) (fun i=>a[i]! =b[i]!) (r:=abA) (e:=abz) (fun i hi=>by
  unfold fI;simp (disch:=omega) only [ar,aM]
  grind) (by
  unfold fI;simp)
 refine (key).trans ?_
 by_cases q:a=b
 · grind
 rw [Do (fun w=>q (mW h w)),az q]
theorem RE {n:Nat} {M:List Int} (hn:n<=abw M) (hm:(abw M)<=1000):Dl N6 n M=aby (q9 (M.take n)++M.drop n):=by unfold Dl HU N6;rw [AC hn,AC (by grind)];simp [Dt,]
theorem Nr {c:aH} (ok:aQ c) {es:List _} (_nd:es.Nodup):(abw es=abw c.af.ce/\ ∀i,i<abw c.af.ce->(c.af.ce[i]!).2∈es)↔(c.af.ce.map fun x=>x.2).Perm es:=by
 have cl:(c.af.ce.map fun x=>x.2).length=(abw c.af.ce):=aba ..;constructor
 · rintro ⟨h1,h2⟩
   exact ft (ja ok.uw) (fun x hx=>by obtain ⟨i,hi,rfl⟩:=dy.2 hx;exact h2 i hi) (by omega)
 intro h
 exact ⟨by rw [<- h.length_eq,cl],fun i hi=>h.mem_iff.1 (dy.1 ⟨i,hi,rfl⟩)⟩
theorem v8 {k:bN} (fit:mY k.kw) (hl:(abw k.lc.aW)<=1000) (wl:(abw k.lc.k8)<=1000):fZ k=aby (if tu k then 0 else 8):=by
 unfold fZ;rw [ia fit,ai]
 by_cases ok:aQ k.kw
 case neg=>rw [Do ok,Do (fun h=>ok h.fw)];rfl
 rw [AC ok,aY rfl,ww,HE k.lc.aW k.lc.k8 hl wl,ai]
 by_cases br:O9 k.lc.aW k.lc.k8
 case neg=>rw [Do br,Do (fun h=>br h.br)];rfl
 have b1:=br.one;have b2:=br.gU;rw [AC br,aY rfl,ww,aF,u7 (by omega) b1]
 by_cases pw:GA (abw k.lc.aW)
 case neg=>rw [db (fun h=>pw ((RC b1 b2).1 h)),v6,Do (fun h=>pw h.pow)]
 rw [aY ((RC b1 b2).2 pw),ww,cj (by omega),ai];obtain ⟨n,M,e1,e2,e3,e4⟩:=Eo k.lc.aW hl;have nl:n<=(abw M):=by
  grind
 have tk:(q9 (M.take n)++M.drop n).take n=q9 (ef k.lc.aW):=by
  grind [Dt,aaE,aaF]
 have ll:(q9 (M.take n)++M.drop n).length=(abw M):=by rw [IR,Dt,aaE,ab1];omega
 have fe:k.kw.io=⟨k.kw.io.am⟩:=rfl;rw [e1,ai];rw [RE nl (by omega),ai,ll,beq_self_eq_true,v6,tk,L7 _ _ (by grind),ai]
 by_cases pm:(ed k.kw.io.am).Perm (ef k.lc.aW)
 case neg=>rw [az (fun h=>pm ((RD ok.eM.2.2 _).1 h)),Do (fun h=>pm h.perm)];rfl
 have pl:=xU br pm;rw [ay ((RD ok.eM.2.2 _).2 pm),NE,ww,fe,xT ok.eM ok.hZ ok.dw pl,ai];dsimp only;obtain ⟨_,nd,el⟩:=m8 ok.eM ok.dw pl;have R:=fu (f:=k.kw.io.am) (t:=k.kw.ii) pl.one;rw [Pb _ _ (by have:=R.1;omega),ai]
 by_cases hw:cN k.kw.io.am k.kw.ii k.lc.aW=k.lc.k8
 case neg=>rw [az hw,Do (fun h=>hw h.right.symm)];rfl
 rw [ay hw,NE,ww,TL,Va _ _ (by omega) (by have:=ok.bd;omega),ai]
 by_cases hc:(k.kw.af.ce.map fun x=>x.2).Perm (jC k.lc.aW (cN k.kw.io.am k.kw.ii k.lc.aW))
 · rw [ay ((Nr ok nd).2 hc),AC ⟨ok,br,pw,pm,hw.symm,by grind⟩];rfl
 rw [az (fun h=>hc ((Nr ok nd).1 h)),Do (fun h=>hc (by rw [hw];exact h.cert))];rfl
theorem Lq {f:List Pt} (bc:aT f) (p:List Int) (hp:(abw p)<=1000):yx ⟨f⟩ p=aby (abC (∀i,i<abw p->p[i]! = -1\/dO f p[i]!)):=by
 have st:=kQ (body:=sI) (fun i=>(p,(i:Int),f)) (abw p) (fun i=>p[i]! = -1\/dO f p[i]!) (e:=abz) (fun i hi=>by
  unfold sI;simp (disch:=omega) only [aF,ay,ar p i hi,ai,aM]
  by_cases h:p[i]! = -1
  · rw [aY h];exact ⟨fun k=>absurd (.inl h) k,fun _=>rfl⟩
  · rw [db h,v6]
    by_cases h2:dO f p[i]!
    · obtain ⟨m,_,e,_⟩:=zn bc h2
      rw [e,ai,az (by omega)];exact ⟨fun k=>absurd (.inr h2) k,fun _=>rfl⟩
    rw [OI bc h2,ai]
    exact ⟨fun _=>rfl,fun k=>by rcases k with k|k;exact absurd k h;exact absurd k h2⟩) (by
  unfold sI;simp (disch:=omega) only [aF,az,ww])
 unfold yx
 grind
theorem L8 {f:List Pt} (bc:aT f) {t:Int×Int} (eR:jb t) {p w:List Int} (br:O9 p w) (pl:tq f p):ET ⟨p,w⟩ ⟨f⟩ t=aby (abC (w=cN f t p)):=by
 have b2:=br.gU;have b3:=br.len;have st:=kQ (body:=uR) (fun i=>((i:Int),p,w,f,t)) (abw w) (fun i=>w[i]! =Aj f t (bM p w (2*i+1)) (bM p w (2*i+2))) (r:=abA) (e:=abz) (fun i hi=>by
  have k1:=uC (i:=i) (by omega) 1 (by omega);have k2:=uC (i:=i) (by omega) 2 (by omega);unfold uR;simp (disch:=omega) only [show aa .i64 (aa .i64 (2*(i:Int))+1)=((2*i+1:Nat):Int) from k1,show aa .i64 (aa .i64 (2*(i:Int))+2)=((2*i+2:Nat):Int) from k2,HA,ai,ar w i hi,aM,O7 bc eR (pl.ids _ (kU b3 br.cho (i:=2*i+1) (by omega))) (pl.ids _ (kU b3 br.cho (i:=2*i+2) (by omega)))]
  grind) (by
  unfold uR;simp)
 refine (st).trans ?_;have R:=fu (f:=f) (t:=t) pl.one
 by_cases h:w=cN f t p
 · rw [AC (by rw [h];exact R.2),ay h]
 rw [Do (fun k=>h (Np ⟨b3,k⟩ R)),az h]
theorem Iy {f:List Pt} (bc:aT f) {t:Int×Int} {p:List Int} (pl:tq f p) {e:Int×Int} (he:e∈jC p (cN f t p)):leads (bm f e.2) (bm f e.1) t:=by
 have R:=fu (f:=f) (t:=t) pl.one;have R1:=R.1;obtain ⟨i,hi,h⟩:=E7.1 he;obtain ⟨a1,a2,a3⟩:=E8 h;have ne:=Gx R.1 R.uB pl.once hi a1;have hx:=(pl.ids _ (kU R.1 R.uB (by omega))).has a1;have hy:=(pl.ids _ (kU R.1 R.uB (by omega))).has a2;have wv:=R.2 i hi;unfold Aj at wv
 grind [pq,bT]
theorem C8 {k:bN} (fit:mY k.kw) (hl:(abw k.lc.aW)<=1000) (wl:(abw k.lc.k8)<=1000):rq k=aby (if tu k then 0 else 8):=by
 unfold rq;rw [tc fit,ai]
 by_cases ok:aQ k.kw
 case neg=>rw [Do ok,Do (fun h=>ok h.fw)];rfl
 rw [AC ok,aY rfl,ww,Ln k.lc.aW k.lc.k8 hl wl,ai]
 by_cases br:O9 k.lc.aW k.lc.k8
 case neg=>rw [Do br,Do (fun h=>br h.br)];rfl
 have b2:=br.gU;rw [AC br,aY rfl,ww,aF,Lp,ai]
 by_cases pw:GA (abw k.lc.aW)
 case neg=>rw [az pw,Do (fun h=>pw h.pow)];rfl
 have fe:k.kw.io=⟨k.kw.io.am⟩:=rfl;rw [ay pw,NE,ww,fe,Lq ok.eM _ hl,ai]
 by_cases pm:(ed k.kw.io.am).Perm (ef k.lc.aW)
 case neg=>
  by_cases kn: ∀i,i<abw k.lc.aW->k.lc.aW[i]! = -1\/dO k.kw.io.am k.lc.aW[i]!
  case neg=>rw [az kn,Do (fun h=>pm h.perm)];rfl
  rw [ay kn,NE,ww,Gz _ hl,ai,aF,aF,Do (fun h=>pm h.perm)];rw [db (fun h=>pm ?_)]
  · rfl
  have h:((ef k.lc.aW).length:Int)=((abw k.kw.io.am):Int):=h;refine (ft (Fb br.once) (fun x hx=>?_) (by rw [uE];omega)).symm;obtain ⟨h1,h2⟩:=m9.1 hx;obtain ⟨i,hi,rfl⟩:=aS.1 h1;rcases kn i hi with e|e
  · omega
  exact dz.2 e
 have pl:=xU br pm;have kn: ∀i,i<abw k.lc.aW->k.lc.aW[i]! = -1\/dO k.kw.io.am k.lc.aW[i]!:=fun i hi=>by
  rcases pl.ids _ (aK hi) with e|e
  · exact .inl e
  grind
 rw [ay kn,NE,ww,Gz _ hl,ai,aF,aF,aY (by rw [<- pm.length_eq,uE]),ww,L8 ok.eM ok.dw br pl,ai]
 by_cases hw:k.lc.k8=cN k.kw.io.am k.kw.ii k.lc.aW
 case neg=>rw [az hw,Do (fun h=>hw h.right)];rfl
 obtain ⟨xX,nd,el⟩:=m8 ok.eM ok.dw pl;rw [ay hw,NE,ww,Rz br.len b2,ai];rw [hw];rw [I7 ok _ xX.kn,ai]
 by_cases hc:(k.kw.af.ce.map fun x=>x.2).Perm (jC k.lc.aW (cN k.kw.io.am k.kw.ii k.lc.aW))
 · rw [ay (⟨by rw [<- hc.length_eq,aba],fun i hi=>⟨dy.2 (hc.mem_iff.2 (aK hi)),Iy ok.eM pl (aK hi)⟩⟩),AC ⟨ok,br,pw,pm,hw,by grind⟩];rfl
 rw [az (fun h=>hc ?_),Do (fun h=>hc (by have:=h.cert;grind))]
 · rfl
 have cl:(k.kw.af.ce.map fun x=>x.2).length=(abw k.kw.af.ce):=aba ..;refine (ft nd (fun x hx=>?_) (by omega)).symm;obtain ⟨i,hi,rfl⟩:=aS.1 hx;exact dy.1 (h.2 i hi).1
section
variable {f : List Pt} (bc : aT f) {t : Int × Int} {p w : List Int} (pl : tq f p) (R : Lc f t p w)
include bc pl R
end
theorem TN: ∀e,e<=6->cu [-1] ((2^e:Nat):Int)=aby (EQ (2^e) (-1)):=by
 have go: ∀(n:Nat) (m:Nat),n<1000->aa .u64 (n:Int)=(n:Int)->(2^m=n)->fY (aa .u64 (PP ([-1]:List Int).length)) (aa .u64 (n:Int))=aby (0,(n:Int)):=fun n m hn h _=>by
  rw [show aa .u64 (PP ([-1]:List Int).length)=1 from by kernel_rfl,h,CQ ⟨by decide,by decide⟩ ⟨by omega,by omega⟩]
  grind
 intro e he;have he:e=0\/e=1\/e=2\/e=3\/e=4\/e=5\/e=6:=by omega
 rcases he with rfl|rfl|rfl|rfl|rfl|rfl|rfl
 · unfold cu iN;rw [go 1 0 (by omega) (by kernel_rfl) rfl];exact (by kernel_rfl:_=aq aE (1,-1::EQ 0 0)).trans (bj.2 ⟨20,by kernel_rfl⟩)
 · unfold cu iN;rw [go 2 1 (by omega) (by kernel_rfl) rfl];exact (by kernel_rfl:_=aq aE (1,-1::EQ 1 0)).trans (bj.2 ⟨20,by kernel_rfl⟩)
 · unfold cu iN;rw [go 4 2 (by omega) (by kernel_rfl) rfl];exact (by kernel_rfl:_=aq aE (1,-1::EQ 3 0)).trans (bj.2 ⟨20,by kernel_rfl⟩)
 · unfold cu iN;rw [go 8 3 (by omega) (by kernel_rfl) rfl];exact (by kernel_rfl:_=aq aE (1,-1::EQ 7 0)).trans (bj.2 ⟨20,by kernel_rfl⟩)
 · unfold cu iN;rw [go 16 4 (by omega) (by kernel_rfl) rfl];exact (by kernel_rfl:_=aq aE (1,-1::EQ 15 0)).trans (bj.2 ⟨20,by kernel_rfl⟩)
 · unfold cu iN;rw [go 32 5 (by omega) (by kernel_rfl) rfl];exact (by kernel_rfl:_=aq aE (1,-1::EQ 31 0)).trans (bj.2 ⟨20,by kernel_rfl⟩)
 exact (by kernel_rfl:_=aq aE (1,-1::EQ 63 0)).trans (bj.2 ⟨20,by kernel_rfl⟩)
structure Bx (k:bN):Prop where
 c:BJ k.kw
 p:(abw k.lc.aW)<=1000
 w:(abw k.lc.k8)<=1000
theorem L9:Bx yR:=⟨vf,ab3 _,ab3 _⟩
theorem Lr {k:bN} (h:Bx k):jv k k=aby abz:=by have h1:=h.p;have h2:=h.w;unfold jv AW;rw [Bk h.c,ai,v6,K3 _ (by omega),ai,v6,K3 _ (by omega),ai,ai]
theorem RF (k:bN):vz k=aby abz\/(vz k=aby abA/\Bx k):=by
 unfold vz CE
 rcases yM k.kw with e|⟨e,sh⟩
 · grind
 rw [e,ai,ww];simp only [aF]
 by_cases h:70<abw k.lc.aW
 · grind
 rw [az (by omega),ww,ai]
 by_cases h2:70<abw k.lc.k8
 · grind
 rw [az (by omega)];exact .inr ⟨rfl,sh,by omega,by omega⟩
def adC (x y v:Int):List (Int×Int):=(if 0<=x/\x≠v then [(x,v)] else [])++(if 0<=y/\y≠v then [(y,v)] else [])
theorem RG {v:Int} {w N:List Int} {L i:Int} {k c:Nat} {E:List _} (hk:k+2<=abw N) (he:(abw E)+2<=1000000):
 aq kL (v,w,L,i,0+k,2,c,2,0,N,E)=aby (.next (w,L,aa .i64 (i+1),N,E++adC N[k]! N[k+1]! v)):=by
 have hd:((N.drop (0+k)).take 2).length=2:=by rw [aaE,ab1];omega
 have g0:aD ((N.drop (0+k)).take 2) 0=aby N[k]!:=by have:=ar ((N.drop (0+k)).take 2) 0 (by omega);rw [w8 (by omega),zY] at this;simpa using this
 have g1:aD ((N.drop (0+k)).take 2) 1=aby N[k+1]!:=by have:=ar ((N.drop (0+k)).take 2) 1 (by omega);rw [w8 (by omega),zY] at this;simpa using this
 have s0:kL (v,w,L,i,0+k,2,c,2,0,N,E)=aby (.next (v,w,L,i,0+k,2,c,2,1,N,E++(if 0<=N[k]!/\N[k]!≠v then [(N[k]!,v)] else []))):=by
  unfold kL;simp only [ay (show (0:Int)<2 by decide),v6,g0,ai,show aa .i64 ((0:Int)+1)=1 from by decide]
  by_cases a:0<=N[k]!
  · rw [ay a,v6]
    by_cases b:N[k]! =v
    · rw [aY b,ww,Do (fun h=>h.2 b),WF]
    rw [db b,v6,AC ⟨a,b⟩,bA (by rw [If];omega),ai]
  rw [az a,ww,Do (fun h=>a h.1),WF]
 obtain ⟨E1,hE⟩: ∃E1,E1=E++(if 0<=N[k]!/\N[k]!≠v then [(N[k]!,v)] else []):=⟨_,rfl⟩;have l1:(abw E1)<=abw E+1:=by rw [hE,IR];split<;>simp
 rw [<- hE] at s0;have s1:kL (v,w,L,i,0+k,2,c,2,1,N,E1)=aby (.next (v,w,L,i,0+k,2,c,2,2,N,E1++(if 0<=N[k+1]!/\N[k+1]!≠v then [(N[k+1]!,v)] else []))):=by
  unfold kL;simp only [ay (show (1:Int)<2 by decide),v6,g1,ai,show aa .i64 ((1:Int)+1)=2 from by decide]
  by_cases a:0<=N[k+1]!
  · rw [ay a,v6]
    by_cases b:N[k+1]! =v
    · rw [aY b,ww,Do (fun h=>h.2 b),WF]
    rw [db b,v6,AC ⟨a,b⟩,bA (by rw [If];omega),ai]
  rw [az a,ww,Do (fun h=>a h.1),WF]
 rw [aJ s0,aJ s1];refine au ?_;unfold kL;simp;unfold adC
 grind
section
variable {f : List Pt} {t : Int × Int} {p w : List Int} (hr : Lc f t p w) (h64 : (abw p) <= 64) (ho : DV p)
include hr ho
theorem adD {i:Nat} (hi:i<abw w):adC (bM p w (2*i+1)) (bM p w (2*i+2)) w[i]! =(match BL p w i with|some e=>[e]|none=>[]):=by
 have hw:=hr.2 i hi;have ne:=fun h=>Gx hr.1 hr.uB ho hi h
 have hor:=Vh f t (bM p w (2*i+1)) (bM p w (2*i+2));unfold BL;rw [hw];generalize hx:bM p w _=x at ne hor ⊢;generalize hy:bM p w _=y at ne hor ⊢;unfold adC
 by_cases a1:x<0
 · have:Aj f t x y=y:=by unfold Aj;rw [AC a1]
   rw [this,Do (by omega),Do (by omega),AC (.inl a1)];rfl
 by_cases a2:y<0
 · have:Aj f t x y=x:=by unfold Aj;rw [Do a1,AC a2]
   rw [this,Do (by omega),Do (by omega),AC (.inr a2)];rfl
 grind
include h64
theorem Ls:yF ⟨p,w⟩=aby (jC p w):=by
 have hl:=hr.1;have nd: ∀j,j<abw w+abw p->(w++p)[j]! =bM p w j:=fun j hj=>by
  unfold bM
  grind
 have st:=bg (body:=s4) (fun i=>(w,((abw w):Int),(i:Int),w++p,xS p w i)) (abw w) (fun i hi=>by
  have k1:=uC (i:=i) (by omega) 1 (by omega);have k3:aa .i64 ((aa .i64 (2*(i:Int)))+3)=((2*i+3:Nat):Int):=by rw [eD (n:=2*(i:Int)) ⟨by omega,by omega⟩,eD ⟨by omega,by omega⟩];omega
  have el:=E9 p w i;unfold s4;simp (disch:=omega) only [ar w i hi,show aa .i64 (aa .i64 (2*(i:Int))+1)=((2*i+1:Nat):Int) from k1,k3,abk,show 2*i+3- (2*i+1)=2 by omega]
  grind [RG,adD,aM,C7])
 unfold yF;rw [show V8 w p=aby (w++p) from by unfold V8;grind];refine (st).trans (au ?_);unfold s4;simp (disch:=omega) only [az,];rfl
end
theorem GB {c:aH} (ok:aQ c) {f:List Pt} (bc:aT f) {p:List Int} (pl:tq f p):
 ∃R:bN×Int,dv c ⟨f⟩ p=aby R/\(R.2=0/\adA c f p R.1\/R=(yR,18)):=by
 have h1:=Al bc ok.hZ ok.dw pl.one pl.gU pl.ids pl.once;have e1:=Ls (fu (f:=f) (t:=c.ii) pl.one) pl.gU pl.once;obtain ⟨xX,nd,el⟩:=m8 bc ok.dw pl;obtain ⟨R,r1,r3⟩:=Ad ok bc xX nd (by omega);unfold dv;rw [h1,ai,e1,ai,r1,ai];rcases r3 with ⟨q0,qq⟩|he
 · rw [aY q0];exact ⟨_,rfl,.inl ⟨rfl,qq,rfl⟩⟩
 rw [he];exact ⟨_,rfl,.inr rfl⟩
theorem Lt {c:aH} (ok:aQ c) {lo hi:Int} (hb:j7 c.io.am (lo,hi)) (h:qR c.af.ce (lo,hi)) {to:Int×Int} (rt:bu to) (le: ¬gE to c.ii<0) (jp: ¬BZ c to):
 ¬leads (bm c.io.am lo) (bm c.io.am hi) to:=by
 obtain ⟨w,w1,w2⟩:=h;have LM:=(bT ok.eM hb.2).1;have hj':=(bT ok.eM hb.1).1;have wn:bV c.io.am (c.af.ce[w]!).2 c.ii=jo (bm c.io.am hi) (bm c.io.am lo) c.ii:=by unfold bV;rw [w2]
 refine OY LM hj' ok.hZ rt (by rw [oy] at le;omega) fun is=>?_
 rw [<- wn] at is;obtain ⟨d,hd,_,ev⟩:=ok.DK.has _ (aK w1) is;obtain ⟨v,hv,he⟩:=aS.1 ev;have tl:=Ab ok.oj v hv;have h0:0<(abw c.ae.bv):=by omega
 have e0:=(ok.oj.ev 0 h0).1.1;have ev':=(ok.oj.ev v hv).1.1;rw [he] at tl ev';rw [<- wn];have n1:=fun q=>tl (.inl q)
 rw [oy] at n1;have n2: ¬gE _ to<=0:=fun q=>jp ⟨h0,q⟩
 have n3:to.1*(Ev.at c.ae.bv[0]!).2<(Ev.at c.ae.bv[0]!).1*to.2:=by unfold gE at n2;rcases dM ((Ev.at c.ae.bv[0]!).1*to.2) (to.1*(Ev.at c.ae.bv[0]!).2) with ⟨a,b⟩|⟨a,b⟩|⟨a,b⟩<;>omega
 exact qn rt.1 e0 ev' n3 (Int.not_lt.1 n1)
theorem zp {c:aH} (ok:aQ c) {p:List Int} (pl:tq c.io.am p) (ct: ∀e∈jC p (cN c.io.am c.ii p),qR c.af.ce e) {to:Int×Int} (rt:bu to) (le: ¬gE to c.ii<0) (jp: ¬BZ c to):
 cN c.io.am to p=cN c.io.am c.ii p:=by
 have R:=fu (f:=c.io.am) (t:=c.ii) pl.one;have R1:=R.1;refine Np (fu pl.one) ⟨R.1,fun i hi=>?_⟩;have wv:=R.2 i hi;have ne:=Gx R.1 R.uB pl.once hi;have ix:=pl.ids _ (kU R.1 R.uB (i:=2*i+1) (by omega));have iy:=pl.ids _ (kU R.1 R.uB (i:=2*i+2) (by omega));have mem:=fun e h=>ct e (E7.2 ⟨i,hi,h⟩)
 unfold BL at mem;rw [wv];rw [wv] at mem;generalize bM p _ _=x at*;generalize bM p _ _=y at*;unfold Aj at*
 by_cases x0:x<0
 · omega
 by_cases y0:y<0
 · omega
 rw [Do x0,Do y0,Do (by omega)] at mem;have hx:=ix.has (by omega);have hy:=iy.has (by omega);have nxy:=ne (by omega)
 by_cases ld:leads (bm c.io.am x) (bm c.io.am y) c.ii
 · rw [AC ld]
   rw [AC ld,AC rfl] at mem;have st:=Lt ok ⟨hy,hx⟩ (mem _ rfl) rt le jp;rw [AC (pq to (by rw [(bT ok.eM hx).2,(bT ok.eM hy).2];omega) st)]
 rw [Do ld]
 rw [Do ld,Do (fun h=>nxy h.symm)] at mem;have st:=Lt ok ⟨hx,hy⟩ (mem _ rfl) rt le jp;rw [Do st]
def tP (c:aH) (p w:List Int) (to:Int×Int) (out:List (Int×Int)):=
 (c.ii.1,c.ii.2,c.io.am,c.af.aU,c.af.ce,c.ae.aj.aC,c.ae.aj.be,c.ae.aj.bi,c.ae.bv,c.ae.aB,c.jp,p,w,to.1,to.2,(0:Int),(0:Int),(0:Int),out)
structure ato (f:List Pt) (p:List Int) (to:Int×Int) (k:bN):Prop where
 fw:aQ k.kw
 eM:k.kw.io.am=f
 ii:k.kw.ii=to
 br:k.lc=⟨p,cN f to p⟩
 cert:(k.kw.af.ce.map fun x=>x.2).Perm (jC p (cN f to p))
 jp: ¬BZ k.kw to
def adE (f:List Pt) (p:List Int) (to:Int×Int) (r:bN×List (Int×Int)×Int):Prop:=r.2.2=18\/(r.2.2=0/\ato f p to r.1)
inductive Iz (l:List Int) (x:Int):List Int->Prop
 |at_ (k:Nat) (hk:k<abw l) (e:l[k]! = -1) (h: ∀j,j<k->l[j]!≠ -1) (hi:da l (-1)=aby (k:Int)):Iz l x (l.set k x)
 |end_ (h: ∀j,j<abw l->l[j]!≠ -1) (hi:da l (-1)=aby (-1)):Iz l x (l++[x]++EQ (abw l-1) (-1))
theorem adF {f:List Pt} {m:Nat} {p:Pt} {x:Int} (h:dO f x):dO (p6 f m p) x:=by obtain ⟨i,hi,rfl⟩:=h;obtain ⟨j,hj,e⟩:=aS.1 (Ja.2 (.inr (aK hi)));exact ⟨j,hj,by rw [e]⟩
theorem Vk (f:List Pt) (m:Nat) (p:Pt):dO (p6 f m p) p.1:=by obtain ⟨j,hj,e⟩:=aS.1 (Ja.2 (.inl rfl));exact ⟨j,hj,by rw [e]⟩
theorem IQ.ins {f:List Pt} {m:Nat} {p:Pt} {x:Int} (h:IQ f x):IQ (p6 f m p) x:=h.imp id fun h=>⟨h.1,adF h.2⟩
theorem TO {f:List Pt} {l:List Int} (pl:tq f l) {p:Pt} (p0:0<=p.1) (nh: ¬dO f p.1) {m:Nat} (h32:(∀j,j<abw l->l[j]!≠ -1)->abw l<=32) {q:List Int} (h:Iz l p.1 q):tq (p6 f m p) q:=by
 have one:=pl.one;have gU:=pl.gU;have ne: ∀j,j<abw l->l[j]!≠p.1:=fun j hj e=>by
  rcases pl.ids _ (aK hj) with h|h
  · omega
  grind
 cases h with
 |at_ k hk e h hi=>
  refine ⟨by grind,by grind,fun i j pX hj he=>?_,fun x hx=>?_⟩
  · rw [UV] at hj
    rw [cf,cf] at he;rw [cf]
    by_cases a:i=k
    · grind
    rw [Do (fun h=>a h.1)] at he ⊢
    by_cases b:j=k
    · grind
    rw [Do (fun h=>b h.1)] at he
    exact pl.once i j pX hj he
  rcases List.mem_or_eq_of_mem_set hx with h|h
  · exact (pl.ids x h).ins
  subst h;exact .inr ⟨p0,Vk f m p⟩
 |end_ h hi=>
  have h32:=h32 h;have ll:(l++[p.1]++EQ (abw l-1) (-1:Int)).length=2*(abw l):=by
   grind
  have g1: ∀i,i<abw l->(l++[p.1]++EQ (abw l-1) (-1:Int))[i]! =l[i]!:=fun i hi=>by
   grind
  have g2:(l++[p.1]++EQ (abw l-1) (-1:Int))[abw l]! =p.1:=by simp
  have g3: ∀i,abw l<i->i<2*abw l->(l++[p.1]++EQ (abw l-1) (-1:Int))[i]! = -1:=fun i h1 h2=>by
   grind
  refine ⟨by rw [ll];omega,by rw [ll];omega,fun i j pX hj he=>?_,fun x hx=>?_⟩
  · rw [ll] at hj
    rcases abl i (abw l) with a|a|a
    · rw [g1 i a] at he ⊢
      rcases abl j (abw l) with b|b|b
      · rw [g1 j b] at he;exact pl.once i j pX b he
      · rw [b,g2] at he;exact absurd he (ne i a)
      rw [g3 j b hj] at he;omega
    · rw [a,g2,g3 j (by omega) hj] at he;omega
    grind
  rcases abf.1 hx with hx|hx
  · rcases abf.1 hx with hx|hx
    · exact (pl.ids x hx).ins
    obtain rfl:=List.mem_singleton.1 hx
    exact .inr ⟨p0,Vk f m p⟩
  exact .inl (abi.1 hx).2
theorem tu.aW {k:bN} (ok:tu k):tq k.kw.io.am k.lc.aW:=xU ok.br ok.perm
theorem adG {k:bN} (ok:tu k) (iz:(abw k.kw.io.am)<64) (h: ∀j,j<abw k.lc.aW->k.lc.aW[j]!≠ -1):(abw k.lc.aW)<=32:=by
 have all:=Lo fun x hx=>by
  obtain ⟨j,hj,rfl⟩:=aS.1 hx;have:=h j hj;rcases ok.aW.ids _ (aK hj) with e|e
  · omega
  exact e.1
 have e:=ok.perm.length_eq;rw [all,uE] at e;obtain ⟨i,hi,hp⟩:=ok.pow;have:i<=5:=by
  grind
 have:=abh (show 0<2 by omega) this;omega
section
variable {k : bN} (n : BW k.kw) (sh : Bx k)
include n sh
end
def C9 (l:List Int) (k:Nat):List Int:=
 if 1<abw l/\4*(ef (l.set k (-1))).length<=(abw l) then ef (l.set k (-1))++EQ ((abw l) / 2- (ef (l.set k (-1))).length) (-1) else l.set k (-1)
theorem Xr: ∀m:Nat,1<=m->m<=32->cu [-1] (m:Int)=aby (EQ m (-1)):=by
 intro m h1 h2;have go:aa .u64 (m:Int)=(m:Int)->fY (aa .u64 (PP ([-1]:List Int).length)) (aa .u64 (m:Int))=aby (0,(m:Int)):=fun h=>by
  rw [show aa .u64 (PP ([-1]:List Int).length)=1 from by kernel_rfl,h,CQ ⟨by decide,by decide⟩ ⟨by omega,by omega⟩];have e1:(1*(m:Int)) / 18446744073709551616=0:=by omega
  have e2:(1*(m:Int))%18446744073709551616=(m:Int):=by omega
  rw [e1,e2]
 have cs: ∀j,j<32->m=j+1->cu [-1] (m:Int)=aby (EQ m (-1)):=by
  intro j hj e;subst e;have:j=0\/j=1\/j=2\/j=3\/j=4\/j=5\/j=6\/j=7\/j=8\/j=9\/j=10\/j=11\/j=12\/j=13\/j=14\/j=15\/j=16\/j=17\/j=18\/j=19\/j=20\/j=21\/j=22\/j=23\/j=24\/j=25\/j=26\/j=27\/j=28\/j=29\/j=30\/j=31:=by omega
  rcases this with rfl|rfl|rfl|rfl|rfl|rfl|rfl|rfl|rfl|rfl|rfl|rfl|rfl|rfl|rfl|rfl|rfl|rfl|rfl|rfl|rfl|rfl|rfl|rfl|rfl|rfl|rfl|rfl|rfl|rfl|rfl|rfl
  all_goals (unfold cu iN;rw [go (by kernel_rfl)])
  · exact (by kernel_rfl:_=aq aE (1,-1::EQ 0 0)).trans (bj.2 ⟨20,by kernel_rfl⟩)
  · exact (by kernel_rfl:_=aq aE (1,-1::EQ 1 0)).trans (bj.2 ⟨20,by kernel_rfl⟩)
  · exact (by kernel_rfl:_=aq aE (1,-1::EQ 2 0)).trans (bj.2 ⟨20,by kernel_rfl⟩)
  · exact (by kernel_rfl:_=aq aE (1,-1::EQ 3 0)).trans (bj.2 ⟨20,by kernel_rfl⟩)
  · exact (by kernel_rfl:_=aq aE (1,-1::EQ 4 0)).trans (bj.2 ⟨20,by kernel_rfl⟩)
  · exact (by kernel_rfl:_=aq aE (1,-1::EQ 5 0)).trans (bj.2 ⟨20,by kernel_rfl⟩)
  · exact (by kernel_rfl:_=aq aE (1,-1::EQ 6 0)).trans (bj.2 ⟨20,by kernel_rfl⟩)
  · exact (by kernel_rfl:_=aq aE (1,-1::EQ 7 0)).trans (bj.2 ⟨20,by kernel_rfl⟩)
  · exact (by kernel_rfl:_=aq aE (1,-1::EQ 8 0)).trans (bj.2 ⟨20,by kernel_rfl⟩)
  · exact (by kernel_rfl:_=aq aE (1,-1::EQ 9 0)).trans (bj.2 ⟨20,by kernel_rfl⟩)
  · exact (by kernel_rfl:_=aq aE (1,-1::EQ 10 0)).trans (bj.2 ⟨20,by kernel_rfl⟩)
  · exact (by kernel_rfl:_=aq aE (1,-1::EQ 11 0)).trans (bj.2 ⟨20,by kernel_rfl⟩)
  · exact (by kernel_rfl:_=aq aE (1,-1::EQ 12 0)).trans (bj.2 ⟨20,by kernel_rfl⟩)
  · exact (by kernel_rfl:_=aq aE (1,-1::EQ 13 0)).trans (bj.2 ⟨20,by kernel_rfl⟩)
  · exact (by kernel_rfl:_=aq aE (1,-1::EQ 14 0)).trans (bj.2 ⟨20,by kernel_rfl⟩)
  · exact (by kernel_rfl:_=aq aE (1,-1::EQ 15 0)).trans (bj.2 ⟨20,by kernel_rfl⟩)
  · exact (by kernel_rfl:_=aq aE (1,-1::EQ 16 0)).trans (bj.2 ⟨20,by kernel_rfl⟩)
  · exact (by kernel_rfl:_=aq aE (1,-1::EQ 17 0)).trans (bj.2 ⟨20,by kernel_rfl⟩)
  · exact (by kernel_rfl:_=aq aE (1,-1::EQ 18 0)).trans (bj.2 ⟨20,by kernel_rfl⟩)
  · exact (by kernel_rfl:_=aq aE (1,-1::EQ 19 0)).trans (bj.2 ⟨20,by kernel_rfl⟩)
  · exact (by kernel_rfl:_=aq aE (1,-1::EQ 20 0)).trans (bj.2 ⟨20,by kernel_rfl⟩)
  · exact (by kernel_rfl:_=aq aE (1,-1::EQ 21 0)).trans (bj.2 ⟨20,by kernel_rfl⟩)
  · exact (by kernel_rfl:_=aq aE (1,-1::EQ 22 0)).trans (bj.2 ⟨20,by kernel_rfl⟩)
  · exact (by kernel_rfl:_=aq aE (1,-1::EQ 23 0)).trans (bj.2 ⟨20,by kernel_rfl⟩)
  · exact (by kernel_rfl:_=aq aE (1,-1::EQ 24 0)).trans (bj.2 ⟨20,by kernel_rfl⟩)
  · exact (by kernel_rfl:_=aq aE (1,-1::EQ 25 0)).trans (bj.2 ⟨20,by kernel_rfl⟩)
  · exact (by kernel_rfl:_=aq aE (1,-1::EQ 26 0)).trans (bj.2 ⟨20,by kernel_rfl⟩)
  · exact (by kernel_rfl:_=aq aE (1,-1::EQ 27 0)).trans (bj.2 ⟨20,by kernel_rfl⟩)
  · exact (by kernel_rfl:_=aq aE (1,-1::EQ 28 0)).trans (bj.2 ⟨20,by kernel_rfl⟩)
  · exact (by kernel_rfl:_=aq aE (1,-1::EQ 29 0)).trans (bj.2 ⟨20,by kernel_rfl⟩)
  · exact (by kernel_rfl:_=aq aE (1,-1::EQ 30 0)).trans (bj.2 ⟨20,by kernel_rfl⟩)
  exact (by kernel_rfl:_=aq aE (1,-1::EQ 31 0)).trans (bj.2 ⟨20,by kernel_rfl⟩)
 exact cs (m-1) (by omega) (by omega)
theorem Xs {l:List Int} {k:Nat} (hk:k<abw l) (h0:0<=l[k]!):(ef (l.set k (-1))).length+1=(ef l).length:=by
 have e1:l=l.take k++l[k]!::l.drop (k+1):=by simp_all
 have f1:(ef l).length=((l.take k).filter fun x=>decide (0<=x)).length+(((l.drop (k+1)).filter fun x=>decide (0<=x)).length+1):=by
  unfold ef
  grind
 have f2:(ef (l.set k (-1))).length=((l.take k).filter fun x=>decide (0<=x)).length+((l.drop (k+1)).filter fun x=>decide (0<=x)).length:=by
  unfold ef
  grind
 omega
theorem Xt {f:List Pt} (hs:fo f) {q:Nat} (hq:q<abw f) {x:Int} (h:dO f x) (fy:x≠(f[q]!).1):dO (f.eraseIdx q) x:=by obtain ⟨i,hi,rfl⟩:=h;obtain ⟨j,hj,e⟩:=aS.1 ((DM hs hq).2 ⟨aK hi,fy⟩);exact ⟨j,hj,by rw [e]⟩
theorem TP {f f':List Pt} {l:List Int} (pl:tq f l) {k:Nat} (hk:k<abw l) (h0:0<=l[k]!) (has: ∀x,dO f x->x≠l[k]!->dO f' x):tq f' (l.set k (-1)):=by
 refine ⟨by grind,by rw [UV];exact pl.gU,fun i j pX hj he=>?_,fun x hx=>?_⟩
 · rw [UV] at hj
   rw [cf,cf] at he;rw [cf]
   by_cases a:i=k
   · omega
   rw [Do (fun h=>a h.1)] at he ⊢
   by_cases b:j=k
   · omega
   rw [Do (fun h=>b h.1)] at he;exact pl.once i j pX hj he
 obtain ⟨i,hi,rfl⟩:=aS.1 hx
 rw [UV] at hi;rw [cf]
 by_cases a:i=k
 · rw [AC ⟨a,by omega⟩];exact .inl rfl
 rw [Do (fun h=>a h.1)]
 refine (pl.ids _ (aK hi)).imp id fun h=>⟨h.1,has _ h.2 fun e=>a (pl.once.inj hi hk e h.1)⟩
theorem RH {f f':List Pt} {l:List Int} (pl:tq f l) {k:Nat} (hk:k<abw l) (h0:0<=l[k]!) (has: ∀x,dO f x->x≠l[k]!->dO f' x):tq f' (C9 l k):=by
 have sp:=TP pl hk h0 has;unfold C9;split
 · rename_i h
   have nd:=Fb sp.once;have gU:=pl.gU;obtain ⟨A,hA⟩: ∃A,A=ef (l.set k (-1)):=⟨_,rfl⟩;rw [<- hA] at h nd ⊢;have An: ∀x∈A,0<=x:=fun x hx=>(m9.1 (hA▸hx)).2
   have ll:(A++EQ ((abw l) / 2-(abw A)) (-1:Int)).length=(abw l) / 2:=by
    grind
   have g3: ∀i,abw A<=i->i<(abw l) / 2->(A++EQ ((abw l) / 2-(abw A)) (-1:Int))[i]! = -1:=fun i h1 h2=>by
    grind
   refine ⟨by rw [ll];omega,by rw [ll];omega,fun i j pX hj he=>?_,fun x hx=>?_⟩
   · rw [ll] at hj
     by_cases a:i<abw A
     · rw [iO a] at he ⊢
       by_cases b:j<abw A
       · rw [iO b] at he
         have:=(abc.1 nd) i j a b pX;rw [getElem!_pos A i a,getElem!_pos A j b] at he;exact absurd he this
       rw [g3 j (by omega) hj] at he
       have:=An _ (aK a);omega
     grind
   rcases abf.1 hx with hx|hx
   · exact sp.ids x (m9.1 (hA▸hx)).1
   exact .inl (abi.1 hx).2
 exact sp
theorem RI:eL=cI:=rfl
section
variable {k : bN} (n : BW k.kw) (sh : Bx k)
include n sh
end
theorem RJ {f:List Pt} (bc:aT f) {t:Int×Int} {p:List Int} (pl:tq f p):O9 p (cN f t p):=by have R:=fu (f:=f) (t:=t) pl.one;refine ⟨pl.one,pl.gU,R.1,pl.once,pl.UT bc,R.uB,fun i hi h=>?_⟩;rw [R.2 i hi] at h;unfold Aj at h;omega
theorem aaV {l:List Int} (hl:(abw l)<=1000) (x:Int): ∃m,Iz l x m:=by
 have ix:=Gh l (-1) (by omega)
 by_cases h: ∃i,i<abw l/\l[i]! = -1
 · obtain ⟨k,k1,k2,k3⟩:=least h
   have k3:=k3;exact ⟨_,.at_ k k1 k2 k3 (ix.1 k k1 k2 k3)⟩
 have h2:=fun j hj e=>h ⟨j,hj,e⟩
 exact ⟨_,.end_ h2 (ix.2 h2)⟩
theorem aaW {to:Int×Int} (rt:bu to) (eR:jb to) {p:List Int} (d:Int)
 (ih: ∀(c:aH) (out:List (Int×Int)),1000000-iZ c<d->aQ c->tq c.io.am p->(c.af.ce.map fun x=>x.2).Perm (jC p (cN c.io.am c.ii p))-> ¬gE to c.ii<0->((abw out):Int)<=iZ c+200->
  ∃R:bN×List (Int×Int)×Int,aq fM (tP c p (cN c.io.am c.ii p) to out)=aby R/\adE c.io.am p to R/\(¬BZ c to->R=(⟨Pu c to,⟨p,cN c.io.am c.ii p⟩⟩,out,0)))
 (c:aH) (out:List (Int×Int)) (hd:1000000-iZ c<=d) (ok:aQ c) (pl:tq c.io.am p) (cp:(c.af.ce.map fun x=>x.2).Perm (jC p (cN c.io.am c.ii p))) (le: ¬gE to c.ii<0) (ho:((abw out):Int)<=iZ c+200):
 ∃R:bN×List (Int×Int)×Int,aq fM (tP c p (cN c.io.am c.ii p) to out)=aby R/\adE c.io.am p to R/\(¬BZ c to->R=(⟨Pu c to,⟨p,cN c.io.am c.ii p⟩⟩,out,0)):=by
 have rb:=tj ok;have B:=fu (f:=c.io.am) (t:=c.ii) pl.one;have ct: ∀e∈jC p (cN c.io.am c.ii p),qR c.af.ce e:=fun e he=>dy.2 (cp.mem_iff.2 he)
 by_cases jp:BZ c to
 · obtain ⟨x,c1,e1,Gb,hf,_,hr,hn⟩:=C4 ok rt eR le jp
   obtain ⟨R,s1,s3⟩:=Fa Gb Gb.eM (p:=p) (by grind);have ol:aX out [x]=aby (out++[x]):=bA (by grind);rcases s3 with ⟨q0,qs⟩|he
   · have rO:fM (tP c p (cN c.io.am c.ii p) to out)=aby (.next (tP R.1.kw R.1.lc.aW R.1.lc.k8 to (out++[x]))):=by
      unfold fM tP;simp [e1,s1,q0,ol]
     have rr:=qs.qp.room;rw [aJ rO,qs.aW];have e3:cN c1.io.am c1.ii p=cN R.1.kw.io.am R.1.kw.ii p:=by rw [qs.qp.eM,qs.qp.ii]
     have e4:R.1.kw.io.am=c.io.am:=by rw [qs.qp.eM,hf]
     have nd:=(m8 qs.qp.ok.eM qs.qp.ok.dw (by rw [e4];exact pl)).2.1;have cp2:(R.1.kw.af.ce.map fun x=>x.2).Perm (jC p (cN R.1.kw.io.am R.1.kw.ii p)):=by
      refine (abb (ja qs.qp.ok.uw) nd).2 fun e=>⟨fun h=>?_,fun h=>?_⟩
      · obtain ⟨x,hx,rfl⟩:=abm.1 h
        rw [<- e3];exact qs.qp.sub x hx
      rw [<- e3] at h
      exact dy.1 (qs.qp.has e h)
     obtain ⟨S,t1,t2,_⟩:=ih R.1.kw (out++[x]) (by omega) qs.qp.ok (by rw [e4];exact pl) cp2 (by rw [qs.qp.ii,hn];exact jp.late) (by rw [IR,If];omega)
     grind
   refine ⟨(yR,[],18),au ?_,.inl rfl,fun h=>absurd jp h⟩
   unfold fM tP
   simp [e1,s1,he,];rfl
 have h1:=xT ok.eM rt eR pl
 rw [zp ok pl ct rt le jp] at h1;refine ⟨(⟨Pu c to,⟨p,cN c.io.am c.ii p⟩⟩,out,0),au ?_,.inr ⟨rfl,Gp ok rt eR le jp,rfl,rfl,?_,?_,jp⟩,fun _=>rfl⟩
 · unfold fM tP
   simp [Gn ok rt eR le jp,Jc ok rt eR le jp];rw [h1,ai]
 · rw [zp ok pl ct rt le jp]
 grind [zp]
theorem atp {to:Int×Int} (rt:bu to) (eR:jb to) {p:List Int}: ∀(d:Nat) (c:aH) (out:List _),1000000-iZ c<=(d:Int)->aQ c->tq c.io.am p->(c.af.ce.map fun x=>x.2).Perm (jC p (cN c.io.am c.ii p))-> ¬gE to c.ii<0->((abw out):Int)<=iZ c+200->
 ∃R:bN×List _×Int,aq fM (tP c p (cN c.io.am c.ii p) to out)=aby R/\adE c.io.am p to R/\(¬BZ c to->R=(⟨Pu c to,⟨p,cN c.io.am c.ii p⟩⟩,out,0)):=by
 intro d
 induction d with
 |zero=>exact fun c out hd ok pl cp le ho=>aaW rt eR 0 (fun c _ h ok _ _ _ _=>by have:=(tj ok).2;omega) c out hd ok pl cp le ho
 |succ d ih=>exact fun c out hd ok pl cp le ho=>aaW rt eR _ (fun c out h=>ih c out (by omega)) c out hd ok pl cp le ho
theorem amd {k:bN} (ok:tu k) (sh:Bx k) {to:Int×Int} (rt:bu to) (eR:jb to) (le: ¬gE to k.kw.ii<0):
 ∃R:bN×List _×Int,oZ k to=aby R/\adE k.kw.io.am k.lc.aW to R/\(¬BZ k.kw to->R=(⟨Pu k.kw to,k.lc⟩,[],0)):=by
 have c1:fZ k=aby 0:=by rw [v8 ok.fw.fit sh.p sh.w,AC ok]
 have rb:=tj ok.fw;have pl:=xU ok.br ok.perm;obtain ⟨R,r1,r3,r4⟩:=atp rt eR (1000000-iZ k.kw).toNat k.kw [] (by omega) ok.fw pl (by rw [<- ok.right];exact ok.cert) le (by simp;omega);rw [<- ok.right] at r1 r4;refine ⟨R,?_,r3,r4⟩;unfold oZ;rw [c1,ai,aY rfl,ww,bQ eR,AC rt,ai,aY rfl,ww,vX eR ok.fw.dw,AC ⟨rt,ok.fw.hZ⟩,ai,az le];exact r1
theorem Vl {f:List Pt} {p:List Int} (bc:aT f) (pl:tq f p) (h: ∀x,dO f x->x∈p):(ed f).Perm (ef p):=
 (abb (eF bc.2.2) (Fb pl.once)).2 fun x=>⟨fun hx=>by
  have hp:=dz.1 hx;obtain ⟨i,hi,e⟩:=hp;have:=bc.2.1 _ (aK hi);unfold eZ at this;exact m9.2 ⟨h x ⟨i,hi,e⟩,by omega⟩,fun hx=>by
  obtain ⟨h1,h2⟩:=m9.1 hx;exact dz.2 ((pl.ids x h1).has h2)⟩
theorem Iz.mem {l q:List Int} {x:Int} (h:Iz l x q):x∈q/\ ∀y∈l,0<=y->y∈q:=by
 cases h with
 |at_ k hk e _ _=>
  refine ⟨List.mem_set hk x,fun y hy h0=>?_⟩;obtain ⟨i,hi,rfl⟩:=aS.1 hy;have g:=cf l k i x
  grind
 |end_ _ _=>grind
theorem aaX {n:Nat} (h:GA n) (h1:1<n):GA (n / 2):=by
 obtain ⟨i,hi,rfl⟩:=h;cases i with
 |zero=>omega
 |succ i=>exact ⟨i,by omega,by omega⟩
theorem adH {n:Nat} (h:GA n) (h1:n<=32):GA (2*n):=by
 obtain ⟨i,hi,rfl⟩:=h;refine ⟨i+1,?_,(Vj i).symm⟩
 grind
theorem aaY {l q:List Int} {x:Int} (h1:1<=abw l) (h:Iz l x q):(abw q=abw l/\ ∃k,k<abw l/\l[k]! = -1)\/(abw q=2*abw l/\ ∀j,j<abw l->l[j]!≠ -1):=by
 cases h with
 |at_ k hk e _ _=>grind
 |end_ h _=>grind
theorem aaZ {l:List Int} {j:Nat}:(C9 l j).length=if 1<abw l/\4*(ef (l.set j (-1))).length<=(abw l) then (abw l) / 2 else (abw l):=by
 unfold C9
 grind
theorem aa0 {l:List Int} {j:Nat} {x:Int} (hx:x∈l) (h0:0<=x) (fy:x≠l[j]!):x∈C9 l j:=by
 have a:x∈l.set j (-1):=by
  obtain ⟨i,hi,rfl⟩:=aS.1 hx;have g:=cf l j i (-1)
  grind
 unfold C9;split
 · exact List.mem_append_left _ (m9.2 ⟨a,h0⟩)
 exact a
section
variable {k : bN} (ok : tu k) (sh : Bx k)
include ok sh
theorem Pc:fZ k=aby 0:=by rw [v8 ok.fw.fit sh.p sh.w,AC ok]
theorem aa1 (p:Pt):(∃e:Int,e≠0/\dY k.kw.io p=aby (⟨[]⟩,e)/\w6 k p=aby (yR,e))\/
 ∃(m:Nat) (q:List Int),Na k.kw.io.am p m/\ ¬dO k.kw.io.am p.1/\eZ p/\dY k.kw.io p=aby (⟨p6 k.kw.io.am m p⟩,0)/\aT (p6 k.kw.io.am m p)/\
  Iz k.lc.aW p.1 q/\tq (p6 k.kw.io.am m p) q/\GA (abw q)/\(ed (p6 k.kw.io.am m p)).Perm (ef q)/\
  ∀R,dv k.kw ⟨p6 k.kw.io.am m p⟩ q=aby R->w6 k p=aby R:=by
 have c1:=Pc ok sh;have bc:=ok.fw.eM;have pl:=ok.aW;rcases tf bc p with ⟨e,e0,t1⟩|⟨m,hm,hp,po,iz,t1⟩
 · have t1:=t1
   refine .inl ⟨e,e0,t1,?_⟩;unfold w6;rw [c1,ai,aY rfl,ww,t1,ai,db e0,v6];rfl
 have nb:=I8 bc po hm iz;have gU:=pl.gU;have one:=pl.one;have full:=adG ok iz;obtain ⟨q,w2⟩:=aaV (l:=k.lc.aW) (by omega) p.1;have p0:0<=p.1:=by have:=po;unfold eZ at this;omega
 have pl':tq (p6 k.kw.io.am m p) q:=TO pl p0 hp full w2;refine .inr ⟨m,q,hm,hp,po,t1,nb,w2,pl',?_,Vl nb pl' fun x hx=>?_,fun R s1=>?_⟩
 · rcases aaY one w2 with ⟨a,_⟩|⟨a,b⟩
   · rw [a];exact ok.pow
   rw [a];exact adH ok.pow (full b)
 · obtain ⟨i,hi,rfl⟩:=hx
   rcases Ja.1 (aK hi) with h|h
   · rw [h];exact w2.mem.1
   obtain ⟨j,hj,e⟩:=aS.1 h
   have:=bc.2.1 _ h;unfold eZ at this;have hx:=ok.perm.mem_iff.1 (dz.2 ⟨j,hj,by rw [e]⟩);exact w2.mem.2 _ (m9.1 hx).1 (by omega)
 unfold w6
 rw [c1,ai,aY rfl,ww,t1,ai,aY rfl,ww,cj (by omega),ai];cases w2 with
 |at_ j hj e h hi=>simp_all [az,ar,eE]
 |end_ h hi=>
  obtain ⟨i,hi7,hpw⟩:=ok.pow;have rep:=TN i (by omega);rw [<- hpw] at rep;rw [hi,ai,ay (by decide),v6,aF,rep,ai];have em:(EQ (abw k.lc.aW) (-1:Int)).isEmpty=abA:=by
   cases hh:(abw k.lc.aW) with
   |zero=>omega
   |succ _=>rfl
  rw [em,ww,bA (by rw [aa9];omega),ai,ar _ _ (by rw [IR,aa9];omega),ai,eE];have:(k.lc.aW++EQ (abw k.lc.aW) (-1:Int)).set (abw k.lc.aW) p.1=k.lc.aW++[p.1]++EQ (abw k.lc.aW-1) (-1):=by
   rw [List.set_append_right _ _ (abd _),Nat.sub_self];cases hh:(abw k.lc.aW) with
   |zero=>omega
   |succ n=>simp [List.replicate_succ]
  grind
theorem Xu (id:Int):(¬dO k.kw.io.am id/\dL k.kw.io id=aby (⟨[]⟩,6)/\ur k id=aby (yR,6))\/
 ∃q j:Nat,q<abw k.kw.io.am/\(k.kw.io.am[q]!).1=id/\j<abw k.lc.aW/\k.lc.aW[j]! =id/\0<=id/\dL k.kw.io id=aby (⟨k.kw.io.am.eraseIdx q⟩,0)/\
  aT (k.kw.io.am.eraseIdx q)/\tq (k.kw.io.am.eraseIdx q) (C9 k.lc.aW j)/\GA (C9 k.lc.aW j).length/\(ed (k.kw.io.am.eraseIdx q)).Perm (ef (C9 k.lc.aW j))/\
  (ef (k.lc.aW.set j (-1))).length=abw k.kw.io.am-1/\
  ∀R,dv k.kw ⟨k.kw.io.am.eraseIdx q⟩ (C9 k.lc.aW j)=aby R->ur k id=aby R:=by
 have c1:=Pc ok sh;have bc:=ok.fw.eM;have pl:=ok.aW;have gU:=pl.gU
 by_cases NZ:dO k.kw.io.am id
 case neg=>have t1:=wW bc NZ;refine .inl ⟨NZ,t1,?_⟩;unfold ur;rw [c1,ai,aY rfl,ww,t1,ai,db (by decide),v6];rfl
 have hm:=m9.1 (ok.perm.mem_iff.1 (dz.2 NZ));obtain ⟨q,hq,hqe⟩:=NZ;have t1:=Bo bc hq;rw [hqe] at t1;have nb:=Gi bc q;obtain ⟨j,hj,e,ix⟩:=Ae (by omega) hm.1;have h0:0<=k.lc.aW[j]!:=by omega
 have pl':=RH pl hj h0 fun x hx fy=>Xt bc.2.2 hq hx (by omega)
 have fl:(k.kw.io.am.eraseIdx q).length=(ef (k.lc.aW.set j (-1))).length:=by
  have a:=Xs hj h0;have b:=ok.perm.length_eq
  grind [uE,Ge]
 refine .inr ⟨q,j,hq,hqe,hj,e,hm.2,t1,nb,pl',?_,Vl nb pl' fun x hx=>?_,by grind,fun R s1=>?_⟩
 · rw [aaZ]
   split
   · rename_i h;exact aaX ok.pow h.1
   exact ok.pow
 · obtain ⟨i,hi,rfl⟩:=hx
   obtain ⟨a,b⟩:=(DM bc.2.2 hq).1 (aK hi);obtain ⟨i',xk,e'⟩:=aS.1 a;have hx:=m9.1 (ok.perm.mem_iff.1 (dz.2 ⟨i',xk,by rw [e']⟩))
   grind [aa0]
 unfold ur
 rw [c1,ai,aY rfl,ww,t1,ai,aY rfl,ww,cj (by omega),ai,ix,ai,ar _ j hj,ai];simp only [eE,aF,UV,];have il:(ef (k.lc.aW.set j (-1))).length<=(abw k.lc.aW):=by have:=abg (fun x:Int=>decide (0<=x)) (k.lc.aW.set j (-1));rw [UV] at this;unfold ef;omega
 rw [eD ⟨by omega,by omega⟩];unfold C9 at s1
 by_cases a:1<abw k.lc.aW
 · rw [ay (by omega),v6]
   by_cases b:4*(ef (k.lc.aW.set j (-1))).length<=abw k.lc.aW
   · rw [ay (by omega),v6,RI]
     rw [AC ⟨a,b⟩] at s1;obtain ⟨N,M,m1,m2,m3,m4⟩:=Eo (k.lc.aW.set j (-1)) (by rw [UV];omega);rw [UV] at m1 m3;have w2:aa .i64 (aa .i64 (Int.tdiv ((abw k.lc.aW):Int) 2) - (N:Int))=(((abw k.lc.aW) / 2-N:Nat):Int):=by rw [Int.tdiv_eq_ediv_of_nonneg (by omega),eD (n:=((abw k.lc.aW):Int) / 2) ⟨by omega,by omega⟩,eD ⟨by omega,by omega⟩];omega
     rw [m1,ai];rw [w2,Xr _ (by omega) (by omega),ai];have em:(EQ ((abw k.lc.aW) / 2-N) (-1:Int)).isEmpty=abA:=by
      cases hh:(abw k.lc.aW) / 2-N with
      |zero=>omega
      |succ _=>rfl
     have b1:Nat.ble (N+((abw k.lc.aW) / 2-N)) (abw k.lc.aW)=abz:=by rw [Nat.ble_eq];omega
     have lay:(gy M N (EQ ((abw k.lc.aW) / 2-N) (-1:Int))).take (N+((abw k.lc.aW) / 2-N))=ef (k.lc.aW.set j (-1))++EQ ((abw k.lc.aW) / 2-N) (-1):=by unfold gy;rw [m4,ab4 (by rw [IR,aa9];omega),aaF (by rw [IR,aa9];omega)]
     rw [em,ww,aa9,b1,v6,m3,b1];simp only [abu,Bool.and_self,v6];rw [lay,m2,s1,ai]
   rw [az (by omega),ww]
   rw [Do (fun h=>b h.2)] at s1;rw [s1,ai]
 grind
theorem RK (p:Pt):(∃e:Int,e≠0/\cd k.kw.io p=aby (⟨[]⟩,e)/\pL k p=aby (yR,e))\/
 ∃q:Nat,q<abw k.kw.io.am/\(k.kw.io.am[q]!).1=p.1/\eZ p/\cd k.kw.io p=aby (⟨k.kw.io.am.set q p⟩,0)/\aT (k.kw.io.am.set q p)/\
  tq (k.kw.io.am.set q p) k.lc.aW/\(ed (k.kw.io.am.set q p)).Perm (ef k.lc.aW)/\
  ∀R,dv k.kw ⟨k.kw.io.am.set q p⟩ k.lc.aW=aby R->pL k p=aby R:=by
 have c1:=Pc ok sh;have bc:=ok.fw.eM;have pl:=ok.aW;rcases oz bc p with ⟨e,e0,t1⟩|⟨q,hq,he,po,t1⟩
 · have t1:=t1
   refine .inl ⟨e,e0,t1,?_⟩;unfold pL;rw [c1,ai,aY rfl,ww,t1,ai,db e0,v6];rfl
 have t1:cd k.kw.io p=aby _:=t1;have nb:=OQ bc po hq he;have atq: ∀x,dO k.kw.io.am x->dO (k.kw.io.am.set q p) x:=fun x ⟨i,hi,e⟩=>by
  refine ⟨i,by rw [UV];exact hi,?_⟩;rw [cf]
  by_cases a:i=q
  · rw [AC ⟨a,hq⟩,<- he,<- a];exact e
  rw [Do (fun h=>a h.1)];exact e
 have pl':tq _ k.lc.aW:=⟨pl.one,pl.gU,pl.once,fun x hx=>(pl.ids x hx).imp id fun h=>⟨h.1,atq x h.2⟩⟩;refine .inr ⟨q,hq,he,po,t1,nb,pl',by rw [Vc hq he];exact ok.perm,fun R s1=>?_⟩;unfold pL
 grind
end
structure ame (R:bN) (F:List Pt) (P:List Int) (t:Int×Int):Prop where
 ok:tu R
 eM:R.kw.io.am=F
 ii:R.kw.ii=t
 pls:R.lc.aW=P
theorem adA.atr {c:aH} (ok:aQ c) {f:List Pt} (bc:aT f) {p:List Int} (pl:tq f p) (pw:GA (abw p)) (pm:(ed f).Perm (ef p)) {k:bN} (h:adA c f p k):ame k f p c.ii:=by have q:=h.qp;have b:=h.aW;obtain ⟨_,nd,_⟩:=m8 bc ok.dw pl;refine ⟨⟨q.ok,by grind [RJ],by rw [b];exact pw,by rw [q.eM,b];exact pm,by rw [b,q.eM,q.ii],?_⟩,q.eM,q.ii,by rw [b]⟩;rw [b];exact yQ (ja q.ok.uw) nd (fun z hz=>by obtain ⟨y,hy,rfl⟩:=abm.1 hz;exact q.sub y hy) (fun z hz=>dy.1 (q.has z hz))
theorem Lu {c:aH} (ok:aQ c) {f:List Pt} (bc:aT f) {p:List Int} (pl:tq f p) (pw:GA (abw p)) (pm:(ed f).Perm (ef p)):
 ∃R:bN×Int,dv c ⟨f⟩ p=aby R/\(R=(yR,18)\/R.2=0/\ame R.1 f p c.ii):=by
 obtain ⟨R,r1,r3⟩:=GB ok bc pl;exact ⟨R,r1,r3.symm.imp id fun ⟨a,b⟩=>⟨a,b.atr ok bc pl pw pm⟩⟩
theorem TQ {to:Int×Int} (rt:bu to) (eR:jb to): ∀(d:Nat) (c:aH) (r:Int) (N:List Nd) (out:List _),1000000-iZ c<(d:Int)->gH ⟨c,⟨r,N⟩⟩-> ¬gE to c.ii<0->((abw out):Int)<=iZ c+200->
 ∃R:bC×List _×Int,aq jk (hP c r N to out)=aby R/\(R.2.2=18\/R.2.2=0/\W4 R.1 c.io.am to)/\(¬BZ c to->R=(⟨Pu c to,⟨r,N⟩⟩,out,0)):=by
 intro d
 induction d with
 |zero=>intro c r N out hd ok;have:=(tj (show aQ c from ok.fw)).2;omega
 |succ d ih=>
  intro c r N out hd Av le ho;have ok:aQ c:=Av.fw;have tr:=Av.pp;have rb:=tj ok;have ct: ∀e∈cB N (abw c.io.am),qR c.af.ce e:=fun e he=>dy.2 (Av.cert.mem_iff.2 he)
  by_cases jp:BZ c to
  · obtain ⟨x,c1,e1,Gb,hf,_,hr,hn⟩:=C4 ok rt eR le jp
    obtain ⟨R,s1,s3⟩:=DU Gb Gb.eM;have ol:aX out [x]=aby _:=bA (by grind);rcases s3 with ⟨q0,qs⟩|he
    · have rO:jk (hP c r N to out)=aby (.next (hP R.1.kw R.1.pp.ls R.1.pp.lw to (out++[x]))):=by
       unfold jk hP;simp [e1,ai,s1,q0,show ((0:Int) !=0)=abA from rfl,ww,ol]
      have rr:=qs.qp.room;have hk:gH ⟨R.1.kw,⟨R.1.pp.ls,R.1.pp.lw⟩⟩:=by
       obtain ⟨_,nd,_⟩:=qs.pp.Nc Gb.eM;refine ⟨qs.qp.ok,?_,?_⟩
       · show gO R.1.kw.io.am R.1.kw.ii R.1.pp.lw R.1.pp.ls
         rw [qs.qp.eM,qs.qp.ii];exact qs.pp
       rw [qs.qp.eM]
       exact yQ (ja qs.qp.ok.uw) nd (fun x hx=>by obtain ⟨y,hy,rfl⟩:=abm.1 hx;exact qs.qp.sub y hy) (fun x hx=>dy.1 (qs.qp.has x hx))
      rw [aJ rO];obtain ⟨S,t1,t2,_⟩:=ih R.1.kw R.1.pp.ls R.1.pp.lw (out++[x]) (by omega) hk (by rw [qs.qp.ii,hn];exact jp.late) (by rw [IR,If];omega);rw [qs.qp.eM,hf] at t2
      grind
    refine ⟨(⟨cS,⟨0,[]⟩⟩,[],18),au ?_,.inl rfl,fun h=>absurd jp h⟩
    unfold jk hP;simp_all
  obtain ⟨r2,N2,h1,h2⟩:=OR ok.eM rt eR
  have ts:=TG ok tr ct rt le jp;obtain ⟨e1,e2⟩:=h2.same ok.eM.2.2 ts;subst e1 e2;refine ⟨(⟨Pu c to,⟨r2,N2⟩⟩,out,0),au ?_,.inr ⟨rfl,⟨Gp ok rt eR le jp,ts,Av.cert⟩,rfl,rfl⟩,fun _=>rfl⟩;unfold jk hP;simp [Gn ok rt eR le jp,ai,show ((6:Int) !=0)=abz from rfl,v6,Jc ok rt eR le jp,h1]
theorem Fc {k:bC} (ok:gH k) {to:Int×Int} (rt:bu to) (eR:jb to) (le: ¬gE to k.kw.ii<0):
 ∃R:bC×List _×Int,o3 k to=aby R/\(R.2.2=18\/R.2.2=0/\W4 R.1 k.kw.io.am to)/\(¬BZ k.kw to->R=(⟨Pu k.kw to,k.pp⟩,[],0)):=by
 have c1:=oa ok.fw.fit;rw [AC ok] at c1;have rb:=tj ok.fw;obtain ⟨R,r1,r2⟩:=TQ rt eR (1000001-iZ k.kw).toNat k.kw k.pp.ls k.pp.lw [] (by omega) ok le (by simp;omega);refine ⟨R,?_,r2⟩;unfold o3;rw [c1,ai,aY rfl,ww,bQ eR,AC rt,ai,aY rfl,ww,vX eR ok.fw.dw,AC ⟨rt,ok.fw.hZ⟩,ai,az le];exact r1
abbrev noG:bH:=⟨cS,[]⟩
structure adI (R:bH) (F:List Pt) (t:Int×Int):Prop where
 ok:gJ R
 eM:R.kw.io.am=F
 ii:R.kw.ii=t
theorem aaQ.hg {c:aH} {f:List Pt} {R:bH×Int} (bc:aT f) (h:aaQ c f R):adI R.1 f c.ii:=⟨h.ok bc,h.qp.eM,h.qp.ii⟩
def EdR (t:Int×Int) (r:Field×Int) (R:bH×Int):Prop:=(r.2≠0/\R=(noG,r.2))\/(r.2=0/\aT r.1.am/\(R.2=0/\adI R.1 r.1.am t\/R=(noG,18)))
theorem Pd {c:aH} (ok:aQ c) {r:Field×Int} (r0:r.2=0) (bc:aT r.1.am): ∃R:bH×Int,iY c r.1=aby R/\EdR c.ii r R:=by
 obtain ⟨R,s1,s3⟩:=Gw ok bc;refine ⟨R,s1,.inr ⟨r0,bc,?_⟩⟩;rcases s3 with q|e
 · exact .inl ⟨q.err,q.hg bc⟩
 exact .inr e
theorem aa2 {k:bH} (ok:gJ k) (p:Pt): ∃(r:Field×Int) (R:bH×Int),dY k.kw.io p=aby r/\xJ k p=aby R/\EdR k.kw.ii r R:=by
 have c1:=ob ok.fw.fit;have bc:=ok.fw.eM;rcases tf bc p with ⟨e,e0,t1⟩|⟨m,hm,hp,po,iz,t1⟩
 · have t1:dY k.kw.io p=aby _:=t1
   refine ⟨(⟨[]⟩,e),(noG,e),t1,?_,.inl ⟨e0,rfl⟩⟩
   unfold xJ gb wS
   grind
 have t1:dY k.kw.io p=aby _:=t1;obtain ⟨R,s1,s3⟩:=Pd ok.fw (r:=(⟨p6 k.kw.io.am m p⟩,0)) rfl (I8 bc po hm iz)
 unfold xJ gb wS
 grind
theorem RM {k:bH} (ok:gJ k) (p:Pt): ∃(r:Field×Int) (R:bH×Int),cd k.kw.io p=aby r/\qk k p=aby R/\EdR k.kw.ii r R:=by
 have c1:=ob ok.fw.fit;have bc:=ok.fw.eM;rcases oz bc p with ⟨e,e0,t1⟩|⟨q,hq,he,po,t1⟩
 · have t1:cd k.kw.io p=aby _:=t1
   refine ⟨(⟨[]⟩,e),(noG,e),t1,?_,.inl ⟨e0,rfl⟩⟩
   unfold qk ff qz
   grind
 have t1:cd k.kw.io p=aby _:=t1;obtain ⟨R,s1,s3⟩:=Pd ok.fw (r:=(⟨k.kw.io.am.set q p⟩,0)) rfl (OQ bc po hq he)
 unfold qk ff qz
 grind
theorem Xv {k:bH} (ok:gJ k) (id:Int): ∃(r:Field×Int) (R:bH×Int),dL k.kw.io id=aby r/\vJ k id=aby R/\EdR k.kw.ii r R:=by
 have c1:=ob ok.fw.fit;have bc:=ok.fw.eM
 by_cases NZ:dO k.kw.io.am id
 case neg=>
  have t1:=wW bc NZ;have t1:dL k.kw.io id=aby _:=t1;refine ⟨(⟨[]⟩,6),(noG,6),t1,?_,.inl ⟨by decide,rfl⟩⟩
  unfold vJ fN u5;grind
 obtain ⟨q,hq,rfl⟩:=NZ;have t1:=Bo bc hq;have t1:dL k.kw.io _=aby _:=t1;obtain ⟨R,s1,s3⟩:=Pd ok.fw (r:=(⟨k.kw.io.am.eraseIdx q⟩,0)) rfl (Gi bc q)
 unfold vJ fN u5
 grind
theorem TR {c:aH} (ok:aQ c) (ct: ∀e∈gB c.io.am (vZ c.io.am c.ii) (abw c.io.am),qR c.af.ce e) {to:Int×Int} (rt:bu to) (le: ¬gE to c.ii<0) (jp: ¬BZ c to):vZ c.io.am to=vZ c.io.am c.ii:=by
 obtain ⟨xX,_,ld⟩:=Ag ok.eM;refine Xf ok.eM fun e he=>?_
 have kn:=xX.kn e he;have p1:=bT ok.eM kn.1;have p2:=bT ok.eM kn.2;obtain ⟨w,w1,w2⟩:=ct _ he;have wn:bV c.io.am (c.af.ce[w]!).2 c.ii=jo (bm c.io.am e.2) (bm c.io.am e.1) c.ii:=by unfold bV;rw [w2]
 have nl: ¬leads (bm c.io.am e.1) (bm c.io.am e.2) to:=by
  refine OY p2.1 p1.1 ok.hZ rt (by rw [oy] at le;omega) fun is=>?_
  rw [<- wn] at is;obtain ⟨d,hd,_,ev⟩:=ok.DK.has _ (aK w1) is;obtain ⟨v,hv,he⟩:=aS.1 ev;have tl:=Ab ok.oj v hv;have h0:0<(abw c.ae.bv):=by omega
  have e0:=(ok.oj.ev 0 h0).1.1;have ev':=(ok.oj.ev v hv).1.1;rw [he] at tl ev';rw [<- wn];have n1:=fun q=>tl (.inl q)
  rw [oy] at n1;have n2: ¬gE _ to<=0:=fun q=>jp ⟨h0,q⟩
  have n3:to.1*(Ev.at c.ae.bv[0]!).2<(Ev.at c.ae.bv[0]!).1*to.2:=by unfold gE at n2;rcases dM ((Ev.at c.ae.bv[0]!).1*to.2) (to.1*(Ev.at c.ae.bv[0]!).2) with ⟨a,b⟩|⟨a,b⟩|⟨a,b⟩<;>omega
  exact qn rt.1 e0 ev' n3 (Int.not_lt.1 n1)
 grind [pq,vM]
def gP (c:aH) (U:List Int) (to:Int×Int) (out:List (Int×Int)):=
 (c.ii.1,c.ii.2,c.io.am,c.af.aU,c.af.ce,c.ae.aj.aC,c.ae.aj.be,c.ae.aj.bi,c.ae.bv,c.ae.aB,c.jp,U,to.1,to.2,(0:Int),(0:Int),(0:Int),out)
theorem Xw {to:Int×Int} (rt:bu to) (eR:jb to): ∀(d:Nat) (c:aH) (U:List Int) (out:List (Int×Int)),1000000-iZ c<(d:Int)->gJ ⟨c,U⟩-> ¬gE to c.ii<0->((abw out):Int)<=iZ c+200->
 ∃R:bH×List (Int×Int)×Int,aq jl (gP c U to out)=aby R/\(R=(noG,[],18)\/R.2.2=0/\adI R.1 c.io.am to)/\(¬BZ c to->R=(⟨Pu c to,U⟩,out,0)):=by
 intro d
 induction d with
 |zero=>intro c U out hd ok;have:=(tj (show aQ c from ok.fw)).2;omega
 |succ d ih=>
  intro c U out hd Av le ho;have ok:aQ c:=Av.fw;have hu:=Av.up;have rb:=tj ok;have ct: ∀e∈gB c.io.am (vZ c.io.am c.ii) (abw c.io.am),qR c.af.ce e:=fun e he=>dy.2 (Av.cert.mem_iff.2 (by grind))
  by_cases jp:BZ c to
  · obtain ⟨x,c1,e1,Gb,hf,_,hr,hn⟩:=C4 ok rt eR le jp
    obtain ⟨R,s1,s3⟩:=Gw Gb Gb.eM;have ol:aX out [x]=aby (out++[x]):=bA (by grind);rcases s3 with q|he
    · have q0:=q.err
      have hg:=q.hg Gb.eM;have rO:jl (gP c U to out)=aby (.next (gP R.1.kw R.1.up to (out++[x]))):=by unfold jl gP;simp [e1,s1,q0,ol]
      have rr:=q.qp.room;rw [aJ rO];obtain ⟨S,t1,t3,_⟩:=ih R.1.kw R.1.up (out++[x]) (by omega) hg.ok (by rw [q.qp.ii,hn];exact jp.late) (by rw [IR,If];omega);rw [q.qp.eM,hf] at t3
      grind
    refine ⟨(noG,[],18),au ?_,.inl rfl,fun h=>absurd jp h⟩
    unfold jl gP
    simp_all
  have hh:=O2 ok.eM rt eR
  have us:=(TR ok ct rt le jp).trans hu;rw [us] at hh;have hh2:=hh;refine ⟨(⟨Pu c to,U⟩,out,0),au ?_,.inr ⟨rfl,⟨Gp ok rt eR le jp,us,Av.cert⟩,rfl,rfl⟩,fun _=>rfl⟩
  unfold jl gP
  simp [Gn ok rt eR le jp,Jc ok rt eR le jp,hh2]
theorem Ff {k:bH} (ok:gJ k) {to:Int×Int} (rt:bu to) (eR:jb to) (le: ¬gE to k.kw.ii<0):
 ∃R:bH×List _×Int,o4 k to=aby R/\(R=(noG,[],18)\/R.2.2=0/\adI R.1 k.kw.io.am to)/\(¬BZ k.kw to->R=(⟨Pu k.kw to,k.up⟩,[],0)):=by
 have c1:=ob ok.fw.fit;rw [AC ok] at c1;have rb:=tj ok.fw;obtain ⟨R,r1,r3⟩:=Xw rt eR (1000001-iZ k.kw).toNat k.kw k.up [] (by omega) ok le (by simp;omega);refine ⟨R,?_,r3⟩;unfold o4;rw [c1,ai,aY rfl,ww,bQ eR,AC rt,ai,aY rfl,ww,vX eR ok.fw.dw,AC ⟨rt,ok.fw.hZ⟩,ai,az le];exact r1
theorem aa3 {α β:Type} (x:α) (l:List α):(PP (x::l).length !=PP ([]:List β).length)=abz:=by rfl
theorem GC (l:List Int):eN l []=aby abA\/(eN l []=aby abz/\l=[]):=by
 cases l with
 |nil=>exact .inr ⟨au rfl,rfl⟩
 |cons x l=>left;rfl
theorem HF (l:List Int):iQ l []=aby abA\/(iQ l []=aby abz/\l=[]):=by
 cases l with
 |nil=>exact .inr ⟨au rfl,rfl⟩
 |cons x l=>left;rfl
theorem TS (l:List Bool):lf l []=aby abA\/(lf l []=aby abz/\l=[]):=by
 cases l with
 |nil=>exact .inr ⟨au rfl,rfl⟩
 |cons x l=>left;rfl
theorem TU (f:Field):tZ f ⟨[]⟩=aby abA\/(tZ f ⟨[]⟩=aby abz/\f=⟨[]⟩):=by
 obtain ⟨l⟩:=f;cases l with
 |nil=>exact .inr ⟨au rfl,rfl⟩
 |cons x l=>left;rfl
theorem TV (c:bX):qG c ⟨0,[]⟩=aby abA\/(qG c ⟨0,[]⟩=aby abz/\c=⟨0,[]⟩):=by
 obtain ⟨n,l⟩:=c;unfold qG
 by_cases h:n=0
 · subst h
   cases l with
   |nil=>exact .inr ⟨au rfl,rfl⟩
   |cons x l=>left;rw [aY rfl,ww];dsimp only;rw [aa3];rfl
 grind
theorem TW (c:bD):ua c ⟨[],[],[]⟩=aby abA\/(ua c ⟨[],[],[]⟩=aby abz/\c=⟨[],[],[]⟩):=by
 obtain ⟨a,b,d⟩:=c;unfold ua;rcases HF a with e|⟨e,rfl⟩
 · rw [e];exact .inl rfl
 rw [e,ai,v6];rcases TS b with e|⟨e,rfl⟩
 · rw [e];exact .inl rfl
 simp_all [HF]
theorem RN (c:aV):qI c ⟨⟨[],[],[]⟩,[],[]⟩=aby abA\/(qI c ⟨⟨[],[],[]⟩,[],[]⟩=aby abz/\c=⟨⟨[],[],[]⟩,[],[]⟩):=by
 obtain ⟨s,h,w⟩:=c;unfold qI;rcases TW s with e|⟨e,rfl⟩
 · grind
 rw [e,ai,NE,ww];rcases HF w with e|⟨e,rfl⟩
 · grind
 rw [e,ai,NE,ww];cases h with
 |nil=>exact .inr ⟨au rfl,rfl⟩
 |cons x l=>grind
theorem By (c:aH):lN c cS=aby abA\/(lN c cS=aby abz/\c=cS):=by
 obtain ⟨⟨a,b⟩,f,cs,ag,du⟩:=c;unfold lN
 by_cases h:a=0/\b=0
 case neg=>
  grind
 obtain ⟨rfl,rfl⟩:=h;rcases TU f with e|⟨e,rfl⟩
 · grind
 rw [e,ai,NE,ww];rcases TV cs with e|⟨e,rfl⟩
 · grind
 rw [e,ai,NE,ww];rcases RN ag with e|⟨e,rfl⟩
 · grind
 rw [e,ai,NE,ww];cases du with
 |nil=>exact .inr ⟨au rfl,rfl⟩
 |cons x l=>
  grind
abbrev iG:bN:=⟨cS,⟨[],[]⟩⟩
abbrev jD:bC:=⟨cS,⟨0,[]⟩⟩
abbrev ig:bH:=⟨cS,[]⟩
theorem TX (k:bN):jv k iG=aby abA\/(jv k iG=aby abz/\k=iG):=by
 obtain ⟨c,⟨p,w⟩⟩:=k;unfold jv iG;rcases By c with e|⟨e,rfl⟩
 · rw [e];exact .inl rfl
 rw [e,ai,v6];unfold AW;rcases GC p with e|⟨e,rfl⟩
 · rw [e];exact .inl rfl
 simp_all [GC]
theorem RO (k:bC):jw k jD=aby abA\/(jw k jD=aby abz/\k=jD):=by
 obtain ⟨c,⟨r,n⟩⟩:=k;unfold jw jD;rcases By c with e|⟨e,rfl⟩
 · grind
 rw [e,ai,v6];unfold rl
 by_cases h:r=0
 case neg=>grind
 subst h;cases n with
 |nil=>exact .inr ⟨by rw [show (PP _ !=PP _)=abA from rfl,ww,au rfl];rfl,rfl⟩
 |cons x l=>grind
theorem RP (k:bH):jx k ig=aby abA\/(jx k ig=aby abz/\k=ig):=by
 obtain ⟨c,u⟩:=k;unfold jx ig;rcases By c with e|⟨e,rfl⟩
 · rw [e];exact .inl rfl
 simp_all [GC]
def HG (t:Int×Int):Prop:=bu t/\ -1073741824<=t.1/\t.1<=1073741824/\t.2<=1024
theorem Pf {t:Int×Int} (h:jb t): ∃e,rA t=aby e/\(e=0->HG t):=by
 unfold rA;rw [s6 h]
 by_cases r:bu t
 case neg=>simp_all
 rw [AC r,ai,aY rfl,ww]
 by_cases a:1073741824<t.1
 · simp_all
 rw [az a,ww]
 by_cases b:t.1< -1073741824
 · simp_all
 rw [az b,ww]
 by_cases d:1024<t.2
 · simp_all
 rw [az d];exact ⟨0,rfl,fun _=>⟨r,by omega,by omega,by omega⟩⟩
theorem aa4 {t:Int×Int} (h:jb t) (r:bu t):nq t=aby 2\/(nq t=aby 0/\HG t):=by
 unfold nq;rw [bQ h,AC r,ai,aY rfl,ww,nK h.1,ai]
 by_cases a:1073741824<(t.1.natAbs:Int)
 · grind
 rw [az a,ww]
 by_cases d:1024<t.2
 · grind
 rw [az d];exact .inr ⟨rfl,r,by omega,by omega,by omega⟩
theorem RQ {t:Int×Int} (h:jb t) (a:HG t):nq t=aby 0:=by unfold nq;obtain ⟨r,a1,a2,a3⟩:=a;rw [bQ h,AC r,ai,aY rfl,ww,nK h.1,ai,az (by omega),ww,az (by omega)];rfl
theorem GD (c:aH): ∃b,iS c=aby b:=by
 unfold iS;cases (c.ii.1==0)&&(c.ii.2==0) with
 |false=>simp
 |true=>
  cases c.af.aU==0 with
  |false=>simp
  |true=>simp
abbrev iH:bE:=⟨cS,[]⟩
theorem Xx (k:bE):ju k iH=aby abA\/(ju k iH=aby abz/\k=iH):=by
 obtain ⟨c,u⟩:=k;unfold ju iH;rcases By c with e|⟨e,rfl⟩
 · rw [e];exact .inl rfl
 simp_all [GC]
inductive VC:Choice->aH->Prop
 |hp {k:bE} (ok:jP k) (a:HG k.kw.ii):VC ⟨1,k,iG,jD,ig⟩ k.kw
 |tn {k:bN} (ok:tu k) (a:HG k.kw.ii):VC ⟨2,iH,k,jD,ig⟩ k.kw
 |ht {k:bC} (ok:gH k) (a:HG k.kw.ii):VC ⟨3,iH,iG,k,ig⟩ k.kw
 |hg {k:bH} (ok:gJ k) (a:HG k.kw.ii):VC ⟨4,iH,iG,jD,k⟩ k.kw
theorem tu.sh {k:bN} (ok:tu k):Bx k:=by have:=ok.br.gU;have h:=(fu (f:=k.kw.io.am) (t:=k.kw.ii) ok.br.one).1;refine ⟨ok.fw.short,by omega,?_⟩;rw [ok.right];omega
theorem gH.sh {k:bC} (ok:gH k):OT k:=⟨ok.fw.short,by have:=ok.pp.len;have:=ok.fw.eM.1;omega⟩
theorem gJ.sh {k:bH} (ok:gJ k):O4 k:=⟨ok.fw.short,by rw [<- ok.up,Gt];have:=ok.fw.eM.1;omega⟩
theorem jP.IE {k:bE} (ok:jP k):jU k=aby 0/\rp k=aby 0:=by have:=ok.bd;rw [ph ok.fw.fit (by omega),CZ ok.fw.fit (by omega),AC ok];simp
theorem tu.IE {k:bN} (ok:tu k):fZ k=aby 0/\rq k=aby 0:=by rw [v8 ok.fw.fit ok.sh.p ok.sh.w,C8 ok.fw.fit ok.sh.p ok.sh.w,AC ok];simp
theorem gH.IE {k:bC} (ok:gH k):iL k=aby 0/\ry k=aby 0:=by rw [oa ok.fw.fit,C3 ok.fw.fit,AC ok];simp
theorem gJ.IE {k:bH} (ok:gJ k):iM k=aby 0/\rz k=aby 0:=by rw [ob ok.fw.fit,C6 ok.fw.fit,AC ok];simp
theorem Pg {t:Int×Int} (h:jb t) (a:HG t):rA t=aby 0:=by unfold rA;obtain ⟨r,a1,a2,a3⟩:=a;rw [s6 h,AC r,ai,aY rfl,ww,az (by omega),ww,az (by omega),ww,az (by omega)];rfl
theorem Ns:ju iH qK.bv=aby abz/\jv iG qK.gC=aby abz/\jw jD qK.dU=aby abz/\jx ig qK.cH=aby abz:=
 ⟨M7 vf (ab3 _),Lr L9,Is ⟨vf,ab3 _⟩,Ix ⟨vf,ab3 _⟩⟩
theorem ahu {c:Choice} {q:aH} (n:jb q.ii) (a:HG q.ii) (hc:sV c=aby q):ckE c 0=aby (.done 0):=by unfold ckE;rw [aY rfl,ww,hc,ai,RQ n a];rfl
theorem ahv {c:Choice} {q:aH} (n:jb q.ii) (a:HG q.ii) (hc:nm c=aby q):WA c 0=aby 0:=by unfold WA;rw [aY rfl,ww,hc,ai,Pg n a];rfl
section
variable {c : Choice} {q : aH} (v : VC c q)
include v
theorem VC.fw:aQ q:=by cases v with|hp ok|tn ok|ht ok|hg ok=>exact ok.fw
theorem VC.ask:HG q.ii:=by cases v with|hp ok a|tn ok a|ht ok a|hg ok a=>exact a
theorem VC.kw:sV c=aby q/\nm c=aby q:=by cases v<;>exact ⟨rfl,rfl⟩
theorem VC.IE:nG c=aby 0:=by
 have e:=ahu v.fw.dw v.ask v.kw.1;cases v with
 | @hp k ok a=>
  have loop: ∀u,aq dR (u,abA,abA,abA,0,cZ (⟨1,k,iG,jD,ig⟩:Choice) [])=aby 0:=fun u=>by rw [aJ (show dR _=aby (.next (u,abA,abA,abA,1,cZ (⟨1,k,iG,jD,ig⟩:Choice) [])) by cases u<;>rfl),aJ (rfl),aJ (rfl),aJ (rfl)];refine au ?_;show (jU k).bind (fun n=>ckE ⟨1,k,iG,jD,ig⟩ n)=_;rw [ok.IE.1];exact e
  obtain ⟨z,hz⟩:=GD k.kw;show (iS k.kw).bind _=_;rw [hz];cases z<;>exact loop _
 | @tn k ok a=>
  have loop: ∀u,aq dR (abA,u,abA,abA,0,cZ (⟨2,iH,k,jD,ig⟩:Choice) [])=aby 0:=fun u=>by rw [aJ (rfl),aJ (show dR _=aby (.next (abA,u,abA,abA,2,cZ (⟨2,iH,k,jD,ig⟩:Choice) [])) by cases u<;>rfl),aJ (rfl),aJ (rfl)];refine au ?_;show (fZ k).bind (fun n=>ckE ⟨2,iH,k,jD,ig⟩ n)=_;rw [ok.IE.1];exact e
  obtain ⟨z,hz⟩:=GD k.kw;show (iS k.kw).bind _=_;rw [hz];cases z<;>exact loop _
 | @ht k ok a=>
  have loop: ∀u,aq dR (abA,abA,u,abA,0,cZ (⟨3,iH,iG,k,ig⟩:Choice) [])=aby 0:=fun u=>by rw [aJ (rfl),aJ (rfl),aJ (show dR _=aby (.next (abA,abA,u,abA,3,cZ (⟨3,iH,iG,k,ig⟩:Choice) [])) by cases u<;>rfl),aJ (rfl)];refine au ?_;show (iL k).bind (fun n=>ckE ⟨3,iH,iG,k,ig⟩ n)=_;rw [ok.IE.1];exact e
  obtain ⟨z,hz⟩:=GD k.kw;show (iS k.kw).bind (fun z=>bif !z then ck4 ⟨3,iH,iG,k,ig⟩ abA abA abz else bif k.pp.ls !=0 then ck4 ⟨3,iH,iG,k,ig⟩ abA abA abz else ck4 ⟨3,iH,iG,k,ig⟩ abA abA _)=_;rw [hz,ai];have l4: ∀u,ck4 ⟨3,iH,iG,k,ig⟩ abA abA u=aby 0:=fun u=>loop u
  rw [l4,l4];simp
 | @hg k ok a=>
  have loop: ∀u,aq dR (abA,abA,abA,u,0,cZ (⟨4,iH,iG,jD,k⟩:Choice) k.up)=aby 0:=fun u=>by rw [aJ (rfl),aJ (rfl),aJ (rfl),aJ (show dR _=aby (.next (abA,abA,abA,u,4,cZ (⟨4,iH,iG,jD,k⟩:Choice) k.up)) by cases u<;>rfl)];refine au ?_;show (iM k).bind (fun n=>ckE ⟨4,iH,iG,jD,k⟩ n)=_;rw [ok.IE.1];exact e
  obtain ⟨z,hz⟩:=GD k.kw;show (iS k.kw).bind (fun z=>bif !z then aq dR (abA,abA,abA,abz,0,cZ (⟨4,iH,iG,jD,k⟩:Choice) k.up) else aq dR (abA,abA,abA,abC (0<(PP (abw k.up))),0,cZ (⟨4,iH,iG,jD,k⟩:Choice) k.up))=_;rw [hz,ai,loop,loop];cases z<;>rfl
theorem VC.amg:gD c=aby 0:=by
 have e:=ahv v.fw.dw v.ask v.kw.2;obtain ⟨s0,s1,s2,s3⟩:=Ns;unfold gD rc2 rc3 rc4 rc5;cases v with
 |hp ok=>simp [s1,s2,s3,ok.IE.2,];exact e
 |tn ok=>simp [s0,s2,s3,ok.IE.2,];exact e
 |ht ok=>simp [s0,s1,s3,ok.IE.2,];exact e
 |hg ok=>simp [s0,s1,s2,ok.IE.2,];exact e
theorem VC.ii:xG c=aby (q.ii,⟨q.io.am⟩,0):=by have:=v.fw.eM.1;unfold xG;rw [v.IE,ai,aY rfl,ww,v.kw.1,ai,cj (by omega),ai]
theorem VC.am:kK c=aby ((abw q.io.am):Int):=by unfold kK;rw [v.ii,ai];rfl
theorem VC.next:nJ c=aby q.af.aU:=by have n0:=v.fw.uw.n0;have n1:=v.fw.uw.n1;have w:=eD (n:=q.af.aU) ⟨by omega,by omega⟩;unfold nJ;cases v<;>simp [w,show aa .i64 0=0 from rfl]
theorem VC.same:Bd c c=aby abz:=by
 obtain ⟨s0,s1,s2,s3⟩:=Ns;have s0:ju iH iH=_:=s0;have s1:jv iG iG=_:=s1;have s2:jw jD jD=_:=s2;have s3:jx ig ig=_:=s3;unfold Bd;cases v with
 |hp ok=>rw [M7 ok.fw.short (by have:=ok.bd;omega),ai,v6,s1,ai,v6,s2,ai,v6,s3];rfl
 |tn ok=>rw [s0,ai,v6,Lr ok.sh,ai,v6,s2,ai,v6,s3];rfl
 |ht ok=>rw [s0,ai,v6,s1,ai,v6,Is ok.sh,ai,v6,s3];rfl
 |hg ok=>rw [s0,ai,v6,s1,ai,v6,s2,ai,v6,Ix ok.sh];rfl
end
theorem aa5 {c:Choice} (n1:BW c.bv.kw) (n2:BW c.gC.kw) (n3:BW c.dU.kw) (n4:BW c.cH.kw) (h1:BJ c.bv.kw/\abw c.bv.bv<=70) (h2:Bx c.gC) (h3:OT c.dU) (h4:O4 c.cH):
 gD c=aby 8\/ ∃q,VC c q:=by
 obtain ⟨ut,K,T,H,G⟩:=c;have fit: ∀{x:aH},BW x->BJ x->mY x:=fun n sh=>⟨n.ii,⟨sh.s3,sh.h,sh.w,n.OD⟩,sh.d⟩
 have six: ∀{c:Choice} {q:aH},jb q.ii->nm c=aby q->WA c 8=aby 8/\(WA c 0=aby 8\/HG q.ii):=fun {c q} n hc=>by
  refine ⟨rfl,?_⟩;obtain ⟨e,e1,e2⟩:=Pf n;unfold WA;rw [aY rfl,ww,hc,ai,e1,ai]
  by_cases h:e=0
  · exact .inr (e2 h)
  rw [db h];exact .inl rfl
 have k1:ut≠1->gD ⟨ut,K,T,H,G⟩=aby 8\/K=iH/\gD ⟨ut,K,T,H,G⟩=rc2 ⟨ut,K,T,H,G⟩:=fun h=>by
  unfold gD;rw [db h,v6];rcases Xx K with e|⟨e,rfl⟩
  · left;rw [show ju _ qK.bv=_ from e];rfl
  right;rw [show ju _ qK.bv=_ from e];exact ⟨rfl,rfl⟩
 have k2:ut≠2->rc2 ⟨ut,K,T,H,G⟩=aby 8\/T=iG/\rc2 ⟨ut,K,T,H,G⟩=rc3 ⟨ut,K,T,H,G⟩:=fun h=>by
  unfold rc2;rw [db h,v6];rcases TX T with e|⟨e,rfl⟩
  · left;rw [show jv _ qK.gC=_ from e];rfl
  right;rw [show jv _ qK.gC=_ from e];exact ⟨rfl,rfl⟩
 have k3:ut≠3->rc3 ⟨ut,K,T,H,G⟩=aby 8\/H=jD/\rc3 ⟨ut,K,T,H,G⟩=rc4 ⟨ut,K,T,H,G⟩:=fun h=>by
  unfold rc3;rw [db h,v6];rcases RO H with e|⟨e,rfl⟩
  · left;rw [show jw _ qK.dU=_ from e];rfl
  right;rw [show jw _ qK.dU=_ from e];exact ⟨rfl,rfl⟩
 have k4:ut≠4->rc4 ⟨ut,K,T,H,G⟩=aby 8\/G=ig/\rc4 ⟨ut,K,T,H,G⟩=rc5 ⟨ut,K,T,H,G⟩:=fun h=>by
  unfold rc4;rw [db h,v6];rcases RP G with e|⟨e,rfl⟩
  · left;rw [show jx _ qK.cH=_ from e];rfl
  right;rw [show jx _ qK.cH=_ from e];exact ⟨rfl,rfl⟩
 by_cases t1:ut=1
 · subst t1
   rcases k2 (by decide) with e|⟨rfl,e2⟩
   · exact .inl e
   rcases k3 (by decide) with e|⟨rfl,e3⟩
   · exact .inl (e2.trans e)
   rcases k4 (by decide) with e|⟨rfl,e4⟩
   · exact .inl (e2.trans (e3.trans e))
   have e0:gD ⟨1,K,iG,jD,ig⟩=(rp K).bind fun n=>WA ⟨1,K,iG,jD,ig⟩ n:=e2.trans (e3.trans e4)
   rw [e0,CZ (fit n1 h1.1) (by omega),ai];obtain ⟨s1,s2⟩:=six (c:=⟨1,K,iG,jD,ig⟩) n1.ii rfl
   by_cases ok:jP K
   · rw [AC ok];exact s2.imp id fun a=>⟨_,.hp ok a⟩
   rw [Do ok];exact .inl s1
 rcases k1 t1 with e|⟨rfl,e1⟩
 · exact .inl e
 by_cases t2:ut=2
 · subst t2
   rcases k3 (by decide) with e|⟨rfl,e3⟩
   · exact .inl (e1.trans e)
   rcases k4 (by decide) with e|⟨rfl,e4⟩
   · exact .inl (e1.trans (e3.trans e))
   have e0:gD ⟨2,iH,T,jD,ig⟩=(rq T).bind fun n=>WA ⟨2,iH,T,jD,ig⟩ n:=e1.trans (e3.trans e4)
   rw [e0,C8 (fit n2 h2.c) h2.p h2.w,ai];obtain ⟨s1,s2⟩:=six (c:=⟨2,iH,T,jD,ig⟩) n2.ii rfl
   by_cases ok:tu T
   · rw [AC ok];exact s2.imp id fun a=>⟨_,.tn ok a⟩
   rw [Do ok];exact .inl s1
 rcases k2 t2 with e|⟨rfl,e2⟩
 · exact .inl (e1.trans e)
 by_cases t3:ut=3
 · subst t3
   rcases k4 (by decide) with e|⟨rfl,e4⟩
   · exact .inl (e1.trans (e2.trans e))
   have e0:gD ⟨3,iH,iG,H,ig⟩=(ry H).bind fun n=>WA ⟨3,iH,iG,H,ig⟩ n:=e1.trans (e2.trans e4)
   rw [e0,C3 (fit n3 h3.c),ai];obtain ⟨s1,s2⟩:=six (c:=⟨3,iH,iG,H,ig⟩) n3.ii rfl
   by_cases ok:gH H
   · rw [AC ok];exact s2.imp id fun a=>⟨_,.ht ok a⟩
   rw [Do ok];exact .inl s1
 rcases k3 t3 with e|⟨rfl,e3⟩
 · exact .inl (e1.trans (e2.trans e))
 by_cases t4:ut=4
 · subst t4
   have e0:gD ⟨4,iH,iG,jD,G⟩=(rz G).bind fun n=>WA ⟨4,iH,iG,jD,G⟩ n:=e1.trans (e2.trans e3)
   rw [e0,C6 (fit n4 h4.c),ai];obtain ⟨s1,s2⟩:=six (c:=⟨4,iH,iG,jD,G⟩) n4.ii rfl
   by_cases ok:gJ G
   · rw [AC ok];exact s2.imp id fun a=>⟨_,.hg ok a⟩
   rw [Do ok];exact .inl s1
 rcases k4 t4 with e|⟨rfl,e4⟩
 · exact .inl (e1.trans (e2.trans (e3.trans e)))
 left;rw [e1,e2,e3,e4];unfold rc5
 grind
theorem Ph {c:aH} (ok:aQ c) (ld: ∀e∈c.af.ce.map fun x=>x.2,leads (bm c.io.am e.2) (bm c.io.am e.1) c.ii): ¬BZ c c.ii:=fun jp=>by obtain ⟨x,c1,_,_,_,_,_,s1,s2⟩:=Rr ok ld ok.hZ ok.dw (Nj (Int.le_refl _)) jp;omega
theorem adJ {to:Int×Int} (rt:bu to) (eR:jb to): ∀(d:Nat) (c:aH) (l:List Int) (out:List _),1000000-iZ c<(d:Int)->W9 c l-> ¬gE to c.ii<0->((abw out):Int)<=iZ c+200->
 ∃X:bE×List _×Int,Xa to c l out=aby X/\(X.2.2=18\/X.2.2=0/\W6 X.1 c.io.am to)/\(¬BZ c to->X=(⟨Pu c to,l⟩,out,0)):=by
 intro d
 induction d with
 |zero=>intro c l out hd h;have:=(tj h.ok).2;omega
 |succ d ih=>
  intro c l out hd h le ho
  by_cases jp:BZ c to
  · rcases Xd h rt eR le jp with ⟨x,c2,l2,e1,e2,e3,e4,e5,e6⟩|⟨x,l2,e1⟩
    · obtain ⟨X,x1,x2,_⟩:=ih c2 l2 (out++[x]) (by omega) e2 e5 (by rw [IR,If];omega)
      grind [adq]
    exact ⟨_,aaI _ e1,.inl rfl,fun h=>absurd jp h⟩
  exact ⟨_,step_end h.ok (by have:=h.bd;omega) rt eR le jp out,.inr ⟨rfl,ads h rt eR le jp,rfl,rfl⟩,fun _=>rfl⟩
theorem lX {α:Type} {f:Option _} {mk:α->Choice} {R:α×Int} (hf:f=aby R) (h:R.2≠0\/R.2=0/\ ∃q,VC (mk R.1) q):
 ∃S:Choice×Int,(f.bind fun a=>(fk (mk a.1) a.2).bind fun b=>aby b)=aby S/\(S.2≠0\/S.2=0/\ ∃q,VC S.1 q):=by
 rw [hf,ai];unfold fk;rcases h with h|⟨h,q⟩
 · rw [db h];exact ⟨_,rfl,.inl h⟩
 simp_all
theorem yS {α:Type} {f:Option _} (mk:α->Choice) {R:α×List _×Int} {p:Prop} {z:α} (hf:f=aby R) (h:R.2.2≠0\/R.2.2=0/\ ∃q,VC (mk R.1) q) (hz:p->R=(z,[],0)):
 ∃S:Choice×List (Int×Int)×Int,(f.bind fun a=>bif a.2.2 !=0 then aby (qK,[],a.2.2) else aby (mk a.1,a.2.1,0))=aby S/\(S.2.2≠0\/S.2.2=0/\ ∃q,VC S.1 q)/\(p->S=(mk z,[],0)):=by
 rw [hf,ai];rcases h with h|⟨h,q⟩
 · rw [db h];exact ⟨_,rfl,.inl h,fun k=>absurd (by rw [hz k]) h⟩
 simp_all
theorem TY {k:bH} (a:HG k.kw.ii) {r:Field×Int} {R:bH×Int} (h:EdR k.kw.ii r R):R.2≠0\/R.2=0/\ ∃q,VC ⟨4,iH,iG,jD,R.1⟩ q:=by
 rcases h with ⟨h,e⟩|⟨_,_,⟨h,q⟩|e⟩
 · rw [e];exact .inl h
 · exact .inr ⟨h,_,.hg q.ok (by rw [q.ii];exact a)⟩
 grind
section
variable {c : Choice} {q : aH} (v : VC c q)
include v
theorem VC.put (p:Pt): ∃S:Choice×Int,Bb c p=aby S/\(S.2≠0\/S.2=0/\ ∃q,VC S.1 q):=by
 unfold Bb;rw [v.IE,ai,aY rfl,ww];cases v with
 | @hp k ok a=>
  rcases aaD ok p with ⟨e,e0,_,e2⟩|⟨m,_,_,_,_,_,R,r1,r2⟩
  · exact lX (mk:=fun k=>⟨1,k,iG,jD,ig⟩) e2 (.inl e0)
  exact lX (mk:=fun k=>⟨1,k,iG,jD,ig⟩) r1 (r2.imp (fun h=>by rw [h];decide) fun ⟨h,q⟩=>⟨h,_,.hp q.ok (by rw [q.ii];exact a)⟩)
 | @tn k ok a=>
  rcases aa1 ok ok.sh p with ⟨e,e0,_,e2⟩|⟨m,q,_,_,_,_,bc,_,pl,pw,pm,fin⟩
  · exact lX (mk:=fun k=>⟨2,iH,k,jD,ig⟩) e2 (.inl e0)
  obtain ⟨R,r1,r2⟩:=Lu ok.fw bc pl pw pm
  exact lX (mk:=fun k=>⟨2,iH,k,jD,ig⟩) (fin R r1) (r2.imp (fun h=>by rw [h];decide) fun ⟨h,q⟩=>⟨h,_,.tn q.ok (by rw [q.ii];exact a)⟩)
 | @ht k ok a=>
  rcases aaC ok p with ⟨e,e0,_,e2⟩|⟨m,_,_,_,_,_,R,r1,r2⟩
  · exact lX (mk:=fun k=>⟨3,iH,iG,k,ig⟩) e2 (.inl e0)
  exact lX (mk:=fun k=>⟨3,iH,iG,k,ig⟩) r1 (r2.imp (fun h=>by rw [h];decide) fun ⟨h,q⟩=>⟨h,_,.ht q.ok (by rw [q.ii];exact a)⟩)
 | @hg k ok a=>obtain ⟨r,R,_,r1,r2⟩:=aa2 ok p;exact lX r1 (TY a r2)
theorem VC.take (id:Int): ∃S:Choice×Int,yH c id=aby S/\(S.2≠0\/S.2=0/\ ∃q,VC S.1 q):=by
 unfold yH;rw [v.IE,ai,aY rfl,ww];cases v with
 | @hp k ok a=>
  rcases W7 ok id with ⟨_,_,e2⟩|⟨m,_,_,_,R,r1,r2⟩
  · exact lX (mk:=fun k=>⟨1,k,iG,jD,ig⟩) e2 (.inl (by decide))
  exact lX (mk:=fun k=>⟨1,k,iG,jD,ig⟩) r1 (r2.imp (fun h=>by rw [h];decide) fun ⟨h,q⟩=>⟨h,_,.hp q.ok (by rw [q.ii];exact a)⟩)
 | @tn k ok a=>
  rcases Xu ok ok.sh id with ⟨_,_,e2⟩|⟨m,j,_,_,_,_,_,_,bc,pl,pw,pm,_,fin⟩
  · exact lX (mk:=fun k=>⟨2,iH,k,jD,ig⟩) e2 (.inl (by decide))
  obtain ⟨R,r1,r2⟩:=Lu ok.fw bc pl pw pm
  exact lX (mk:=fun k=>⟨2,iH,k,jD,ig⟩) (fin R r1) (r2.imp (fun h=>by rw [h];decide) fun ⟨h,q⟩=>⟨h,_,.tn q.ok (by rw [q.ii];exact a)⟩)
 | @ht k ok a=>
  rcases W5 ok id with ⟨_,_,e2⟩|⟨m,_,_,_,R,r1,r2⟩
  · exact lX (mk:=fun k=>⟨3,iH,iG,k,ig⟩) e2 (.inl (by decide))
  exact lX (mk:=fun k=>⟨3,iH,iG,k,ig⟩) r1 (r2.imp (fun h=>by rw [h];decide) fun ⟨h,q⟩=>⟨h,_,.ht q.ok (by rw [q.ii];exact a)⟩)
 | @hg k ok a=>obtain ⟨r,R,_,r1,r2⟩:=Xv ok id;exact lX r1 (TY a r2)
theorem VC.change (p:Pt): ∃S:Choice×Int,u6 c p=aby S/\(S.2≠0\/S.2=0/\ ∃q,VC S.1 q):=by
 unfold u6;rw [v.IE,ai,aY rfl,ww];cases v with
 | @hp k ok a=>
  rcases Rp ok p with ⟨e,e0,_,e2⟩|⟨m,_,_,_,_,R,r1,r2,_⟩
  · exact lX (mk:=fun k=>⟨1,k,iG,jD,ig⟩) e2 (.inl e0)
  exact lX (mk:=fun k=>⟨1,k,iG,jD,ig⟩) r1 (r2.imp (fun h=>by rw [h];decide) fun ⟨h,q⟩=>⟨h,_,.hp q.ok (by rw [q.ii];exact a)⟩)
 | @tn k ok a=>
  rcases RK ok ok.sh p with ⟨e,e0,_,e2⟩|⟨m,_,_,_,_,bc,pl,pm,fin⟩
  · exact lX (mk:=fun k=>⟨2,iH,k,jD,ig⟩) e2 (.inl e0)
  obtain ⟨R,r1,r2⟩:=Lu ok.fw bc pl ok.pow pm
  exact lX (mk:=fun k=>⟨2,iH,k,jD,ig⟩) (fin R r1) (r2.imp (fun h=>by rw [h];decide) fun ⟨h,q⟩=>⟨h,_,.tn q.ok (by rw [q.ii];exact a)⟩)
 | @ht k ok a=>
  rcases Ro ok p with ⟨e,e0,_,e2⟩|⟨m,_,_,_,_,R,r1,r2,_⟩
  · exact lX (mk:=fun k=>⟨3,iH,iG,k,ig⟩) e2 (.inl e0)
  exact lX (mk:=fun k=>⟨3,iH,iG,k,ig⟩) r1 (r2.imp (fun h=>by rw [h];decide) fun ⟨h,q⟩=>⟨h,_,.ht q.ok (by rw [q.ii];exact a)⟩)
 | @hg k ok a=>obtain ⟨r,R,_,r1,r2⟩:=RM ok p;exact lX r1 (TY a r2)
theorem VC.adv {to:Int×Int} (eR:jb to): ∃S:Choice×List _×Int,o5 c to=aby S/\(S.2.2≠0\/S.2.2=0/\ ∃q,VC S.1 q)/\(to=q.ii->S=(c,[],0)):=by
 have fw:=v.fw;have ask:=v.ask;unfold o5;rw [v.IE,ai,aY rfl,ww,bQ eR,ai]
 by_cases rt:bu to
 case neg=>rw [Do rt];exact ⟨_,rfl,.inl (by decide),fun h=>absurd (by rw [h];exact fw.hZ) rt⟩
 rw [AC rt,aY rfl,ww];rcases aa4 eR rt with e|⟨e,at_⟩
 · rw [e];exact ⟨_,rfl,.inl (by decide),fun h=>by grind [RQ]⟩
 rw [e,ai,aY rfl,ww];have adK:gE to q.ii<0->to≠q.ii:=fun h k=>by simp_all [Nj,]
 cases v with
 | @hp k ok a=>
  by_cases le:gE to k.kw.ii<0
  · refine yS (fun k=>⟨1,k,iG,jD,ig⟩) (R:=(iH,[],44)) ?_ (.inl (by decide)) (fun h=>absurd h (adK le))
    unfold qi;rw [ok.IE.1,ai,aY rfl,ww,bQ eR,AC rt,ai,aY rfl,ww,vX eR fw.dw,AC ⟨rt,fw.hZ⟩,ai,ay le];rfl
  have rb:=tj ok.fw
  obtain ⟨X,x1,x2,x3⟩:=adJ rt eR (1000001-iZ k.kw).toNat k.kw k.bv [] (by omega) ⟨ok.fw,ok.perm,ok.cert⟩ le (by simp;omega);refine yS (fun k=>⟨1,k,iG,jD,ig⟩) ((Rq ⟨fw.dw,fw.fit.ag.OD⟩ fw.short (by have:=ok.bd;omega) ok rt eR le).trans x1) (x2.imp (fun h=>by rw [h];decide) fun ⟨h,q⟩=>⟨h,_,.hp q.ok (by rw [q.ii];exact at_)⟩) (fun h=>?_);rw [x3 (by rw [h];exact Ph fw fun e he=>ok.lead e (ok.cert.mem_iff.1 he)),h]
 | @tn k ok a=>
  have pl:=xU ok.br ok.perm
  by_cases le:gE to k.kw.ii<0
  · refine yS (fun k=>⟨2,iH,k,jD,ig⟩) (R:=(iG,[],44)) ?_ (.inl (by decide)) (fun h=>absurd h (adK le))
    unfold oZ;rw [ok.IE.1,ai,aY rfl,ww,bQ eR,AC rt,ai,aY rfl,ww,vX eR fw.dw,AC ⟨rt,fw.hZ⟩,ai,ay le];rfl
  obtain ⟨X,x1,x2,x3⟩:=amd ok ok.sh rt eR le
  refine yS (fun k=>⟨2,iH,k,jD,ig⟩) x1 (x2.imp (fun h=>by rw [h];decide) ?_) (fun h=>?_)
  · rintro ⟨h,q⟩
    refine ⟨h,_,.tn ⟨q.fw,?_,?_,?_,?_,?_⟩ (by rw [q.ii];exact at_)⟩<;>rw [q.br]
    · exact RJ fw.eM pl
    · exact ok.pow
    · rw [q.eM];exact ok.perm
    · rw [q.eM,q.ii]
    exact q.cert
  rw [x3 (by rw [h];exact Ph fw fun e he=>Iy fw.eM pl (by rw [<- ok.right];exact ok.cert.mem_iff.1 he)),h]
 | @ht k ok a=>
  by_cases le:gE to k.kw.ii<0
  · refine yS (fun k=>⟨3,iH,iG,k,ig⟩) (R:=(jD,[],44)) ?_ (.inl (by decide)) (fun h=>absurd h (adK le))
    unfold o3;rw [ok.IE.1,ai,aY rfl,ww,bQ eR,AC rt,ai,aY rfl,ww,vX eR fw.dw,AC ⟨rt,fw.hZ⟩,ai,ay le];rfl
  obtain ⟨X,x1,x2,x3⟩:=Fc ok rt eR le
  refine yS (fun k=>⟨3,iH,iG,k,ig⟩) x1 (x2.imp (fun h=>by rw [h];decide) fun ⟨h,q⟩=>⟨h,_,.ht q.ok (by rw [q.ii];exact at_)⟩) (fun h=>?_);rw [x3 (by rw [h];exact Ph fw fun e he=>(ok.pp.Nc fw.eM).2.2 e (ok.cert.mem_iff.1 he)),h]
 | @hg k ok a=>
  by_cases le:gE to k.kw.ii<0
  · refine yS (fun k=>⟨4,iH,iG,jD,k⟩) (R:=(ig,[],44)) ?_ (.inl (by decide)) (fun h=>absurd h (adK le))
    unfold o4;rw [ok.IE.1,ai,aY rfl,ww,bQ eR,AC rt,ai,aY rfl,ww,vX eR fw.dw,AC ⟨rt,fw.hZ⟩,ai,ay le];rfl
  obtain ⟨X,x1,x2,x3⟩:=Ff ok rt eR le
  refine yS (fun k=>⟨4,iH,iG,jD,k⟩) x1 (x2.imp (fun h=>by rw [h];decide) fun ⟨h,q⟩=>⟨h,_,.hg q.ok (by rw [q.ii];exact at_)⟩) (fun h=>?_);rw [x3 (by rw [h];exact Ph fw fun e he=>(Ag fw.eM).2.2 e (by rw [ok.up];exact ok.cert.mem_iff.1 he)),h]
theorem VC.step (a:Int×Int×Int×Int×Int×Int×Int) (eR:jb a.2.2.2.2.2): ∃S:Choice×List _×Int,lK c a=aby S/\(S.2.2≠0\/S.2.2=0/\ ∃q,VC S.1 q):=by
 unfold lK;cases a.1==1 with
 |true=>obtain ⟨S,s1,s2⟩:=v.put (a.2.1,a.2.2.1,a.2.2.2.1);simp_all
 |false=>
 cases a.1==2 with
 |true=>obtain ⟨S,s1,s2⟩:=v.take a.2.2.2.2.1;simp_all
 |false=>
 cases a.1==3 with
 |true=>obtain ⟨S,s1,s2⟩:=v.change (a.2.1,a.2.2.1,a.2.2.2.1);simp_all
 |false=>
 cases a.1==4 with
 |true=>obtain ⟨S,s1,s2,_⟩:=v.adv eR;grind
 |false=>simp
end
abbrev TZ:=Int×Int×Int×Int×Int×Int×Int
abbrev GoT:=Choice×Int×Int
noncomputable def IS (c:Choice):Int:=(kK c).getD 0
noncomputable def IT (s:GoT) (a:TZ):GoT:=
 match lK s.1 a with
 |some S=>if S.2.2=0 then (S.1,aa .i64 (s.2.1+PP (abw S.2.1)),if IS S.1>s.2.2 then IS S.1 else s.2.2) else s
 |none=>s
theorem wrap_add (a b:Int):aa .i64 (aa .i64 a+b)=aa .i64 (a+b):=by grind [wi]
theorem Vn (a:Int):zX (aa .i64 a):=by grind [wi]
theorem Pj : ∀ (l : List TZ) (o : Choice), ∃ (o' : Choice) (k m : Int), ∀ e p, zX e -> 0 <= p -> l.foldl IT (o, e, p) = (o', aa .i64 (e + k), if m > p then m else p)
  | [], o => ⟨o, 0, 0, fun e p h hp => by rw [Int.add_zero, eD h, Do (by omega)]; rfl⟩
  | a :: l, o => by
    by_cases h : ∃ S, lK o a = aby S /\ S.2.2 = 0
    · obtain ⟨S, s1, s2⟩ := h
      obtain ⟨o', k, m, ih⟩ := Pj l S.1
      refine ⟨o', PP (abw S.2.1) + k, if m > IS S.1 then m else IS S.1, fun e p h hp => ?_⟩
      have g : IT (o, e, p) a = (S.1, aa .i64 (e + PP (abw S.2.1)), if IS S.1 > p then IS S.1 else p) := by unfold IT; grind
      rw [abo, g, ih _ _ (Vn _) (by split <;> omega), wrap_add, Int.add_assoc]
      refine Prod.ext rfl (Prod.ext rfl ?_)
      grind
    obtain ⟨o', k, m, ih⟩ := Pj l o
    refine ⟨o', k, m, fun e p h' hp => ?_⟩
    have g : IT (o, e, p) a = (o, e, p) := by
      unfold IT
      dsimp only
      cases hs : lK o a with
      | none => rfl
      | some S => dsimp only; rw [Do (fun q => h ⟨S, hs, q⟩)]
    grind
abbrev rS (l:List TZ) (i:Int) (c:Choice) (s:GoT):rnT:=(l,PP (abw l),i,cZ c (c.cH.up,0,0,0,0,0,0,0,0,0,0,0,0,0,0,0,0,0,cZ s.1 (s.1.cH.up,s.2.1,0,s.2.2)))
theorem aa6 (l:List TZ) (i:Int) (c:Choice) (s:GoT):o9 (rS l i c s)=
 bif abC (i<PP (abw l)) then (aD l i).bind fun a0=>(lK s.1 a0).bind fun a1=>bif a1.2.2 !=0 then aby (.next (rS l (aa .i64 (i+1)) c s)) else
  (kK a1.1).bind fun n2=>aby (.next (rS l (aa .i64 (i+1)) c (a1.1,aa .i64 (s.2.1+PP (abw a1.2.1)),if n2>s.2.2 then n2 else s.2.2)))
 else (nJ s.1).bind fun n3=>(nJ c).bind fun n4=>aby (.done (s.1,(s.2.1,aa .i64 (n3-n4),s.2.2),0)):=rfl
theorem VC.adL {c:Choice} {q:aH} (v:VC c q):IS c=((abw q.io.am):Int):=by unfold IS;rw [v.am];rfl
theorem ahw {c:Choice} {qc:aH} (vc:VC c qc) (l:List TZ) (hl:(abw l)<=120) (hr: ∀a∈l,jb a.2.2.2.2.2): ∀(d i:Nat) (s:GoT) (q:aH),abw l-i<=d->i<=abw l->VC s.1 q->IS s.1<=s.2.2->
 ∃q',VC ((l.drop i).foldl IT s).1 q'/\IS ((l.drop i).foldl IT s).1<=((l.drop i).foldl IT s).2.2/\aq o9 (rS l (i:Int) c s)=aby (((l.drop i).foldl IT s).1,(((l.drop i).foldl IT s).2.1,aa .i64 (q'.af.aU-qc.af.aU),((l.drop i).foldl IT s).2.2),0):=by
 have fin: ∀(s:GoT) (q:aH),VC s.1 q->aq o9 (rS l ((abw l):Int) c s)=aby _:=fun s q v=>au (by rw [aa6,aF,az (by omega),ww,v.next,ai,vc.next,ai])
 intro d
 induction d with
 |zero=>
  intro i s q hd hi v hp;obtain rfl:i=(abw l):=by omega
  rw [abn];exact ⟨q,v,hp,fin s q v⟩
 |succ d ih=>
  intro i s q hd hi v hp
  by_cases he:i=abw l
  · subst he;rw [abn];exact ⟨q,v,hp,fin s q v⟩
  have xk:i<(abw l):=by omega
  obtain ⟨S,s1,s2⟩:=v.step l[i]! (hr _ (aK xk));have dr:l.drop i=l[i]!::l.drop (i+1):=by simp_all
  have st:o9 (rS l (i:Int) c s)=aby (.next (rS l ((i+1:Nat):Int) c (IT s l[i]!)))/\(∃q',VC (IT s l[i]!).1 q')/\IS (IT s l[i]!).1<=(IT s l[i]!).2.2:=by
   rw [aa6,aF,ay (by omega),v6,ar l i xk,ai,s1,ai,aM (by omega)];unfold IT;rw [s1];dsimp only;rcases s2 with h|⟨h,q',v'⟩
   · rw [db h,v6,Do h];exact ⟨rfl,⟨q,v⟩,hp⟩
   rw [aY h,ww,AC h,v'.am,ai,v'.adL];exact ⟨rfl,⟨q',v'⟩,by dsimp only;split<;>omega⟩
  obtain ⟨rO,⟨q',v'⟩,hp'⟩:=st;rw [dr,abo,aJ rO];exact ih _ _ q' (by omega) (by omega) v' hp'
theorem T0 {c:Choice} {q:aH} (v:VC c q) (l:List TZ) (hl:(abw l)<=120) (hr: ∀a∈l,jb a.2.2.2.2.2): ∃q',VC (l.foldl IT (c,0,IS c)).1 q'/\IS (l.foldl IT (c,0,IS c)).1<=(l.foldl IT (c,0,IS c)).2.2/\
 rJ c l=aby ((l.foldl IT (c,0,IS c)).1,((l.foldl IT (c,0,IS c)).2.1,aa .i64 (q'.af.aU-q.af.aU),(l.foldl IT (c,0,IS c)).2.2),0):=by
 obtain ⟨S,a1,_,a3⟩:=v.adv v.fw.dw;obtain ⟨q',v',hp,e⟩:=ahw v l hl hr (abw l) 0 (c,0,IS c) q (by omega) (by omega) v (Int.le_refl _);refine ⟨q',v',hp,?_⟩;unfold rJ;rw [v.ii,ai,aY rfl,ww,aF,az (by omega),ww,a1,ai,a3 rfl,v.am,ai];rw [<- v.adL];exact e
theorem Am (c:Choice) (l:List TZ) (at_:Int) (n1:BW c.bv.kw) (n2:BW c.gC.kw) (n3:BW c.dU.kw) (n4:BW c.cH.kw) (hr: ∀a∈l,jb a.2.2.2.2.2):qN c l at_=aby abz:=by
 unfold qN;have go: ∀(_:8>=abw l) (_:0<=at_) (_:at_<=((abw l):Int)) (q:aH) (_:VC c q),aq (iw c abz l at_) (abA,l,at_,abz,cZ c c.cH.up)=aby abz:=fun h8 a0 a1 q v=>by
  refine au ?_;show lpB c l at_ abz=_;obtain ⟨k,rfl⟩: ∃k:Nat,at_=(k:Int):=⟨at_.toNat,by omega⟩;have sl:=pO l k (by omega);have sr:gW l (k:Int) (PP (abw l))=aby (l.drop k):=by unfold gW;rw [aF,AC ⟨by omega,by omega,by omega⟩];simp [];rw [aaF (by rw [ab1];exact abd _)]
  obtain ⟨q1,v1,_,e1⟩:=T0 v l (by omega) hr;obtain ⟨q2,v2,p2,e2⟩:=T0 v (l.take k) (by rw [aaE];omega) (fun a h=>hr a (List.mem_of_mem_take h));have amh:l.foldl IT (c,0,IS c)=(l.drop k).foldl IT ((l.take k).foldl IT (c,0,IS c)):=by rw [<- List.foldl_append,List.take_append_drop]
  have pn:0<=IS c:=by rw [v.adL];omega
  obtain ⟨y,ky,my,hy⟩:=Pj (l.take k) c;have hy:=hy 0 (IS c) (by unfold zX;omega) pn;rw [hy] at amh v2 p2 e2;obtain ⟨q3,v3,_,e3⟩:=T0 v2 (l.drop k) (by rw [ab1];omega) (fun a h=>hr a (List.mem_of_mem_drop h));obtain ⟨z,kz,mz,hz⟩:=Pj (l.drop k) y;have py:0<=IS y:=by rw [v2.adL];omega
  have hx:=hz _ _ (Vn (0+ky)) (Int.le_trans py p2);have hz:=hz 0 (IS y) (by unfold zX;omega) py;rw [amh,hx] at v1 e1;rw [hz] at v3 e3;obtain rfl:=Option.some.inj (v1.kw.1.symm.trans v3.kw.1);unfold lpB;rw [e1,ai,sl,ai,e2,ai,aY rfl,ww,ww];rw [v2.amg,ai,aY rfl,ww,sr,ai,e3,ai,v6];rw [lL rfl,v6,v1.same,ai,v6];have m1:aa .i64 (q1.af.aU-q.af.aU)=aa .i64 (aa .i64 (q2.af.aU-q.af.aU)+aa .i64 (q1.af.aU-q2.af.aU)):=by simp [wi];omega
  have m2:aa .i64 (aa .i64 (0+ky)+kz)=aa .i64 (aa .i64 (0+ky)+aa .i64 (0+kz)):=by simp [wi];omega
  rw [lL m1,lL m2,abv,abv];refine congrArg (fun b=>aby (Step.done b)) (lL ?_)
  grind
 have st:iw c abz l at_ (abz,l,at_,abz,cZ c c.cH.up)=aby (.done abz)\/(8>=abw l/\0<=at_/\at_<=((abw l):Int)/\(∃q,VC c q)/\iw c abz l at_ (abz,l,at_,abz,cZ c c.cH.up)=aby (.next (abA,l,at_,abz,cZ c c.cH.up))):=by
  unfold iw CG
  dsimp only;rw [v6];rcases Tx c.bv with e|⟨e,h1⟩
  · rw [e];exact .inl rfl
  rw [e,ai,ww];rcases RF c.gC with e|⟨e,h2⟩
  · rw [e];exact .inl rfl
  rw [e,ai,ww];rcases OU c.dU with e|⟨e,h3⟩
  · rw [e];exact .inl rfl
  rw [e,ai,ww];rcases O5 c.cH with e|⟨e,h4⟩
  · rw [e];exact .inl rfl
  rw [e,ai,ai,ww];have fw: ∃q,nm c=aby q:=by unfold nm;cases c.ut==1<;>cases c.ut==2<;>cases c.ut==3<;>exact ⟨_,rfl⟩
  obtain ⟨q,hq⟩:=fw;rw [hq,ai];unfold ES;rw [ai];cases abC (10<PP (abw q.io.am)) with
  |true=>exact .inl rfl
  |false=>
  rw [ww];rcases aa5 n1 n2 n3 n4 h1 h2 h3 h4 with e|⟨q,v⟩
  · rw [e];exact .inl rfl
  rw [v.amg,ai,aY rfl,ww,aF]
  by_cases h:(8:Int)<((abw l):Int)
  · rw [ay h];exact .inl rfl
  rw [az h,ww]
  by_cases ha:at_<0
  · rw [ay ha];exact .inl rfl
  rw [az ha,ww]
  by_cases hb:((abw l):Int)<at_
  · rw [ay hb];exact .inl rfl
  rw [az hb];exact .inr ⟨by omega,by omega,by omega,⟨q,v⟩,rfl⟩
 grind [au,aJ]
theorem BW.of {c:aH} (h1:RT.wf [.i .i64,.i .i64] c.ii) (h2: ∀a∈c.ae.bv,RT.wf [.i .i64,.i .i64,.i .i64,.i .i64,.i .i64] a):BW c where
 ii:=⟨wf_i64 h1.1,wf_i64 h1.2⟩
 OD w hw:=by have:=h2 (c.ae.bv[w]!) (by rw [getElem!_pos c.ae.bv w hw];exact List.getElem_mem hw);exact ⟨wf_i64 this.1,wf_i64 this.2.1⟩
end Go.Proofs.YthljiplggdanpaaGreat
