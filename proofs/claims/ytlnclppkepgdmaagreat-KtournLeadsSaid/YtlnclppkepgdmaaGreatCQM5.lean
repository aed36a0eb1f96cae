/- Plain laws (5). -/
import Derived.Test.YtlnclppkepgdmaaGreatCQM4
import Derived.Test.YtlnclppkepgdmaaGreatCQS2
import Derived.Test.YtlnclppkepgdmaaGreatCVm3
open Nat renaming le_refl->aa,zero_le->ao,div_div_eq_div_mul->ay,pow_succ->bj,not_lt_zero->bz,add_zero->ce,mul_comm->cf,pow_zero->ci
open Bool renaming not_true->ac,not_false->bg,and_self->cd
open List renaming length_singleton->ae,length_map->af,length_take->ai,take_length->aj,length_set->am,length_append->ar,length_eq_zero_iff->au,take_append_of_le_length->az,append_nil->ba,replicate->bi,length_filter_le->bk,getElem_map->bu,filter_nil->bw
open Classical renaming byContradiction->aq,not_not->ax,not_imp->bo
open Int renaming mul_right_comm->be,toNat_natCast->bq,ofNat->bv,not_lt->cb
open List.Perm renaming refl->bn
namespace Go.Proofs.YtlnclppkepgdmaaGreat
open Go.Vm Classical
structure RZ (p w:List Int):Prop where
 one:1<=p.length
 most:p.length<=64
 len:w.length+1=p.length
 once:IZ p
 rng: ∀x∈p,-1<=x/\x<=65535
 cho:BN p w
 none_: ∀i,i<w.length->w[i]!<0->bD p w (2*i+1)<0/\bD p w (2*i+2)<0
def VZ (p w:List Int) (i:Nat):Prop:=(w[i]! =bD p w (2*i+1)\/w[i]! =bD p w (2*i+2))/\ ¬(w[i]!<0/\(0<=bD p w (2*i+1)\/0<=bD p w (2*i+2)))
def aDQ (p w:List Int) (i:Nat):Prop:=(w[i]! =bD p w (2*i+1)\/w[i]! =bD p w (2*i+2))/\ ¬(w[i]! = -1/\(bD p w (2*i+1)≠ -1\/bD p w (2*i+2)≠ -1))
def R0 (p:List Int) (i:Nat):Prop:= -1<=p[i]!/\p[i]!<=65535
def Q4 (p:List Int) (i:Nat):Prop:= ∀j,j<i->p[j]! =p[i]!->p[i]!<0
theorem KQ {p:List Int}:(∀i,i<p.length->Q4 p i)↔IZ p:=
 ⟨fun h i j hij hj e=>by rw [e];exact h j hj i hij e,fun h i hi j hj e=>by have:=h j i hj hi e;rw [e] at this;exact this⟩
theorem V0 {p:List Int}:(∀i,i<p.length->R0 p i)↔ ∀x∈p,-1<=x/\x<=65535:=(zG (P:=fun x=> -1<=x/\x<=65535)).symm
theorem aF9 {p w:List Int} (h1:1<=p.length) (h64:p.length<=64) (hl:w.length+1=p.length):
 RZ p w↔(∀i,i<p.length->Q4 p i)/\(∀i,i<p.length->R0 p i)/\ ∀i,i<w.length->VZ p w i:=by
 rw [KQ,V0];constructor
 · intro h
   refine ⟨h.once,h.rng,fun i hi=>⟨h.cho i hi,fun ⟨a,b⟩=>?_⟩⟩
   have:=h.none_ i hi a
   omega
 rintro ⟨a,b,c⟩
 exact ⟨h1,h64,hl,a,b,fun i hi=>(c i hi).1,fun i hi h0=>by have:=(c i hi).2;omega⟩
theorem ZU {p w:List Int} (hl:w.length+1=p.length) (hr: ∀x∈p,-1<=x/\x<=65535):(∀i,i<w.length->VZ p w i)↔ ∀i,i<w.length->aDQ p w i:=by
 constructor<;>intro h i hi
 · have hc:BN p w:=fun i hi=>(h i hi).1
   have a1:=hr _ (gV hl hc (i:=2*i+1) (by omega))
   have a2:=hr _ (gV hl hc (i:=2*i+2) (by omega))
   obtain ⟨b1,b2⟩:=h i hi;exact ⟨b1,by omega⟩
 have hc:BN p w:=fun i hi=>(h i hi).1
 have a1:=hr _ (gV hl hc (i:=2*i+1) (by omega))
 have a2:=hr _ (gV hl hc (i:=2*i+2) (by omega))
 obtain ⟨b1,b2⟩:=h i hi;exact ⟨b1,by omega⟩
theorem aTz {p q:Prop} [Decidable p] [Decidable q] [Decidable (p/\q)] {a b:Int}:(if p then (if q then a else b) else b)=if p/\q then a else b:=by
 by_cases hp:p
 · rw [if_pos hp];exact KO ⟨fun h=>⟨hp,h⟩,fun h=>h.2⟩
 rw [if_neg hp,if_neg (fun h=>hp h.1)]
theorem CI (p w:List Int) (hl:p.length<=1000) (wl:w.length<=1000):lD ⟨p,w⟩=some (if RZ p w then 0 else 8):=by
 unfold lD;simp only [aE]
 by_cases h1:(p.length:Int)<1
 · rw [aH h1,cond_true,if_neg (fun h=>by have:=h.one;omega)]
 rw [dec_f h1,cond_false]
 by_cases h2:(64:Int)<(p.length:Int)
 · rw [aH h2,cond_true,if_neg (fun h=>by have:=h.most;omega)]
 rw [dec_f h2,cond_false,qD (by omega) (by omega)]
 by_cases h3:w.length+1=p.length
 case neg=>rw [dL (by omega),cond_true,if_neg (fun h=>h3 h.len)]
 rw [bP (by omega),cond_false]
 have l1:=nU (body:=jT) (fun i=>(w,(w.length:Int),(i:Int),p,w)) w.length (VZ p w) (r:= .done (.done 8)) (e:= .done (.done 0)) (fun i hi=>by
  unfold jT VZ;have k1:=pL (i:=i) (by omega) 1 (by omega)
  have k2:=pL (i:=i) (by omega) 2 (by omega)
  simp only [aH (show (i:Int)<(w.length:Int) by omega),cond_true,aC w i hi,aB,show aA .i64 (aA .i64 (2*(i:Int))+1)=((2*i+1:Nat):Int) from k1,show aA .i64 (aA .i64 (2*(i:Int))+2)=((2*i+2:Nat):Int) from k2,
   nL (p:=p) (w:=w) (i:=2*i+1) (by omega) (by omega),nL (p:=p) (w:=w) (i:=2*i+2) (by omega) (by omega),aT (show i<1000000000 by omega)]
  generalize bD p w (2*i+1)=x;generalize bD p w (2*i+2)=y;generalize w[i]! =v
  by_cases a1:v=x
  · rw [bP a1,cond_false]
    by_cases a3:v<0
    · rw [aH a3,cond_true]
      by_cases a4:0<=(if y>x then y else x)
      · rw [aH a4,cond_true]
        exact ⟨fun _=>rfl,fun h=>by split at a4<;>omega⟩
      rw [dec_f a4,cond_false]
      exact ⟨fun h=>by split at a4<;>omega,fun _=>rfl⟩
    rw [dec_f a3,cond_false]
    exact ⟨fun h=>by omega,fun _=>rfl⟩
  · rw [dL a1,cond_true]
    by_cases a2:v=y
    · rw [bP a2,cond_false]
      by_cases a3:v<0
      · rw [aH a3,cond_true]
        by_cases a4:0<=(if y>x then y else x)
        · rw [aH a4,cond_true]
          exact ⟨fun _=>rfl,fun h=>by split at a4<;>omega⟩
        rw [dec_f a4,cond_false]
        exact ⟨fun h=>by split at a4<;>omega,fun _=>rfl⟩
      rw [dec_f a3,cond_false]
      exact ⟨fun h=>by omega,fun _=>rfl⟩
    rw [dL a2,cond_true]
    exact ⟨fun _=>rfl,fun h=>by omega⟩) (by
  unfold jT;simp only [dec_f (show¬(w.length:Int)<(w.length:Int) by omega),cond_false])
 have l1':aG jT (w,(w.length:Int),0,p,w)=some (.done (.done (if∀i,i<w.length->VZ p w i then 0 else 8))):=by
  refine (show _=_ from l1).trans ?_
  by_cases h: ∀i,i<w.length->VZ p w i
  · rw [if_pos h,if_pos h]
  rw [if_neg h,if_neg h]
 have l2: ∀m,aG jU (p,(p.length:Int),0,p,w,m)=some (.done (if (∀i,i<p.length->R0 p i)/\ ∀i,i<w.length->VZ p w i then 0 else 8)):=fun m=>by
  have l2:=nU (body:=jU) (fun i=>(p,(p.length:Int),(i:Int),p,w,m)) p.length (R0 p) (r:= .done 8) (e:= .done (if∀i,i<w.length->VZ p w i then 0 else 8)) (fun i hi=>by
   unfold jU wU R0;simp only [aH (show (i:Int)<(p.length:Int) by omega),cond_true,aC p i hi,aB,aT (show i<1000000000 by omega)]
   generalize p[i]! =v
   by_cases a1: -1<=v
   · rw [aH a1,cond_true,aB]
     by_cases a2:v<=65535
     · rw [aH a2];exact ⟨fun h=>absurd ⟨a1,a2⟩ h,fun _=>rfl⟩
     rw [dec_f a2]
     refine ⟨fun _=>?_,fun h=>absurd h.2 a2⟩
     rw [aH (show (0:Int)<=(i:Int) by omega)];rfl
   · rw [dec_f a1,cond_false,aB]
     refine ⟨fun _=>?_,fun h=>absurd h.1 a1⟩
     rw [aH (show (0:Int)<=(i:Int) by omega)];rfl) (by
   unfold jU;simp only [dec_f (show¬(p.length:Int)<(p.length:Int) by omega),cond_false,aE,l1'])
  refine (show _=_ from l2).trans ?_
  by_cases h: ∀i,i<p.length->R0 p i
  · rw [if_pos h];congr 2;exact KO ⟨fun k=>⟨h,k⟩,fun k=>k.2⟩
  rw [if_neg h,if_neg (fun k=>h k.1)]
 have l3:=nU (body:=pA) (fun i=>(p,(p.length:Int),(i:Int),p,w,Q2 p i)) p.length (Q4 p) (r:=8) (e:=if (∀i,i<p.length->R0 p i)/\ ∀i,i<w.length->VZ p w i then 0 else 8) (fun i hi=>by
  unfold pA;simp only [aH (show (i:Int)<(p.length:Int) by omega),cond_true,aC p i hi,aB,Q3,aT (show i<1000000000 by omega)]
  by_cases a:Q4 p i
  · rw [dec_f (show¬(0<=p[i]!/\ ∃j,j<i/\p[j]! =p[i]!) from fun ⟨h0,j,hj,e⟩=>by have:=a j hj e;omega)]
    exact ⟨fun h=>absurd a h,fun _=>rfl⟩
  · rw [aH (show 0<=p[i]!/\ ∃j,j<i/\p[j]! =p[i]! from by
     unfold Q4 at a;obtain ⟨j,hj⟩:=Classical.not_forall.1 a;obtain ⟨hj,h⟩:=bo.1 hj;obtain ⟨h,h0⟩:=bo.1 h;exact ⟨by omega,j,hj,h⟩)]
    refine ⟨fun _=>?_,fun h=>absurd h a⟩
    rw [aH (show (0:Int)<=(i:Int) by omega)];rfl) (by
  unfold pA;simp only [dec_f (show¬(p.length:Int)<(p.length:Int) by omega),cond_false,aE,l2])
 refine (show _=_ from l3).trans ?_;rw [KO (aF9 (by omega) (by omega) h3)]
 congr 1
 exact aTz
theorem Q5 (p:List Int) (hl:p.length<=1000):FJ p=some (!decide (IZ p)):=by
 have l2:=nU (body:=sE) (fun i=>(p,(i:Int))) p.length (Q4 p) (r:=true) (e:=false) (fun i hi=>by
  have l1:=nU (body:=sD) (fun j=>(p,(i:Int),(j:Int))) i (fun j=>p[j]! =p[i]!->p[i]!<0) (r:= .done true) (e:= .next (p,((i+1:Nat):Int))) (fun j hj=>by
   unfold sD;simp only [aH (show (j:Int)<(i:Int) by omega),cond_true,aC p i hi,aC p j (by omega),aB,aT (show j<1000000000 by omega)]
   by_cases a:0<=p[i]!
   · rw [aH a,cond_true]
     by_cases b:p[j]! =p[i]!
     · rw [eH b];exact ⟨fun _=>rfl,fun h=>by have:=h b;omega⟩
     rw [eM b];exact ⟨fun h=>absurd (fun k=>absurd k b) h,fun _=>rfl⟩
   · rw [dec_f a,cond_false]
     exact ⟨fun h=>absurd (fun _=>by omega) h,fun _=>rfl⟩) (by
   unfold sD;simp only [dec_f (show¬(i:Int)<(i:Int) by omega),cond_false,aT (show i<1000000000 by omega)])
  have l1:=(show _=_ from l1);unfold sE;simp only [aE,aH (show (i:Int)<(p.length:Int) by omega),cond_true]
  by_cases a:Q4 p i
  · rw [if_pos (show∀j,j<i->p[j]! =p[i]!->p[i]!<0 from a)] at l1
    exact ⟨fun h=>absurd a h,fun _=>l1⟩
  · rw [if_neg (show¬ ∀j,j<i->p[j]! =p[i]!->p[i]!<0 from a)] at l1
    exact ⟨fun _=>l1,fun h=>absurd h a⟩) (by
  unfold sE;simp only [aE,dec_f (show¬(p.length:Int)<(p.length:Int) by omega),cond_false])
 refine (show _=_ from l2).trans ?_
 by_cases h:IZ p
 · rw [if_pos (KQ.2 h),aH h];rfl
 rw [if_neg (fun k=>h (KQ.1 k)),dec_f h];rfl
theorem Q6 (p w:List Int) (hl:p.length<=1000) (wl:w.length<=1000):wB ⟨p,w⟩=some (if RZ p w then 0 else 8):=by
 unfold wB;simp only [aE]
 by_cases h1:(p.length:Int)<1
 · rw [aH h1,cond_true,if_neg (fun h=>by have:=h.one;omega)]
 rw [dec_f h1,cond_false]
 by_cases h2:(64:Int)<(p.length:Int)
 · rw [aH h2,cond_true,if_neg (fun h=>by have:=h.most;omega)]
 rw [dec_f h2,cond_false,qD (by omega) (by omega)]
 by_cases h3:w.length+1=p.length
 case neg=>rw [dL (by omega),cond_true,if_neg (fun h=>h3 h.len)]
 rw [bP (by omega),cond_false,Q5 p hl,aB]
 by_cases ho:IZ p
 case neg=>rw [dec_f ho,if_neg (fun h=>ho h.once)];rfl
 rw [aH ho,ac,cond_false];have l1:=nU (body:=oO) (fun i=>((i:Int),p,w)) w.length (aDQ p w) (r:= .done 8) (e:= .done 0) (fun i hi=>by
  unfold oO aDQ;have k1:=pL (i:=i) (by omega) 1 (by omega)
  have k2:=pL (i:=i) (by omega) 2 (by omega)
  simp only [aE,aH (show (i:Int)<(w.length:Int) by omega),cond_true,aC w i hi,aB,show aA .i64 (aA .i64 (2*(i:Int))+1)=((2*i+1:Nat):Int) from k1,show aA .i64 (aA .i64 (2*(i:Int))+2)=((2*i+2:Nat):Int) from k2,
   mH (p:=p) (w:=w) (i:=2*i+1) (by omega) (by omega),mH (p:=p) (w:=w) (i:=2*i+2) (by omega) (by omega),aT (show i<1000000000 by omega)]
  generalize bD p w (2*i+1)=x;generalize bD p w (2*i+2)=y;generalize w[i]! =v
  by_cases a1:v=x
  · rw [bP a1,cond_false]
    by_cases a3:v= -1
    · rw [eH a3,cond_true]
      by_cases a4:x= -1
      · rw [bP a4,cond_false]
        by_cases a5:y= -1
        · rw [bP a5,cond_false];exact ⟨fun h=>by omega,fun _=>rfl⟩
        rw [dL a5,cond_true];exact ⟨fun _=>rfl,fun h=>by omega⟩
      rw [dL a4,cond_true];exact ⟨fun _=>rfl,fun h=>by omega⟩
    rw [eM a3,cond_false];exact ⟨fun h=>by omega,fun _=>rfl⟩
  · rw [dL a1,cond_true]
    by_cases a2:v=y
    · rw [bP a2,cond_false]
      by_cases a3:v= -1
      · rw [eH a3,cond_true]
        by_cases a4:x= -1
        · rw [bP a4,cond_false]
          by_cases a5:y= -1
          · rw [bP a5,cond_false];exact ⟨fun h=>by omega,fun _=>rfl⟩
          rw [dL a5,cond_true];exact ⟨fun _=>rfl,fun h=>by omega⟩
        rw [dL a4,cond_true];exact ⟨fun _=>rfl,fun h=>by omega⟩
      rw [eM a3,cond_false];exact ⟨fun h=>by omega,fun _=>rfl⟩
    rw [dL a2,cond_true]
    exact ⟨fun _=>rfl,fun h=>by omega⟩) (by
  unfold oO;simp only [aE,dec_f (show¬(w.length:Int)<(w.length:Int) by omega),cond_false])
 have l1':aG oO (0,p,w)=some (.done (if∀i,i<w.length->aDQ p w i then 0 else 8)):=by
  refine (show _=_ from l1).trans ?_
  by_cases h: ∀i,i<w.length->aDQ p w i
  · rw [if_pos h,if_pos h]
  rw [if_neg h,if_neg h]
 have l2:=nU (body:=sF) (fun i=>((p.length:Int),(i:Int),p,w)) p.length (R0 p) (r:=8) (e:=if∀i,i<w.length->aDQ p w i then 0 else 8) (fun i hi=>by
  unfold sF R0;simp only [aH (show (i:Int)<(p.length:Int) by omega),cond_true,aC p i hi,aB,aT (show i<1000000000 by omega)]
  generalize p[i]! =v
  by_cases a1:v< -1
  · rw [aH a1];exact ⟨fun _=>rfl,fun h=>by omega⟩
  · rw [dec_f a1,cond_false]
    by_cases a2:65535<v
    · rw [aH a2];exact ⟨fun _=>rfl,fun h=>by omega⟩
    rw [dec_f a2];exact ⟨fun h=>by omega,fun _=>rfl⟩) (by
  unfold sF;simp only [dec_f (show¬(p.length:Int)<(p.length:Int) by omega),cond_false,l1'])
 refine (show _=_ from l2).trans ?_;rw [KO (aF9 (by omega) (by omega) h3)]
 congr 1
 by_cases hr: ∀i,i<p.length->R0 p i
 · rw [if_pos hr]
   exact KO ⟨fun h=>⟨KQ.2 ho,hr,(ZU h3 (V0.1 hr)).2 h⟩,fun h=>(ZU h3 (V0.1 hr)).1 h.2.2⟩
 rw [if_neg hr,if_neg (fun h=>hr h.2.1)]
def ZV (c:aO) (to:Int×Int):Prop:=0<c.agenda.heap.length/\mE (Ev.at c.agenda.heap[0]!) to<=0
theorem Q7 {c:aO} (ok:aZ c) {to:Int×Int} (rt:bQ to) (r64:oA to) (le: ¬mE to c.now<0):vS c to=some (decide (ZV c to),0):=by
 unfold vS;rw [mG ok.fit,if_pos ok,aB,dP r64,if_pos rt,aB,bP (by decide),cond_false,LZ r64 ok.now64,if_pos ⟨rt,ok.nowv⟩,aB,dec_f le,cond_false]
 unfold IL;rw [kL _ ok.fit.ag,if_pos ok.agd,aB,bP rfl,cond_false]
 by_cases h:0<c.agenda.heap.length
 · have ev:=ok.agd.ev 0 h
   have g:=aC c.agenda.heap 0 h;rw [show ((0:Nat):Int)=0 from rfl] at g;rw [eM (by rw [aE];omega),cond_false,g,aB,aB,bP rfl,cond_false,LZ ev.2.1 r64,if_pos ⟨ev.1,rt⟩,aB]
   congr 2
   by_cases h2:mE (Ev.at c.agenda.heap[0]!) to<=0
   · rw [aH (show ZV c to from ⟨h,h2⟩),aH h2]
   rw [dec_f (fun k:ZV c to=>h2 k.2),dec_f h2]
 rw [eH (by rw [aE];omega),cond_true,aB,dec_f (fun k:ZV c to=>h k.1)]
 rfl
theorem KR {c:aO} (ok:aZ c) {to:Int×Int} (r64:oA to):wD c to=some (decide (ZV c to)):=by
 unfold wD;simp only [aE]
 by_cases h:0<c.agenda.heap.length
 · have ev:=ok.agd.ev 0 h
   have g:=aC c.agenda.heap 0 h;rw [show ((0:Nat):Int)=0 from rfl] at g;rw [aH (by omega),cond_true,g,aB,uD ev.2.1 r64,aB]
   congr 1
   by_cases h2:mE (Ev.at c.agenda.heap[0]!) to<=0
   · rw [aH (show ZV c to from ⟨h,h2⟩),aH h2]
   rw [dec_f (fun k:ZV c to=>h2 k.2),dec_f h2]
 rw [dec_f (by omega),cond_false,dec_f (fun k:ZV c to=>h k.1)]
theorem ZW {c:bK} (ok:fL c) {i:Nat} (hi:i<c.list.length):YY c (c.list[i]!).1=some (i:Int):=by
 have hl:=ok.len;have k:=mR (body:=AS) (fun j=>((c.list[i]!).1,(j:Int),c.next_,c.list)) c.list.length (fun j=>(c.list[j]!).1=(c.list[i]!).1) (fun j=>(j:Int)) (e:= -1) (fun j hj=>by
  unfold AS;simp only [aE,aH (show (j:Int)<(c.list.length:Int) by omega),cond_true,aC c.list j hj,aB,aT (show j<1000000000 by omega)]
  refine ⟨fun h=>?_,fun h=>?_⟩
  · rw [eH h];rfl
  · rw [eM h];rfl) (by
  unfold AS;simp only [aE,dec_f (show¬(c.list.length:Int)<(c.list.length:Int) by omega),cond_false])
 exact k.1 i hi rfl fun j hj e=>by have:=ok.up j i hj hi;omega
abbrev atT (c:aO) (t:Int×Int):aO:=⟨t,c.field,c.certs,c.agenda,c.due⟩
theorem aGa {c:aO} (ok:aZ c) {to:Int×Int} (rt:bQ to) (r64:oA to) (le: ¬mE to c.now<0) (due:ZV c to):
 ∃(x:Int×Int) (c1:aO),tN c to=some (c1,c.agenda.heap[0]!,x,0)/\DJ c=some (c1,c.agenda.heap[0]!,x)/\aZ c1/\c1.field=c.field/\iF c.field.points x/\pJ c1=pJ c+1/\c1.now=Ev.at c.agenda.heap[0]!:=by
 obtain ⟨i,c',hi,num,r1,r2,ok1,hf,hc,_⟩:=aBk ok due.1;have g:=aC c.agenda.heap 0 due.1;rw [show ((0:Nat):Int)=0 from rfl] at g;have hcl:c'.certs.list.length=c.certs.list.length-1:=by
  rw [hc];exact List.length_eraseIdx_of_lt hi
 have hcn:c'.certs.next_=c.certs.next_:=by rw [hc];rfl
 refine ⟨(c.certs.list[i]!).2,atT c' (Ev.at c.agenda.heap[0]!),?_,?_,ok1,hf,ok.known i hi,?_,rfl⟩
 · unfold tN
   rw [Q7 ok rt r64 le,aB,eH rfl,cond_true,aH due,ac,cond_false,bP rfl,cond_false,g,aB,r1,aB,bP rfl,cond_false]
 · unfold DJ
   rw [g,aB,show (c.agenda.heap[0]!).2.2.1=(c.certs.list[i]!).1 from num.symm,ZW ok.crt hi,aB,aC c.certs.list i hi,aB,num,r2,aB]
 unfold pJ
 show c'.certs.next_- (c'.certs.list.length:Int)=_;rw [hcl,hcn];omega
theorem aGb {c:aO} (ok:aZ c) {to:Int×Int} (rt:bQ to) (r64:oA to) (le: ¬mE to c.now<0) (due: ¬ZV c to):tN c to=some (eV,(0,0,0,0,0),(0,0),6):=by
 unfold tN;rw [Q7 ok rt r64 le,aB,eH rfl,cond_true,dec_f due];rfl
theorem aNj {c:aO} (ok:aZ c) {to:Int×Int} (rt:bQ to) (r64:oA to) (le: ¬mE to c.now<0) (due: ¬ZV c to):DF c to=some (atT c to,0):=by
 unfold DF;rw [Q7 ok rt r64 le,aB,eH rfl,cond_true,dec_f due,cond_false,bP rfl,cond_false,lI ok,aB]
theorem aGc {c:aO} (ok:aZ c) (to:Int×Int):FN c to=some (atT c to):=by
 unfold FN;rw [jO ok,aB]
theorem V1 {c:aO} (ok:aZ c): -200<=pJ c/\pJ c<=1000000:=by
 have h1:=ok.crt.len;have h2:=ok.crt.n0;have h3:=ok.crt.n1;unfold pJ;omega
theorem aNk {h l:Pt} {t t':Int×Int} (hh:hG h) (hl:hG l) (r:bQ t) (r':bQ t') (le:t.1*t'.2<=t'.1*t.2) (nf:(nJ h l t).2=true->t'.1*(nJ h l t).1.2<(nJ h l t).1.1*t'.2): ¬dQ l h t':=by
 unfold nJ at nf
 by_cases h1:dQ l h t
 · rw [if_pos h1] at nf
   have:=nf rfl
   dsimp only at this;omega
 rw [if_neg h1] at nf
 by_cases h2:h.2.2<l.2.2
 · rw [if_pos h2] at nf
   obtain ⟨_,m1,m2,m3⟩:=L0 hh hl (show h.2.2≠l.2.2 by omega)
   have up:=nf rfl;dsimp only at up;intro h3;have g:0<=PX l h t':=by rcases h3 with k|k<;>omega
   rw [KN] at g;generalize met h l=m at*;have d:=m1.1;have hB:0<l.2.2-h.2.2:=by omega
   generalize l.2.2-h.2.2=B at*;generalize hA:h.2.1-l.2.1=A at*;have g2:A*t'.2<=B*t'.1:=by
    have:(l.2.1-h.2.1)*t'.2= -(A*t'.2):=by rw [<- Int.neg_mul];congr 1;omega
    omega
   have g3:m.1*t'.2*B<=t'.1*m.2*B:=by
    have e1:m.1*t'.2*B=A*t'.2*m.2:=by rw [be,m3,be]
    have e2:t'.1*m.2*B=B*t'.1*m.2:=by rw [be,Int.mul_comm t'.1 B]
    rw [e1,e2];exact Int.mul_le_mul_of_nonneg_right g2 (by omega)
   have g4:m.1*t'.2<=t'.1*m.2:=Int.le_of_mul_le_mul_right g3 hB;omega
 exact M4 r.1 r'.1 le h2 h1
def hP (c:aO) (r:Int) (N:List Nd) (to:Int×Int) (out:List (Int×Int)):=
 (c.now.1,c.now.2,c.field.points,c.certs.next_,c.certs.list,c.agenda.slots.uses,c.agenda.slots.used,c.agenda.slots.free,c.agenda.heap,c.agenda.where_,c.due,r,N,to.1,to.2,(0:Int),(0:Int),(0:Int),(0:Int),out)
noncomputable def qM (p w:List Int) (k:Nat):List (Int×Int):=(List.range k).filterMap (AX p w)
theorem F4 (p w:List Int) (k:Nat):qM p w (k+1)=qM p w k++(match AX p w k with|some e=>[e]|none=>[]):=by
 unfold qM;rw [List.range_succ,List.filterMap_append];cases h:AX p w k<;>simp [h]
theorem Q8 (p w:List Int) (k:Nat):(qM p w k).length<=k:=by
 have:=List.length_filterMap_le (AX p w) (List.range k)
 rwa [List.length_range] at this
theorem aBn (p w:List Int):qM p w w.length=eB p w:=rfl
section
variable {p w : List Int} (hl : w.length + 1 = p.length) (h64 : p.length <= 64) (hc : BN p w)
include hl h64
theorem F5:wC ⟨p,w⟩=some (eB p w):=by
 have st:=dO (body:=AO) (fun i=>((i:Int),p,w,qM p w i)) w.length (fun i hi=>by
  have k1:=pL (i:=i) (by omega) 1 (by omega)
  have k2:=pL (i:=i) (by omega) 2 (by omega)
  have el:=Q8 p w i;rw [F4];unfold AO;simp only [aE,aH (show (i:Int)<(w.length:Int) by omega),cond_true,show aA .i64 (aA .i64 (2*(i:Int))+1)=((2*i+1:Nat):Int) from k1,show aA .i64 (aA .i64 (2*(i:Int))+2)=((2*i+2:Nat):Int) from k2,
   mH (p:=p) (w:=w) (i:=2*i+1) (by omega) (by omega),mH (p:=p) (w:=w) (i:=2*i+2) (by omega) (by omega),aB,aC w i hi,aT (show i<1000000000 by omega)]
  unfold AX;generalize bD p w (2*i+1)=x;generalize bD p w (2*i+2)=y;generalize w[i]! =v
  by_cases a1:x<0
  · rw [aH a1,cond_true,if_pos (.inl a1)];simp
  rw [dec_f a1,cond_false]
  by_cases a2:y<0
  · rw [aH a2,cond_true,if_pos (.inr a2)];simp
  rw [dec_f a2,cond_false,if_neg (by omega)]
  by_cases a3:v=x
  · rw [eH a3,cond_true,if_pos a3,fE (by rw [ae];omega),aB]
  rw [eM a3,cond_false,if_neg a3,fE (by rw [ae];omega),aB])
 unfold wC;refine (show _=_ from st).trans (aK ?_);unfold AO;simp only [aE,dec_f (show¬(w.length:Int)<(w.length:Int) by omega),cond_false]
 rfl
include hc
theorem ZX (hr: ∀x∈p,-1<=x/\x<=65535):aG oK (w,(w.length:Int),0,p,w,[])=some (⟨p,w⟩,eB p w):=by
 have st:=dO (body:=oK) (fun i=>(w,(w.length:Int),(i:Int),p,w,qM p w i)) w.length (fun i hi=>by
  have k1:=pL (i:=i) (by omega) 1 (by omega)
  have k2:=pL (i:=i) (by omega) 2 (by omega)
  have el:=Q8 p w i;have m1:=hr _ (gV hl hc (i:=2*i+1) (by omega))
  have m2:=hr _ (gV hl hc (i:=2*i+2) (by omega))
  have cv:=hc i hi;have fin: ∀(x y v:Int),(-1<=x/\x<=65535)->(-1<=y/\y<=65535)->(v=x\/v=y)->
   (bif decide (0<=x) then
    bif decide (0<=y) then (bZ (qM p w i) [(aA .i64 (aA .i64 (x+y) -v),v)]).bind fun l3=>some (bS.next (ρ:=bG×List (Int×Int)) (w,(w.length:Int),aA .i64 ((i:Int)+1),p,w,l3))
    else some (bS.next (w,(w.length:Int),aA .i64 ((i:Int)+1),p,w,qM p w i))
   else some (bS.next (w,(w.length:Int),aA .i64 ((i:Int)+1),p,w,qM p w i)))=
   some (bS.next (w,(w.length:Int),((i+1:Nat):Int),p,w,qM p w i++(match (if x<0\/y<0 then none else if v=x then some (y,x) else some (x,y)) with|some e=>[e]|none=>[]))):=by
   intro x y v hx hy hv;rw [aT (show i<1000000000 by omega)]
   by_cases a1:x<0
   · rw [dec_f (by omega),cond_false,if_pos (.inl a1)];simp
   rw [aH (by omega),cond_true]
   by_cases a2:y<0
   · rw [dec_f (by omega),cond_false,if_pos (.inr a2)];simp
   rw [aH (by omega),cond_true,if_neg (by omega),fE (by rw [ae];omega),aB,oR (n:=x+y) ⟨by omega,by omega⟩,oR ⟨by omega,by omega⟩]
   by_cases a3:v=x
   · rw [if_pos a3,a3,show x+y-x=y by omega]
   rw [if_neg a3,show x+y-v=x by omega,show v=y by omega]
  rw [F4];unfold oK;have e1:bD p w (2*i+1)=if 2*i+1<w.length then w[2*i+1]! else p[2*i+1-w.length]!:=rfl
  have e2:bD p w (2*i+2)=if 2*i+2<w.length then w[2*i+2]! else p[2*i+2-w.length]!:=rfl
  have f1:=fin _ _ _ m1 m2 cv;simp only [aE,aH (show (i:Int)<(w.length:Int) by omega),cond_true,show aA .i64 (aA .i64 (2*(i:Int))+1)=((2*i+1:Nat):Int) from k1,show aA .i64 (aA .i64 (2*(i:Int))+2)=((2*i+2:Nat):Int) from k2,aC w i hi,aB,beq_self_eq_true]
  by_cases b1:2*i+1<w.length
  · rw [if_pos b1] at e1
    rw [aH (show ((2*i+1:Nat):Int)<(w.length:Int) by omega),cond_true,aC w _ b1,aB,<- e1]
    by_cases b2:2*i+2<w.length
    · rw [if_pos b2] at e2
      rw [aH (show ((2*i+2:Nat):Int)<(w.length:Int) by omega),cond_true,aC w _ b2,aB,<- e2]
      exact f1
    rw [if_neg b2] at e2
    rw [dec_f (show¬((2*i+2:Nat):Int)<(w.length:Int) by omega),cond_false,oR ⟨by omega,by omega⟩,show ((2*i+2:Nat):Int) - (w.length:Int)=((2*i+2-w.length:Nat):Int) by omega,aC p _ (by omega),aB,<- e2]
    exact f1
  rw [if_neg b1] at e1
  rw [if_neg (show¬2*i+2<w.length by omega)] at e2
  rw [dec_f (show¬((2*i+1:Nat):Int)<(w.length:Int) by omega),cond_false,oR (n:=((2*i+1:Nat):Int) - (w.length:Int)) ⟨by omega,by omega⟩,show ((2*i+1:Nat):Int) - (w.length:Int)=((2*i+1-w.length:Nat):Int) by omega,aC p _ (by omega),aB,<- e1,
   dec_f (show¬((2*i+2:Nat):Int)<(w.length:Int) by omega),cond_false,oR (n:=((2*i+2:Nat):Int) - (w.length:Int)) ⟨by omega,by omega⟩,show ((2*i+2:Nat):Int) - (w.length:Int)=((2*i+2-w.length:Nat):Int) by omega,aC p _ (by omega),aB,<- e2]
  exact f1)
 refine (show _=_ from st).trans (aK ?_);unfold oK;simp only [dec_f (show¬(w.length:Int)<(w.length:Int) by omega),cond_false]
 rfl
end
structure I2 (f:List Pt) (p:List Int):Prop where
 one:1<=p.length
 most:p.length<=64
 once:IZ p
 ids: ∀x∈p,RY f x
theorem I2.rng {f:List Pt} (fok:cC f) {p:List Int} (h:I2 f p): ∀x∈p,-1<=x/\x<=65535:=fun x hx=>by
 rcases h.ids x hx with e|⟨e,hp⟩
 · omega
 have:=(dB fok hp).1
 have e2:=(dB fok hp).2;unfold hG at this;omega
section
variable {f : List Pt} (fok : cC f) {t : Int × Int} (r : bQ t) (r64 : oA t) {p : List Int} (pl : I2 f p)
include fok r64 pl
theorem R3:IS ⟨f⟩ t p=some ⟨p,aX f t p⟩:=by
 unfold IS;rw [Q1 fok r64 pl.one pl.most pl.ids];rfl
theorem oU:KM f (eB p (aX f t p))/\(eB p (aX f t p)).Nodup/\(eB p (aX f t p)).length<=63:=by
 have _:=r64;have R:=dE (f:=f) (t:=t) pl.one;have m:=pl.most
 have:=R.1
 have el:=I0 p (aX f t p);exact ⟨aDO fok R.1 pl.most R.chosen pl.once fun x hx h0=>(pl.ids x hx).has h0,VW R.1 R.chosen pl.once,by omega⟩
include r
theorem sS:jM ⟨f⟩ t p=some (⟨p,aX f t p⟩,eB p (aX f t p)):=by
 have R:=dE (f:=f) (t:=t) pl.one;unfold jM;rw [ME fok r r64 pl.one pl.most pl.ids pl.once,aB];exact ZX R.1 pl.most R.chosen (pl.rng fok)
end
def AY:bO:=⟨eV,⟨[],[]⟩⟩
structure aTA (c:aO) (f:List Pt) (p:List Int) (k:bO):Prop where
 ren:QQ c f (eB p (aX f c.now p)) k.clock
 places:k.bracket=⟨p,aX f c.now p⟩
theorem V2 {c:aO} (ok:aZ c) {f:List Pt} (fok:cC f) {p:List Int} (pl:I2 f p):
 ∃R:aO×Int,rA c ⟨f⟩ (eB p (aX f c.now p))=some R/\pS c ⟨f⟩ (eB p (aX f c.now p))=some R/\(R.2=0/\QQ c f (eB p (aX f c.now p)) R.1\/R=(eV,18)):=by
 obtain ⟨eok,nd,el⟩:=oU fok ok.now64 (t:=c.now) pl;obtain ⟨R,r1,r2,r3⟩:=aNd ok fok eok;have ee:kY f (eB p (aX f c.now p))=0:=by
  unfold kY;rw [if_neg (ax.2 eok.cv),if_neg (ax.2 nd),if_neg (fun h=>h eok.kn)]
 have rn:=QU ok fok (es:=eB p (aX f c.now p)) (by omega) (fun _=>r1)
 rw [if_pos ee] at rn;exact ⟨R,rn,r2,r3⟩
theorem I3 {c:aO} (ok:aZ c) {f:List Pt} (fok:cC f) {p:List Int} (pl:I2 f p):
 ∃R:bO×Int,kC c ⟨f⟩ p=some R/\pT c ⟨f⟩ p=some R/\(R.2=0/\aTA c f p R.1\/R=(AY,18)):=by
 have h1:=sS fok ok.nowv ok.now64 pl;have g1:=R3 fok (t:=c.now) ok.now64 pl;have B:=dE (f:=f) (t:=c.now) pl.one;have eo:=F5 B.1 pl.most;obtain ⟨R,r1,r2,r3⟩:=V2 ok fok pl;rcases r3 with ⟨q0,qq⟩|he
 · refine ⟨(⟨R.1,⟨p,aX f c.now p⟩⟩,0),?_,?_,.inl ⟨rfl,qq,rfl⟩⟩
   · unfold kC
     simp only [h1,aB,r1,q0,show ((0:Int) !=0)=false from rfl,cond_false]
   unfold pT
   simp only [g1,aB,eo,r2,q0,show ((0:Int) !=0)=false from rfl,cond_false]
 refine ⟨(AY,18),?_,?_,.inr rfl⟩
 · unfold kC
   simp only [h1,aB,r1,he,show ((18:Int) !=0)=true from rfl,cond_true];rfl
 unfold pT
 simp only [g1,aB,eo,r2,he,show ((18:Int) !=0)=true from rfl,cond_true];rfl
def gZ (p:List Int):List Int:=p.filter fun x=>decide (0<=x)
theorem nT {p:List Int} {j:Nat} (hj:j<p.length):gZ (p.take (j+1))=gZ (p.take j)++if 0<=p[j]! then [p[j]!] else []:=by
 unfold gZ;rw [iK hj,List.filter_append]
 by_cases h:0<=p[j]!
 · rw [if_pos h,List.filter_cons_of_pos (by simpa using h),bw]
 rw [if_neg h,List.filter_cons_of_neg (by simpa using h),bw]
theorem aGd (p:List Int) (j:Nat):(gZ (p.take j)).length<=j:=by
 have:=bk (fun x:Int=>decide (0<=x)) (p.take j)
 rw [ai] at this;unfold gZ;omega
theorem KS (p:List Int) (hl:p.length<=1000):GN p=some (gZ p):=by
 have st:=dO (body:=xQ) (fun i=>(p,(i:Int),gZ (p.take i))) p.length (fun i hi=>by
  have el:=aGd p i;rw [nT hi];unfold xQ;simp only [aE,aH (show (i:Int)<(p.length:Int) by omega),cond_true,aC p i hi,aB,aT (show i<1000000000 by omega)]
  by_cases h:0<=p[i]!
  · rw [aH h,cond_true,if_pos h,fE (by rw [ae];omega),aB]
  rw [dec_f h,cond_false,if_neg h,ba])
 unfold GN;refine (show _=_ from st).trans (aK ?_);unfold xQ;simp only [aE,dec_f (show¬(p.length:Int)<(p.length:Int) by omega),cond_false,aj]
structure TV (p:List Int) (i j:Nat) (L:List Int):Prop where
 len:L.length=p.length
 le:i<=j
 lt:j<=p.length
 got:L.take i=gZ (p.take j)
 rest: ∀k,j<=k->k<p.length->L[k]! =p[k]!
theorem TV.cnt {p:List Int} {i j:Nat} {L:List Int} (h:TV p i j L):i=(gZ (p.take j)).length:=by
 have:=congrArg List.length h.got
 rw [ai,h.len] at this
 have:=h.le;have:=h.lt
 omega
theorem aNl {p:List Int} {i:Nat} {L:List Int} (h:TV p i p.length L): ∃M:List Int,bH p ((i:Int),(p.length:Int),L)=some (.done (.done (i,p.length,M)))/\M.length=p.length/\M.take i=gZ p:=by
 have hl:=h.len;have hi:=h.le;have got:=h.got;rw [aj] at got;unfold bH
 simp only [aE,hl,dec_f (show¬(p.length:Int)<(p.length:Int) by omega),cond_false,aH (show (0:Int)<=(i:Int) by omega),aH (show (i:Int)<=(p.length:Int) by omega),aH (show (p.length:Int)<=(p.length:Int) by omega),cd,cond_true,bq,Nat.zero_add,bg,Bool.and_true]
 by_cases h0:p.length-i=0
 · have n1:Nat.beq (p.length-i) 0=true:=by rw [h0];rfl
   rw [n1,cond_true,kK L i (by omega),aB,beq_self_eq_true,cond_true]
   exact ⟨L,rfl,hl,got⟩
 have n1:Nat.beq (p.length-i) 0=false:=by
  cases hb:Nat.beq (p.length-i) 0 with
  |false=>rfl
  |true=>have:=Nat.eq_of_beq_eq_true hb;omega
 have n2:Nat.ble (i+(p.length-i)) p.length=true:=Nat.ble_eq_true_of_le (by omega)
 have ll:(jP L i (bi (p.length-i) (0:Int))).length=p.length:=by
  unfold jP;simp;omega
 rw [n1,cond_false,n2,cond_true,kK _ i (by rw [ll];omega),aB,ll,beq_self_eq_true,cond_true]
 refine ⟨_,rfl,ll,?_⟩;rw [<- got];unfold jP;rw [List.append_assoc,az (by rw [ai];omega),List.take_take,Nat.min_self]
theorem aTB {p:List Int} (hp:p.length<=1000): ∀(d i j:Nat) (L:List Int),p.length-j<=d->TV p i j L->
 ∃(n:Nat) (M:List Int),aG (bH p) ((i:Int),(j:Int),L)=some (.done (n,p.length,M))/\n=(gZ p).length/\M.length=p.length/\M.take n=gZ p:=by
 have fin: ∀(i j:Nat) (L:List Int),p.length<=j->TV p i j L-> ∃(n:Nat) (M:List Int),aG (bH p) ((i:Int),(j:Int),L)=some (.done (n,p.length,M))/\n=(gZ p).length/\M.length=p.length/\M.take n=gZ p:=by
  intro i j L hj h;obtain rfl:j=p.length:=by have:=h.lt;omega
  obtain ⟨M,m1,m2,m3⟩:=aNl h;exact ⟨i,M,aK m1,by rw [h.cnt,aj],m2,m3⟩
 intro d
 induction d with
 |zero=>exact fun i j L hd h=>fin i j L (by omega) h
 |succ d ih=>
  intro i j L hd h
  by_cases hj:p.length<=j
  · exact fin i j L hj h
  have hl:=h.len;have hle:=h.le;have e:L[j]! =p[j]!:=h.rest j (aa _) (by omega)
  have st:bH p ((i:Int),(j:Int),L)=some (.next (((if 0<=p[j]! then i+1 else i:Nat):Int),((j+1:Nat):Int),if 0<=p[j]! then L.set i p[j]! else L)):=by
   unfold bH lW;simp only [aE,hl,aH (show (j:Int)<(p.length:Int) by omega),cond_true,aC L j (by omega),aB,e,aT (show i<1000000000 by omega),aT (show j<1000000000 by omega)]
   by_cases h0:0<=p[j]!
   · rw [dec_f (by omega),bg,cond_true,aC L i (by omega),aB,if_pos h0,if_pos h0];rfl
   rw [aH (by omega),ac,cond_false,if_neg h0,if_neg h0]
  rw [bC st];refine ih _ _ _ (by omega) ?_
  by_cases h0:0<=p[j]!
  · rw [if_pos h0,if_pos h0]
    refine ⟨by rw [am];exact hl,by omega,by omega,?_,fun k hk hk2=>?_⟩
    · rw [nT (by omega),if_pos h0,<- h.got,iK (by rw [am];omega),bF,if_pos ⟨rfl,by omega⟩,List.take_set_of_le (aa i)]
    rw [bF,if_neg (by omega)];exact h.rest k (by omega) hk2
  rw [if_neg h0,if_neg h0]
  refine ⟨hl,by omega,by omega,?_,fun k hk hk2=>h.rest k (by omega) hk2⟩
  rw [nT (by omega),if_neg h0,ba];exact h.got
theorem ZY: ∀{l:List Int},(∀x∈l,0<=x)->gZ l=l:=fun {l} h=>List.filter_eq_self.2 fun x hx=>by simpa using h x hx
theorem R4 (p:List Int) (hp:p.length<=1000): ∃(n:Nat) (M:List Int),cM p=some (n,p.length,M)/\n=(gZ p).length/\M.length=p.length/\M.take n=gZ p:=by
 have key: ∀(d m:Nat),p.length-m<=d->m<=p.length->(∀k,k<m->0<=p[k]!)-> ∃(n:Nat) (M:List Int),aG (bI p) ((p.length:Int),(m:Int),p)=some (n,p.length,M)/\n=(gZ p).length/\M.length=p.length/\M.take n=gZ p:=by
  intro d;have fin: ∀m,m=p.length->(∀k,k<m->0<=p[k]!)-> ∃(n:Nat) (M:List Int),aG (bI p) ((p.length:Int),(m:Int),p)=some (n,p.length,M)/\n=(gZ p).length/\M.length=p.length/\M.take n=gZ p:=by
   intro m hm h;subst hm;have e:gZ p=p:=ZY fun x hx=>by
    obtain ⟨i,hi,rfl⟩:=aW.1 hx;exact h i hi
   refine ⟨p.length,p,aK ?_,by rw [e],rfl,by rw [aj,e]⟩
   unfold bI;simp only [dec_f (show¬(p.length:Int)<(p.length:Int) by omega),cond_false,beq_self_eq_true,cond_true]
  induction d with
  |zero=>exact fun m h1 h2 h=>fin m (by omega) h
  |succ d ih=>
   intro m h1 h2 h
   by_cases hm:m=p.length
   · exact fin m hm h
   by_cases h0:0<=p[m]!
   · have st:bI p ((p.length:Int),(m:Int),p)=some (.next ((p.length:Int),((m+1:Nat):Int),p)):=by
      unfold bI lW;simp only [aH (show (m:Int)<(p.length:Int) by omega),cond_true,aC p m (by omega),aB,dec_f (show¬p[m]!<0 by omega),cond_false,aT (show m<1000000000 by omega)]
     rw [bC st];refine ih (m+1) (by omega) (by omega) fun k hk=>?_
     by_cases e:k=m
     · rw [e];exact h0
     exact h k (by omega)
   have hd:TV p m (m+1) p:=⟨rfl,by omega,by omega,by
    rw [nT (by omega),if_neg h0,ba,ZY fun x hx=>?_]
    obtain ⟨i,hi,_,rfl⟩:=cJ.1 hx;exact h i hi,fun k _ _=>rfl⟩
   obtain ⟨n,M,m1,m2,m3,m4⟩:=aTB hp p.length m (m+1) p (by omega) hd
   refine ⟨n,M,aK ?_,m2,m3,m4⟩;unfold bI lW;simp only [aH (show (m:Int)<(p.length:Int) by omega),cond_true,aC p m (by omega),aB,aH (show p[m]!<0 by omega),beq_self_eq_true,eM (show (m:Int)≠ -1 by omega),cond_false,aT (show m<1000000000 by omega),m1]
 unfold cM;exact key p.length 0 (by omega) (ao _) (fun k hk=>absurd hk (bz k))
def aDR (n:Nat):Prop:= ∃i,i<7/\n=2^i
theorem ZZ {n:Nat} (h1:1<=n) (h2:n<=64):HY .i64 (n:Int) ((n-1:Nat):Int)=0↔aDR n:=by
 have key: ∀k:Fin 65,1<=k.val->((HY .i64 (k.val:Int) ((k.val-1:Nat):Int)=0)↔ ∃i,i<7/\k.val=2^i):=by decide+kernel
 exact key ⟨n,by omega⟩ h1
theorem dbl {q:Nat} (h:q<=64):aA .i64 ((q:Int)*2)=((2*q:Nat):Int):=by rw [oR ⟨by omega,by omega⟩];omega
theorem aNm (i:Nat):2^(i+1)=2*2^i:=by rw [bj];omega
theorem Q9 {n:Nat}:AM (n:Int)=some (decide (aDR n)):=by
 have st:=nU (body:=sG) (fun i=>((n:Int),((2^i:Nat):Int))) 7 (fun i=>n≠2^i) (r:=true) (e:=false) (fun i hi=>by
  have b1:2^i<=64:=Nat.le_trans (Nat.pow_le_pow_right (by omega) (show i<=6 by omega)) (by decide)
  unfold sG;simp only [aH (show ((2^i:Nat):Int)<=64 by omega),cond_true]
  by_cases h:n=2^i
  · rw [eH (by omega)];exact ⟨fun _=>rfl,fun k=>absurd h k⟩
  · rw [eM (by omega),cond_false,dbl b1,aNm]
    exact ⟨fun k=>absurd h k,fun _=>rfl⟩) (by
  unfold sG
  rfl)
 unfold AM;refine (show _=_ from st).trans ?_
 by_cases h:aDR n
 · obtain ⟨i,hi,e⟩:=h
   rw [if_neg (fun k=>k i hi e),aH ⟨i,hi,e⟩]
 rw [if_pos (fun i hi e=>h ⟨i,hi,e⟩),dec_f h]
theorem rF (f:List Pt):(nK f).length=f.length:=af ..
theorem DY {f:List Pt} {i:Nat} (h:i<f.length):(nK f)[i]! =(f[i]!).1:=by
 unfold nK;rw [getElem!_pos _ i (by rw [af];exact h),getElem!_pos f i h,bu]
section
variable {f : List Pt} (h64 : f.length <= 64)
include h64
end
theorem aBo:FF=FO:=rfl
structure sT (k:bO):Prop where
 clk:aZ k.clock
 br:RZ k.bracket.places k.bracket.wins
 pow:aDR k.bracket.places.length
 perm:(nK k.clock.field.points).Perm (gZ k.bracket.places)
 right:k.bracket.wins=aX k.clock.field.points k.clock.now k.bracket.places
 cert:(k.clock.certs.list.map fun x=>x.2).Perm (eB k.bracket.places k.bracket.wins)
theorem CJ {p:List Int} {x:Int}:x∈gZ p↔x∈p/\0<=x:=by unfold gZ;rw [List.mem_filter];simp
theorem qN {f:List Pt} {p w:List Int} (br:RZ p w) (pm:(nK f).Perm (gZ p)):I2 f p:=by
 refine ⟨br.one,br.most,br.once,fun x hx=>?_⟩
 have:=br.rng x hx
 by_cases h:0<=x
 · exact .inr ⟨h,GX.1 (pm.mem_iff.2 (CJ.2 ⟨hx,h⟩))⟩
 exact .inl (by omega)
theorem aBp {p:List Int} (h:IZ p):(gZ p).Nodup:=by
 have go: ∀(j:Nat),j<=p.length->(gZ (p.take j)).Nodup:=by
  intro j
  induction j with
  |zero=>intro _;simp [gZ]
  |succ j ih=>
   intro hj;rw [nT (by omega)]
   by_cases h0:0<=p[j]!
   · rw [if_pos h0]
     refine List.nodup_append.2 ⟨ih (by omega),by simp,fun a ha b hb e=>?_⟩
     obtain rfl:b=p[j]!:=by simpa using hb
     subst e;have hm:=(CJ.1 ha).1;obtain ⟨i,hi,_,e⟩:=cJ.1 hm
     have:=h i j hi (by omega) e
     omega
   rw [if_neg h0,ba];exact ih (by omega)
 have:=go p.length (aa _)
 rwa [aj] at this
theorem aBq {f:List Pt} (h:gI f):(nK f).Pairwise (· <= ·):=by
 refine List.pairwise_iff_getElem.2 fun i j hi hj hij=>?_
 rw [rF] at hi hj
 have:=pF h hij hj
 rw [<- getElem!_pos (nK f) i (by rw [rF];exact hi),<- getElem!_pos (nK f) j (by rw [rF];exact hj),DY hi,DY hj]
 omega
theorem Z0 {f:List Pt} (h:gI f) (l:List Int):oE l=nK f↔(nK f).Perm l:=by
 constructor
 · intro e;rw [<- e];exact yH l
 intro pm
 exact List.Perm.eq_of_pairwise (le:=(· <= ·)) (fun a b _ _ h1 h2=>Int.le_antisymm h1 h2) (C8 l) (aBq h) ((yH l).trans pm.symm)
theorem R5 (l:List Int) (f:List Pt) (hl:l.length<=1000):cQ l f ()=some (decide (l=nK f)):=by
 unfold cQ;simp only [aE]
 by_cases h:l.length=f.length
 case neg=>rw [dL (by omega),cond_true,dec_f (fun e=>h (by rw [e,rF]))]
 rw [bP (by omega),cond_false]
 have key:=nU (body:=cK) (fun i=>(f,l,(l.length:Int),(i:Int))) l.length (fun i=>l[i]! =(f[i]!).1) (r:=false) (e:=true) (fun i hi=>by
  unfold cK yS;simp only [aH (show (i:Int)<(l.length:Int) by omega),cond_true,aC l i hi,aC f i (by omega),aB,aT (show i<1000000000 by omega)]
  by_cases q:l[i]! =(f[i]!).1
  · rw [eH q];exact ⟨fun w=>absurd q w,fun _=>rfl⟩
  · rw [eM q];exact ⟨fun _=>rfl,fun w=>absurd w q⟩) (by
  unfold cK;simp only [dec_f (show¬(l.length:Int)<(l.length:Int) by omega),cond_false])
 refine (show _=_ from key).trans ?_
 by_cases q:l=nK f
 · rw [if_pos (fun i hi=>by rw [q,DY (by omega)]),aH q]
 rw [if_neg (fun w=>q (wH (by rw [rF];exact h) fun i hi=>by rw [w i hi,DY (by omega)])),dec_f q]
theorem V3 (a b:List Int) (ha:a.length<=1000):pB a b=some (decide (a=b)):=by
 unfold pB;simp only [aE]
 by_cases h:a.length=b.length
 case neg=>rw [dL (by omega),cond_true,dec_f (fun e=>h (by rw [e]))]
 rw [bP (by omega),cond_false]
 have key:=nU (body:=lL) (fun i=>(a,b,(a.length:Int),(i:Int))) a.length (fun i=>a[i]! =b[i]!) (r:=false) (e:=true) (fun i hi=>by
  unfold lL;simp only [aH (show (i:Int)<(a.length:Int) by omega),cond_true,aC a i hi,aC b i (by omega),aB,aT (show i<1000000000 by omega)]
  by_cases q:a[i]! =b[i]!
  · rw [bP q];exact ⟨fun w=>absurd q w,fun _=>rfl⟩
  · rw [dL q];exact ⟨fun _=>rfl,fun w=>absurd w q⟩) (by
  unfold lL;simp only [dec_f (show¬(a.length:Int)<(a.length:Int) by omega),cond_false])
 refine (show _=_ from key).trans ?_
 by_cases q:a=b
 · rw [if_pos (fun i _=>by rw [q]),aH q]
 rw [if_neg (fun w=>q (wH h w)),dec_f q]
theorem Z1 {n:Nat} {M:List Int} (hn:n<=M.length) (hm:M.length<=1000):GC UG n M=some (oE (M.take n)++M.drop n):=by
 unfold GC MO UG;rw [if_pos hn,if_pos (by rw [ai];omega)]
 simp only [xX,if_true,Option.map_some]
theorem TW {c:aO} (ok:aZ c) {es:List (Int×Int)} (_nd:es.Nodup):(es.length=c.certs.list.length/\ ∀i,i<c.certs.list.length->(c.certs.list[i]!).2∈es)↔(c.certs.list.map fun x=>x.2).Perm es:=by
 have cl:(c.certs.list.map fun x=>x.2).length=c.certs.list.length:=af ..
 constructor
 · rintro ⟨h1,h2⟩
   exact zH (F2 ok.crt) (fun x hx=>by
    obtain ⟨i,hi,rfl⟩:=zJ.2 hx;exact h2 i hi) (by omega)
 intro h
 exact ⟨by rw [<- h.length_eq,cl],fun i hi=>h.mem_iff.1 (zJ.1 ⟨i,hi,rfl⟩)⟩
theorem EJ {k:bO} (fit:wJ k.clock) (hl:k.bracket.places.length<=1000) (wl:k.bracket.wins.length<=1000):iC k=some (if sT k then 0 else 8):=by
 unfold iC;rw [mG fit,aB]
 by_cases ok:aZ k.clock
 case neg=>rw [if_neg ok,if_neg (fun h=>ok h.clk)];rfl
 rw [if_pos ok,bP rfl,cond_false,show lD k.bracket=_ from CI k.bracket.places k.bracket.wins hl wl,aB]
 by_cases br:RZ k.bracket.places k.bracket.wins
 case neg=>rw [if_neg br,if_neg (fun h=>br h.br)];rfl
 have b1:=br.one;have b2:=br.most;rw [if_pos br,bP rfl,cond_false,aE,qD (by omega) b1]
 by_cases pw:aDR k.bracket.places.length
 case neg=>rw [dL (fun h=>pw ((ZZ b1 b2).1 h)),cond_true,if_neg (fun h=>pw h.pow)]
 rw [bP ((ZZ b1 b2).2 pw),cond_false,aY (by omega),aB]
 obtain ⟨n,M,e1,e2,e3,e4⟩:=R4 k.bracket.places hl;have nl:n<=M.length:=by
  have:=bk (fun x:Int=>decide (0<=x)) k.bracket.places
  rw [e2,e3];exact this
 have tk:(oE (M.take n)++M.drop n).take n=oE (gZ k.bracket.places):=by
  rw [az (by rw [xX,ai];omega),List.take_of_length_le (by rw [xX,ai];omega),e4]
 have ll:(oE (M.take n)++M.drop n).length=M.length:=by rw [ar,xX,ai,List.length_drop];omega
 have fe:k.clock.field=⟨k.clock.field.points⟩:=rfl;rw [e1,aB];dsimp only;rw [Z1 nl (by omega),aB,ll,beq_self_eq_true,cond_true,tk,R5 _ _ (by rw [xX];omega),aB]
 by_cases pm:(nK k.clock.field.points).Perm (gZ k.bracket.places)
 case neg=>rw [dec_f (fun h=>pm ((Z0 ok.fld.2.2 _).1 h)),if_neg (fun h=>pm h.perm)];rfl
 have pl:=qN br pm;rw [aH ((Z0 ok.fld.2.2 _).2 pm),ac,cond_false,fe,sS ok.fld ok.nowv ok.now64 pl,aB];dsimp only;obtain ⟨_,nd,el⟩:=oU ok.fld ok.now64 (t:=k.clock.now) pl;have R:=dE (f:=k.clock.field.points) (t:=k.clock.now) pl.one;rw [V3 _ _ (by have:=R.1;omega),aB]
 by_cases hw:aX k.clock.field.points k.clock.now k.bracket.places=k.bracket.wins
 case neg=>rw [dec_f hw,if_neg (fun h=>hw h.right.symm)];rfl
 rw [aH hw,ac,cond_false,aBo,aNi _ _ (by omega) (by have:=ok.bd;omega),aB]
 by_cases hc:(k.clock.certs.list.map fun x=>x.2).Perm (eB k.bracket.places (aX k.clock.field.points k.clock.now k.bracket.places))
 · rw [aH ((TW ok nd).2 hc),if_pos ⟨ok,br,pw,pm,hw.symm,by rw [<- hw];exact hc⟩];rfl
 rw [dec_f (fun h=>hc ((TW ok nd).1 h)),if_neg (fun h=>hc (by rw [hw];exact h.cert))];rfl
theorem RA {f:List Pt} (fok:cC f) (p:List Int) (hp:p.length<=1000):AN ⟨f⟩ p=some (decide (∀i,i<p.length->p[i]! = -1\/nC f p[i]!)):=by
 have st:=nU (body:=sH) (fun i=>(p,(i:Int),f)) p.length (fun i=>p[i]! = -1\/nC f p[i]!) (r:=false) (e:=true) (fun i hi=>by
  unfold sH;simp only [aE,aH (show (i:Int)<(p.length:Int) by omega),cond_true,aC p i hi,aB,aT (show i<1000000000 by omega)]
  by_cases h:p[i]! = -1
  · rw [bP h];exact ⟨fun k=>absurd (.inl h) k,fun _=>rfl⟩
  · rw [dL h,cond_true]
    by_cases h2:nC f p[i]!
    · obtain ⟨m,_,e,_⟩:=uG fok h2
      rw [e,aB,dec_f (by omega)];exact ⟨fun k=>absurd (.inr h2) k,fun _=>rfl⟩
    rw [QN fok h2,aB]
    exact ⟨fun _=>rfl,fun k=>by rcases k with k|k;exact absurd k h;exact absurd k h2⟩) (by
  unfold sH;simp only [aE,dec_f (show¬(p.length:Int)<(p.length:Int) by omega),cond_false])
 unfold AN;refine (show _=_ from st).trans ?_
 by_cases h: ∀i,i<p.length->p[i]! = -1\/nC f p[i]!
 · rw [if_pos h,aH h]
 rw [if_neg h,dec_f h]
theorem R6 {f:List Pt} (fok:cC f) {t:Int×Int} (r64:oA t) {p w:List Int} (br:RZ p w) (pl:I2 f p):yW ⟨p,w⟩ ⟨f⟩ t=some (decide (w=aX f t p)):=by
 have b2:=br.most;have b3:=br.len;have st:=nU (body:=uV) (fun i=>((i:Int),p,w,f,t)) w.length (fun i=>w[i]! =DV f t (bD p w (2*i+1)) (bD p w (2*i+2))) (r:=false) (e:=true) (fun i hi=>by
  have k1:=pL (i:=i) (by omega) 1 (by omega)
  have k2:=pL (i:=i) (by omega) 2 (by omega)
  unfold uV;simp only [aE,aH (show (i:Int)<(w.length:Int) by omega),cond_true,show aA .i64 (aA .i64 (2*(i:Int))+1)=((2*i+1:Nat):Int) from k1,show aA .i64 (aA .i64 (2*(i:Int))+2)=((2*i+2:Nat):Int) from k2,
   mH (p:=p) (w:=w) (i:=2*i+1) (by omega) (by omega),mH (p:=p) (w:=w) (i:=2*i+2) (by omega) (by omega),aB,aC w i hi,aT (show i<1000000000 by omega),
   DW fok r64 (pl.ids _ (gV b3 br.cho (i:=2*i+1) (by omega))) (pl.ids _ (gV b3 br.cho (i:=2*i+2) (by omega)))]
  by_cases h:w[i]! =DV f t (bD p w (2*i+1)) (bD p w (2*i+2))
  · rw [bP h];exact ⟨fun k=>absurd h k,fun _=>rfl⟩
  · rw [dL h];exact ⟨fun _=>rfl,fun k=>absurd k h⟩) (by
  unfold uV;simp only [aE,dec_f (show¬(w.length:Int)<(w.length:Int) by omega),cond_false])
 unfold yW;refine (show _=_ from st).trans ?_;have R:=dE (f:=f) (t:=t) pl.one
 by_cases h:w=aX f t p
 · rw [if_pos (by rw [h];exact R.2),aH h]
 rw [if_neg (fun k=>h (TR ⟨b3,k⟩ R)),dec_f h]
theorem M6 {f:List Pt} (fok:cC f) {t:Int×Int} {p:List Int} (pl:I2 f p) {e:Int×Int} (he:e∈eB p (aX f t p)):dQ (fT f e.2) (fT f e.1) t:=by
 have R:=dE (f:=f) (t:=t) pl.one;have R1:=R.1;obtain ⟨i,hi,h⟩:=I1.1 he;obtain ⟨a1,a2,a3⟩:=zK h;have ne:=KP R.1 R.chosen pl.once hi a1;have hx:=(pl.ids _ (gV R.1 R.chosen (i:=2*i+1) (by omega))).has a1
 have hy:=(pl.ids _ (gV R.1 R.chosen (i:=2*i+2) (by omega))).has a2
 have wv:=R.2 i hi;unfold DV at wv;rw [if_neg (by omega),if_neg (by omega)] at wv
 by_cases ld:dQ (fT f (bD p (aX f t p) (2*i+1))) (fT f (bD p (aX f t p) (2*i+2))) t
 · rw [if_pos ld] at wv
   rcases a3 with ⟨rfl,_⟩|⟨_,h⟩
   · exact ld
   exact absurd wv h
 rw [if_neg ld] at wv
 rcases a3 with ⟨_,h⟩|⟨rfl,_⟩
 · rw [wv] at h;exact absurd h.symm ne
 exact rE t (by rw [(dB fok hx).2,(dB fok hy).2];exact ne) ld
theorem zL {k:bO} (fit:wJ k.clock) (hl:k.bracket.places.length<=1000) (wl:k.bracket.wins.length<=1000):fD k=some (if sT k then 0 else 8):=by
 unfold fD;rw [QO fit,aB]
 by_cases ok:aZ k.clock
 case neg=>rw [if_neg ok,if_neg (fun h=>ok h.clk)];rfl
 rw [if_pos ok,bP rfl,cond_false,show wB k.bracket=_ from Q6 k.bracket.places k.bracket.wins hl wl,aB]
 by_cases br:RZ k.bracket.places k.bracket.wins
 case neg=>rw [if_neg br,if_neg (fun h=>br h.br)];rfl
 have b1:=br.one;have b2:=br.most;rw [if_pos br,bP rfl,cond_false,aE,Q9,aB]
 by_cases pw:aDR k.bracket.places.length
 case neg=>rw [dec_f pw,if_neg (fun h=>pw h.pow)];rfl
 have fe:k.clock.field=⟨k.clock.field.points⟩:=rfl;rw [aH pw,ac,cond_false,fe,RA ok.fld _ hl,aB]
 by_cases pm:(nK k.clock.field.points).Perm (gZ k.bracket.places)
 case neg=>
  by_cases kn: ∀i,i<k.bracket.places.length->k.bracket.places[i]! = -1\/nC k.clock.field.points k.bracket.places[i]!
  case neg=>rw [dec_f kn,if_neg (fun h=>pm h.perm)];rfl
  rw [aH kn,ac,cond_false,KS _ hl,aB,aE,aE,if_neg (fun h=>pm h.perm)]
  rw [dL (fun h=>pm ?_)]
  · rfl
  have h:((gZ k.bracket.places).length:Int)=(k.clock.field.points.length:Int):=h;refine (zH (aBp br.once) (fun x hx=>?_) (by rw [rF];omega)).symm
  obtain ⟨h1,h2⟩:=CJ.1 hx;obtain ⟨i,hi,rfl⟩:=aW.1 h1;rcases kn i hi with e|e
  · omega
  exact GX.2 e
 have pl:=qN br pm;have kn: ∀i,i<k.bracket.places.length->k.bracket.places[i]! = -1\/nC k.clock.field.points k.bracket.places[i]!:=fun i hi=>by
  rcases pl.ids _ (bL hi) with e|e
  · exact .inl e
  exact .inr e.2
 rw [aH kn,ac,cond_false,KS _ hl,aB,aE,aE,bP (by rw [<- pm.length_eq,rF]),cond_false,show yW k.bracket ⟨k.clock.field.points⟩ k.clock.now=_ from R6 ok.fld ok.now64 br pl,aB]
 by_cases hw:k.bracket.wins=aX k.clock.field.points k.clock.now k.bracket.places
 case neg=>rw [dec_f hw,if_neg (fun h=>hw h.right)];rfl
 obtain ⟨eok,nd,el⟩:=oU ok.fld ok.now64 (t:=k.clock.now) pl;rw [aH hw,ac,cond_false,show wC k.bracket=_ from F5 br.len b2,aB];rw [hw];rw [aNf ok _ eok.kn,aB]
 by_cases hc:(k.clock.certs.list.map fun x=>x.2).Perm (eB k.bracket.places (aX k.clock.field.points k.clock.now k.bracket.places))
 · rw [aH (show _/\_ from ⟨by rw [<- hc.length_eq,af],fun i hi=>⟨zJ.2 (hc.mem_iff.2 (bL hi)),M6 ok.fld pl (bL hi)⟩⟩),if_pos ⟨ok,br,pw,pm,hw,by rw [hw];exact hc⟩];rfl
 rw [dec_f (fun h=>hc ?_),if_neg (fun h=>hc (by have:=h.cert;rw [hw] at this;exact this))]
 · rfl
 have cl:(k.clock.certs.list.map fun x=>x.2).length=k.clock.certs.list.length:=af ..
 refine (zH nd (fun x hx=>?_) (by omega)).symm
 obtain ⟨i,hi,rfl⟩:=aW.1 hx;exact zJ.1 (h.2 i hi).1
noncomputable def rkN (f:List Pt) (t:Int×Int) (k:Nat):Nat->Nat
 |0=>0
 |j+1=>rkN f t k j+(if j≠k/\ahP f t j k then 1 else 0)
theorem aBr (f:List Pt) (t:Int×Int) (k:Nat): ∀j,rkN f t k j<=j/\(k<j->rkN f t k j+1<=j)
 |0=>⟨aa _,fun h=>by omega⟩
 |j+1=>by
  obtain ⟨h1,h2⟩:=aBr f t k j;rw [rkN]
  by_cases c:j≠k/\ahP f t j k
  · rw [if_pos c]
    exact ⟨by omega,fun h=>by have:=h2 (by omega);omega⟩
  rw [if_neg c]
  exact ⟨by omega,fun h=>by omega⟩
theorem V4 {f:List Pt} (h:gI f) {t:Int×Int} {i:Nat} (tp:HM (ahP f t) 0 f.length i): ∀j,j<=f.length->rkN f t i j=0
 |0,_=>rfl
 |j+1,hj=>by
  have hi:=tp.hi;rw [rkN,V4 h tp j (by omega),if_neg (fun w=>(aCI h t).asy j i (by omega) hi w.2 (tp.top j (ao _) (by omega) w.1))]
theorem TX {f:List Pt} {t:Int×Int} {i k:Nat} (tp:HM (ahP f t) 0 f.length i) (hk:k<f.length) (hne:k≠i): ∀j,i<j->1<=rkN f t k j
 |0,h=>by omega
 |j+1,h=>by
  rw [rkN]
  by_cases q:i=j
  · rw [if_pos ⟨by omega,by rw [<- q];exact tp.top k (ao _) hk hne⟩];omega
  have:=TX tp hk hne j (by omega);omega
theorem aDS {f:List Pt} (fok:cC f) {t:Int×Int} (r64:oA t) {k:Nat} (hk:k<f.length):DK ⟨f⟩ f[k]! t=some (rkN f t k f.length:Int):=by
 have f1:=fok.1;have key:=dO (body:=nI) (fun j=>((rkN f t k j:Int),(j:Int),f,(f[k]!).1,(f[k]!).2.1,(f[k]!).2.2,t)) f.length (fun j hj=>by
  have g:=aC f j hj;have le:=(aBr f t k j).1;have ld:=FQ (fok.2.1 _ (bL hj)) (fok.2.1 _ (bL hk)) r64;have peta:((f[k]!).1,(f[k]!).2.1,(f[k]!).2.2)=f[k]!:=rfl;unfold nI;rw [rkN]
  by_cases q:j=k
  · subst q
    simp only [aE,aH (show (j:Int)<(f.length:Int) by omega),cond_true,g,aB,bP rfl,cond_false,aT (show j<1000000000 by omega),if_neg (show¬(j≠j/\ahP f t j j) from fun w=>w.1 rfl),ce]
  have ne:(f[j]!).1≠(f[k]!).1:=fun h=>q (zD fok.2.2 hj hk h)
  by_cases c:ahP f t j k
  · rw [show decide (dQ f[j]! f[k]! t)=true from aH c] at ld
    simp only [aE,aH (show (j:Int)<(f.length:Int) by omega),cond_true,g,aB,dL ne,peta,ld,aT (show j<1000000000 by omega),aT (show rkN f t k j<1000000000 by omega),if_pos (show j≠k/\ahP f t j k from ⟨q,c⟩)]
  rw [show decide (dQ f[j]! f[k]! t)=false from dec_f c] at ld
  simp only [aE,aH (show (j:Int)<(f.length:Int) by omega),cond_true,g,aB,dL ne,peta,ld,cond_false,aT (show j<1000000000 by omega),if_neg (show¬(j≠k/\ahP f t j k) from fun w=>c w.2),ce])
 unfold DK;rw [show aG nI (0,0,f,(f[k]!).1,(f[k]!).2.1,(f[k]!).2.2,t)=_ from key];refine aK ?_;unfold nI;simp only [aE,dec_f (show¬(f.length:Int)<(f.length:Int) by omega),cond_false]
noncomputable def V5 (f:List Pt) (t:Int×Int):Nat->List Int
 |0=>bi f.length 0
 |i+1=>(V5 f t i).set (rkN f t i f.length) (f[i]!).1
theorem KT (f:List Pt) (t:Int×Int): ∀i,(V5 f t i).length=f.length
 |0=>List.length_replicate ..
 |i+1=>by rw [V5,am,KT f t i]
theorem RC {f:List Pt} (h:gI f) {t:Int×Int} {i:Nat} (tp:HM (ahP f t) 0 f.length i): ∀j,j<=f.length->i<j->(V5 f t j)[0]! =(f[i]!).1
 |0,_,hi=>by omega
 |j+1,hj,hi=>by
  have hn:=tp.hi;rw [V5,bF]
  by_cases q:j=i
  · subst q
    rw [if_pos ⟨by rw [V4 h tp _ (aa _)],by rw [V4 h tp _ (aa _),KT];omega⟩]
  have:=TX tp (show j<f.length by omega) q f.length hn
  rw [if_neg (fun w=>by omega)]
  exact RC h tp j (by omega) (by omega)
theorem aBs {f:List Pt} (fok:cC f) {t:Int×Int} (r64:oA t):uZ ⟨f⟩ t=some (V5 f t f.length):=by
 have f1:=fok.1;have mk:xB (f.length:Int) (0:Int)=some (bi f.length 0):=by
  unfold xB;rw [if_pos ⟨by omega,by omega⟩,bq]
 have key:=dO (body:=mB) (fun i=>((i:Int),f,t.1,t.2,V5 f t i)) f.length (fun i hi=>by
  have g:=aC f i hi;have le:=(aBr f t i f.length).2 hi;have go:=aC (V5 f t i) (rkN f t i f.length) (by rw [KT];omega)
  unfold mB;simp only [aE,aH (show (i:Int)<(f.length:Int) by omega),cond_true,g,aB,show ((t.1,t.2):Int×Int)=t from rfl,aDS fok r64 hi,go,wG,aT (show i<1000000000 by omega)]
  rfl)
 unfold uZ;simp only [aE,beq_self_eq_true,cond_true,mk,aB];rw [show aG mB (0,f,t.1,t.2,bi f.length 0)=_ from key];refine aK ?_;unfold mB;simp only [aE,dec_f (show¬(f.length:Int)<(f.length:Int) by omega),cond_false]
theorem aBt (j:Nat):jI 0 j:=by
 have key: ∀(n m:Nat),m<=n->1<=m-> ∃d,m / 2^d=1:=by
  intro n
  induction n with
  |zero=>intro m h1 h2;omega
  |succ n ih=>
   intro m h1 h2
   by_cases h:m=1
   · exact ⟨0,by rw [h]⟩
   obtain ⟨d,hd⟩:=ih (m / 2) (by omega) (by omega)
   refine ⟨d+1,?_⟩;rw [bj,cf,<- ay];exact hd
 obtain ⟨d,hd⟩:=key (j+1) (j+1) (aa _) (by omega)
 exact ⟨d,by omega⟩
theorem Z2 {i j:Nat} (h:jI i j) (hne:j≠i):jI (2*i+1) j\/jI (2*i+2) j:=by
 obtain ⟨d,hd⟩:=h;cases d with
 |zero=>rw [ci,Nat.div_one] at hd;omega
 |succ d=>
  rw [bj,<- ay] at hd
  by_cases e:(j+1) / 2^d=2*(i+1)
  · exact .inl ⟨d,by omega⟩
  exact .inr ⟨d,by omega⟩
theorem aGe {i j:Nat} (h:jI i j) (hne:j≠i):2*i+1<=j:=by
 obtain ⟨d,hd⟩:=h;cases d with
 |zero=>rw [ci,Nat.div_one] at hd;omega
 |succ d=>
  rw [bj,cf,<- ay] at hd
  have:=Nat.div_le_self ((j+1) / 2) (2^d)
  omega
section
variable {f : List Pt} (fok : cC f) {t : Int × Int} {p w : List Int} (pl : I2 f p) (R : QS f t p w)
include fok pl R
theorem RD {i:Nat} (hi:i<w.length+p.length):RY f (bD p w i):=by
 have _:=fok;exact pl.ids _ (gV R.1 R.chosen hi)
theorem aGf: ∀(d i:Nat),w.length+p.length-i<=d->i<w.length+p.length-> ∀j,w.length<=j->j<w.length+p.length->jI i j->0<=p[j-w.length]!->
 0<=bD p w i/\(bD p w i=p[j-w.length]!\/dQ (fT f (bD p w i)) (fT f p[j-w.length]!) t):=by
 have hl:=R.1;intro d
 induction d with
 |zero=>intro i h1 h2;omega
 |succ d ih=>
  intro i h1 h2 j j1 j2 hu h0
  by_cases hi:i<w.length
  · have hne:j≠i:=by omega
    have wv:bD p w i=DV f t (bD p w (2*i+1)) (bD p w (2*i+2)):=by
     rw [<- R.2 i hi];unfold bD;rw [if_pos hi]
    have ix:=RD fok pl R (i:=2*i+1) (by omega)
    have iy:=RD fok pl R (i:=2*i+2) (by omega)
    have kn:=KP hl R.chosen pl.once hi;rw [wv];unfold DV;rcases Z2 hu hne with hu|hu
    · obtain ⟨a,b⟩:=ih (2*i+1) (by omega) (by omega) j j1 j2 hu h0
      rw [if_neg (by omega)]
      by_cases y0:bD p w (2*i+2)<0
      · rw [if_pos y0];exact ⟨a,b⟩
      rw [if_neg y0]
      by_cases ld:dQ (fT f (bD p w (2*i+1))) (fT f (bD p w (2*i+2))) t
      · rw [if_pos ld];exact ⟨a,b⟩
      rw [if_neg ld]
      have l2:=rE t (by rw [(dB fok (ix.has a)).2,(dB fok (iy.has (by omega))).2];exact kn a) ld
      refine ⟨by omega,.inr ?_⟩
      rcases b with b|b
      · rw [<- b];exact l2
      exact wL l2 b
    obtain ⟨a,b⟩:=ih (2*i+2) (by omega) (by omega) j j1 j2 hu h0
    by_cases x0:bD p w (2*i+1)<0
    · rw [if_pos x0];exact ⟨a,b⟩
    rw [if_neg x0,if_neg (by omega)]
    by_cases ld:dQ (fT f (bD p w (2*i+1))) (fT f (bD p w (2*i+2))) t
    · rw [if_pos ld]
      refine ⟨by omega,.inr ?_⟩
      rcases b with b|b
      · rw [<- b];exact ld
      exact wL ld b
    rw [if_neg ld];exact ⟨a,b⟩
  have e:j=i:=aq fun h=>by have:=aGe hu h;omega
  subst e
  have:bD p w j=p[j-w.length]!:=by unfold bD;rw [if_neg hi]
  rw [this];exact ⟨h0,.inl rfl⟩
theorem Z3 (pm:(nK f).Perm (gZ p)) (hf:0<f.length): ∃i,HM (ahP f t) 0 f.length i/\(f[i]!).1=bD p w 0/\0<=bD p w 0:=by
 have hl:=R.1;have h1:=pl.one;have all: ∀k,k<f.length->0<=bD p w 0/\(bD p w 0=(f[k]!).1\/dQ (fT f (bD p w 0)) f[k]! t):=fun k hk=>by
  have m:(f[k]!).1∈gZ p:=pm.mem_iff.1 (GX.2 ⟨k,hk,rfl⟩);obtain ⟨m1,m2⟩:=CJ.1 m;obtain ⟨j,hj,e⟩:=aW.1 m1
  have:=aGf fok pl R _ 0 (aa _) (by omega) (w.length+j) (by omega) (by omega) (aBt _) (by rw [show w.length+j-w.length=j by omega,e];exact m2)
  rw [show w.length+j-w.length=j by omega,e,DS fok.2.2 hk rfl] at this
  exact this
 have r0:=(all 0 hf).1;obtain ⟨i,hi,e⟩:=(RD fok pl R (i:=0) (by omega)).has r0
 refine ⟨i,⟨ao _,hi,fun k _ hk hne=>?_⟩,e,r0⟩
 rcases (all k hk).2 with h|h
 · exact absurd (zD fok.2.2 hi hk (by rw [e,h])) (fun h=>hne h.symm)
 rw [<- e,DS fok.2.2 hi rfl] at h;exact h
end
structure zM (k:bO):Prop where
 c:TN k.clock
 p:k.bracket.places.length<=1000
 w:k.bracket.wins.length<=1000
theorem HN:zM AY:=⟨RX,ao _,ao _⟩
theorem aBu {k:bO} (h:zM k):IT k=some k:=by
 have h1:=h.p;have h2:=h.w;unfold IT PR;rw [aBj h.c,aB,aY (by omega),aB,aY (by omega),aB,aB]
theorem Z4 (k:bO):vV k=some true\/(vV k=some false/\zM k):=by
 unfold vV FI
 rcases ZQ k.clock with e|⟨e,sh⟩
 · rw [e];exact .inl rfl
 rw [e,aB,cond_false];simp only [aE]
 by_cases h:70<k.bracket.places.length
 · rw [aH (by omega)];exact .inl rfl
 rw [dec_f (by omega),cond_false,aB]
 by_cases h2:70<k.bracket.wins.length
 · rw [aH (by omega)];exact .inl rfl
 rw [dec_f (by omega)];exact .inr ⟨rfl,sh,by omega,by omega⟩
theorem aTA.short {c:aO} {f:List Pt} {p:List Int} {k:bO} (pl:I2 f p) (h:aTA c f p k):zM k:=by
 have R:=dE (f:=f) (t:=c.now) pl.one;have b2:=pl.most;have b3:=R.1;refine ⟨h.ren.ok.short,by rw [h.places];show p.length<=1000;omega,by rw [h.places];show (aX f c.now p).length<=1000;omega⟩
theorem sT.fit (k:bO) (n:aBi k.clock) (sh:zM k):wJ k.clock:=⟨n.now,⟨sh.c.s3,sh.c.h,sh.c.w,n.at64⟩,sh.c.d⟩
theorem KU {k:bO} (ok:sT k) (sh:zM k) (c1:iC k=some 0) (c2:fD k=some 0): ∃b:Int×Int,nP k=some b/\J9 k=some b/\(b=(0,42)/\k.clock.field.points.length=0\/ ∃i,HM (ahP k.clock.field.points k.clock.now) 0 k.clock.field.points.length i/\b=((k.clock.field.points[i]!).1,0)):=by
 have fok:=ok.clk.fld;have f1:=fok.1;have s1:=sh.p;have s2:=sh.w;have b1:=ok.br.one;have b2:=ok.br.most;have b3:=ok.br.len;have pl:=qN ok.br ok.perm;have R:QS k.clock.field.points k.clock.now k.bracket.places k.bracket.wins:=by rw [ok.right];exact dE pl.one
 have bc:lD k.bracket=some 0:=by
  have:=CI k.bracket.places k.bracket.wins s1 s2
  rw [if_pos ok.br] at this;exact this
 have nd:gP k.bracket 0=some (bD k.bracket.places k.bracket.wins 0):=nL (p:=k.bracket.places) (w:=k.bracket.wins) (i:=0) (by omega) (by omega)
 unfold nP J9 yT;rw [c1,c2,aB,aB,bP rfl,cond_false,cond_false,aE,bc,aB,bP rfl,cond_false,nd,aB]
 by_cases h0:k.clock.field.points.length=0
 · refine ⟨(0,42),?_,?_,.inl ⟨rfl,h0⟩⟩
   · rw [dec_f (fun h=>?_)]
     · rfl
     have m:=gV R.1 R.chosen (i:=0) (by omega)
     have:=ok.perm.mem_iff.2 (CJ.2 ⟨m,h⟩)
     obtain ⟨i,hi,_⟩:=GX.1 this;omega
   rw [eH (by omega),cond_true]
 obtain ⟨i,tp,e,r0⟩:=Z3 fok pl R ok.perm (by omega)
 have hi:=tp.hi;refine ⟨((k.clock.field.points[i]!).1,0),?_,?_,.inr ⟨i,tp,rfl⟩⟩
 · rw [aH r0,cond_true,e];rfl
 have g:=aC (V5 k.clock.field.points k.clock.now k.clock.field.points.length) 0 (by rw [KT];omega)
 rw [show ((0:Nat):Int)=0 from rfl,RC fok.2.2 tp _ (aa _) hi] at g;rw [eM (by omega),cond_false,show uZ k.clock.field k.clock.now=_ from aBs fok ok.clk.now64,aB,g,aB]
theorem MF {k:bO} (ok:sT k) (c1:iC k=some 0) (c2:fD k=some 0):sI k=some (eB k.bracket.places k.bracket.wins,0)/\MX k=some (eB k.bracket.places k.bracket.wins,0):=by
 have pl:=qN ok.br ok.perm;have m1:jM k.clock.field k.clock.now k.bracket.places=_:=sS ok.clk.fld ok.clk.nowv ok.clk.now64 pl;rw [<- ok.right] at m1;have of:wC k.bracket=_:=F5 ok.br.len ok.br.most;constructor
 · unfold sI
   rw [c1,aB,bP rfl,cond_false,m1,aB]
 unfold MX
 rw [c2,aB,bP rfl,cond_false,of,aB]
theorem aDT {c:aO} (ok:aZ c) {to:Int×Int} (rt:bQ to) (due: ¬ZV c to) {y:wI} (hy:y∈c.certs.list) (is:(bM c.field.points y.2 c.now).2=true):
 to.1*(bM c.field.points y.2 c.now).1.2<(bM c.field.points y.2 c.now).1.1*to.2:=by
 obtain ⟨d,hd,_,ev⟩:=ok.fol.has _ hy is;obtain ⟨v,hv,he⟩:=aW.1 ev;have tl:=L9 ok.agd v hv;have h0:0<c.agenda.heap.length:=by omega
 have e0:=(ok.agd.ev 0 h0).1.1;have ev':=(ok.agd.ev v hv).1.1;rw [he] at tl ev';have n1: ¬mE (bM c.field.points y.2 c.now).1 (Ev.at c.agenda.heap[0]!)<0:=fun q=>tl (.inl q)
 rw [xT] at n1;have n2: ¬mE (Ev.at c.agenda.heap[0]!) to<=0:=fun q=>due ⟨h0,q⟩
 have n3:to.1*(Ev.at c.agenda.heap[0]!).2<(Ev.at c.agenda.heap[0]!).1*to.2:=by
  unfold mE at n2;rcases eN ((Ev.at c.agenda.heap[0]!).1*to.2) (to.1*(Ev.at c.agenda.heap[0]!).2) with ⟨a,b⟩|⟨a,b⟩|⟨a,b⟩<;>omega
 exact BG rt.1 e0 ev' n3 (cb.1 n1)
theorem aGg {c:aO} (ok:aZ c) {to:Int×Int} (rt:bQ to) (r64:oA to) (le: ¬mE to c.now<0) (due: ¬ZV c to):aZ (atT c to):=by
 have pt:=fun (x:Int×Int) (hb:iF c.field.points x)=>And.intro (dB ok.fld hb.2).1 (dB ok.fld hb.1).1
 refine ⟨rt,r64,ok.fld,ok.crt,ok.agd,ok.w200,ok.hd,ok.known,?_⟩;refine aV.time (t:=c.now) (fun y hy=>?_) ok.fol
 obtain ⟨j,hj,rfl⟩:=aW.1 hy;have hb:=ok.known j hj;refine QR (pt _ hb).1 (pt _ hb).2 ok.nowv rt (by rw [xT] at le;exact cb.1 le) (fun is=>?_)
 exact Int.le_of_lt (aDT ok rt due hy is)
structure aV7 (c:aO) (l:List Int):Prop where
 ok:aZ c
 pm:(nK c.field.points).Perm l
 ct:(c.certs.list.map fun x=>x.2).Perm (F1 l)
theorem aV7.bd {c:aO} {l:List Int} (h:aV7 c l):l.length<=64:=by
 have:=h.ok.bd
 have:l.length=c.field.points.length:=by rw [<- h.pm.length_eq];exact af ..
 omega
theorem RE {c:aO} (ok:aZ c) {lo hi:Int} (hb:iF c.field.points (lo,hi)) (h:wY c.certs.list (lo,hi)) {to:Int×Int} (rt:bQ to) (le: ¬mE to c.now<0) (due: ¬ZV c to):
 ¬dQ (fT c.field.points lo) (fT c.field.points hi) to:=by
 obtain ⟨w,w1,w2⟩:=h;have hk':=(dB ok.fld hb.2).1;have hj':=(dB ok.fld hb.1).1;have wn:bM c.field.points (c.certs.list[w]!).2 c.now=nJ (fT c.field.points hi) (fT c.field.points lo) c.now:=by
  unfold bM;rw [w2]
 refine aNk hk' hj' ok.nowv rt (by rw [xT] at le;omega) fun is=>?_
 rw [<- wn] at is;obtain ⟨d,hd,_,ev⟩:=ok.fol.has _ (bL w1) is;obtain ⟨v,hv,he⟩:=aW.1 ev;have tl:=L9 ok.agd v hv;have h0:0<c.agenda.heap.length:=by omega
 have e0:=(ok.agd.ev 0 h0).1.1;have ev':=(ok.agd.ev v hv).1.1;rw [he] at tl ev';rw [<- wn];have n1: ¬mE (bM c.field.points (c.certs.list[w]!).2 c.now).1 (Ev.at c.agenda.heap[0]!)<0:=fun q=>tl (.inl q)
 rw [xT] at n1;have n2: ¬mE (Ev.at c.agenda.heap[0]!) to<=0:=fun q=>due ⟨h0,q⟩
 have n3:to.1*(Ev.at c.agenda.heap[0]!).2<(Ev.at c.agenda.heap[0]!).1*to.2:=by
  unfold mE at n2;rcases eN ((Ev.at c.agenda.heap[0]!).1*to.2) (to.1*(Ev.at c.agenda.heap[0]!).2) with ⟨a,b⟩|⟨a,b⟩|⟨a,b⟩<;>omega
 exact BG rt.1 e0 ev' n3 (cb.1 n1)
theorem BO {c:aO} (ok:aZ c) {p:List Int} (pl:I2 c.field.points p) (ct: ∀e∈eB p (aX c.field.points c.now p),wY c.certs.list e) {to:Int×Int} (rt:bQ to) (le: ¬mE to c.now<0) (due: ¬ZV c to):
 aX c.field.points to p=aX c.field.points c.now p:=by
 have R:=dE (f:=c.field.points) (t:=c.now) pl.one;have R1:=R.1;refine TR (dE pl.one) ⟨R.1,fun i hi=>?_⟩
 have wv:=R.2 i hi;have ne:=KP R.1 R.chosen pl.once hi;have ix:=pl.ids _ (gV R.1 R.chosen (i:=2*i+1) (by omega))
 have iy:=pl.ids _ (gV R.1 R.chosen (i:=2*i+2) (by omega))
 have mem: ∀e,AX p (aX c.field.points c.now p) i=some e->wY c.certs.list e:=fun e h=>ct e (I1.2 ⟨i,hi,h⟩)
 unfold AX at mem;rw [wv];rw [wv] at mem;generalize bD p (aX c.field.points c.now p) (2*i+1)=x at*;generalize bD p (aX c.field.points c.now p) (2*i+2)=y at*;unfold DV at*
 by_cases x0:x<0
 · rw [if_pos x0,if_pos x0]
 rw [if_neg x0,if_neg x0]
 by_cases y0:y<0
 · rw [if_pos y0,if_pos y0]
 rw [if_neg y0,if_neg y0];rw [if_neg x0,if_neg y0,if_neg (show¬(x<0\/y<0) by omega)] at mem
 have hx:=ix.has (by omega)
 have hy:=iy.has (by omega)
 have nxy:=ne (by omega)
 by_cases ld:dQ (fT c.field.points x) (fT c.field.points y) c.now
 · rw [if_pos ld]
   rw [if_pos ld,if_pos rfl] at mem;have st:=RE ok (lo:=y) (hi:=x) ⟨hy,hx⟩ (mem _ rfl) rt le due;rw [if_pos (rE to (by rw [(dB ok.fld hx).2,(dB ok.fld hy).2];exact fun h=>nxy h.symm) st)]
 rw [if_neg ld]
 rw [if_neg ld,if_neg (fun h=>nxy h.symm)] at mem
 have st:=RE ok (lo:=x) (hi:=y) ⟨hx,hy⟩ (mem _ rfl) rt le due;rw [if_neg st]
def tP (c:aO) (p w:List Int) (to:Int×Int) (out:List (Int×Int)):=
 (c.now.1,c.now.2,c.field.points,c.certs.next_,c.certs.list,c.agenda.slots.uses,c.agenda.slots.used,c.agenda.slots.free,c.agenda.heap,c.agenda.where_,c.due,p,w,to.1,to.2,(0:Int),(0:Int),(0:Int),out)
def tR (c:aO) (p w:List Int) (to:Int×Int) (out:List (Int×Int)):=
 (to.1,to.2,(0:Int),(0:Int),(0:Int),c.now.1,c.now.2,c.field.points,c.certs.next_,c.certs.list,c.agenda.slots.uses,c.agenda.slots.used,c.agenda.slots.free,c.agenda.heap,c.agenda.where_,c.due,p,w,out)
structure RF (r:bO×List (Int×Int)×Int):Prop where
 h:zM r.1
 l:r.2.1.length<=1048576
structure aTC (f:List Pt) (p:List Int) (to:Int×Int) (k:bO):Prop where
 clk:aZ k.clock
 fld:k.clock.field.points=f
 now:k.clock.now=to
 br:k.bracket=⟨p,aX f to p⟩
 cert:(k.clock.certs.list.map fun x=>x.2).Perm (eB p (aX f to p))
 due: ¬ZV k.clock to
def aNn (f:List Pt) (p:List Int) (to:Int×Int) (r:bO×List (Int×Int)×Int):Prop:=r.2.2=18\/(r.2.2=0/\aTC f p to r.1)
theorem RG {to:Int×Int} (rt:bQ to) (r64:oA to) {p:List Int} (d:Int)
 (ih: ∀(c:aO) (out:List (Int×Int)),1000000-pJ c<d->aZ c->I2 c.field.points p->(c.certs.list.map fun x=>x.2).Perm (eB p (aX c.field.points c.now p))-> ¬mE to c.now<0->(out.length:Int)<=pJ c+200->
  ∃R:bO×List (Int×Int)×Int,aG fR (tP c p (aX c.field.points c.now p) to out)=some R/\aG iD (tR c p (aX c.field.points c.now p) to out)=some R/\RF R/\aNn c.field.points p to R)
 (c:aO) (out:List (Int×Int)) (hd:1000000-pJ c<=d) (ok:aZ c) (pl:I2 c.field.points p) (cp:(c.certs.list.map fun x=>x.2).Perm (eB p (aX c.field.points c.now p))) (le: ¬mE to c.now<0) (ho:(out.length:Int)<=pJ c+200):
 ∃R:bO×List (Int×Int)×Int,aG fR (tP c p (aX c.field.points c.now p) to out)=some R/\aG iD (tR c p (aX c.field.points c.now p) to out)=some R/\RF R/\aNn c.field.points p to R:=by
 have bd:=ok.bd;have rb:=V1 ok;have B:=dE (f:=c.field.points) (t:=c.now) pl.one;have B1:=B.1;have pm:=pl.most;have ceta:(aO.mk (c.now.1,c.now.2) (Field.mk c.field.points) (bK.mk c.certs.next_ c.certs.list) (aP.mk (aU.mk c.agenda.slots.uses c.agenda.slots.used c.agenda.slots.free) c.agenda.heap c.agenda.where_) c.due)=c:=rfl;have teta:((to.1,to.2):Int×Int)=to:=rfl
 have ct: ∀e∈eB p (aX c.field.points c.now p),wY c.certs.list e:=fun e he=>zJ.2 (cp.mem_iff.2 he)
 by_cases due:ZV c to
 · obtain ⟨x,c1,e1,e2,ok1,hf,_,hr,hn⟩:=aGa ok rt r64 le due
   obtain ⟨R,s1,s2,s3⟩:=I3 ok1 ok1.fld (p:=p) (by rw [hf];exact pl)
   have s1:kC c1 c1.field p=some R:=s1;have s2:pT c1 c1.field p=some R:=s2;have ol:bZ out [x]=some (out++[x]):=fE (by rw [ae];omega)
   rcases s3 with ⟨q0,qs⟩|he
   · have st1:fR (tP c p (aX c.field.points c.now p) to out)=some (.next (tP R.1.clock R.1.bracket.places R.1.bracket.wins to (out++[x]))):=by
      unfold fR tP;simp only [ceta,teta,e1,aB,s1,q0,show ((0:Int) !=0)=false from rfl,cond_false,ol]
     have st2:iD (tR c p (aX c.field.points c.now p) to out)=some (.next (tR R.1.clock R.1.bracket.places R.1.bracket.wins to (out++[x]))):=by
      unfold iD tR;simp only [ceta,teta,KR ok r64,aH due,aB,cond_true,e2,s2,q0,show ((0:Int) !=0)=false from rfl,cond_false,ol]
     have rr:=qs.ren.room;rw [bC st1,bC st2,qs.places];have e3:aX c1.field.points c1.now p=aX R.1.clock.field.points R.1.clock.now p:=by rw [qs.ren.fld,qs.ren.now]
     dsimp only;rw [e3];have e4:R.1.clock.field.points=c.field.points:=by rw [qs.ren.fld,hf]
     have nd:=(oU qs.ren.ok.fld qs.ren.ok.now64 (t:=R.1.clock.now) (p:=p) (by rw [e4];exact pl)).2.1
     have cp2:(R.1.clock.certs.list.map fun x=>x.2).Perm (eB p (aX R.1.clock.field.points R.1.clock.now p)):=by
      refine (List.perm_ext_iff_of_nodup (F2 qs.ren.ok.crt) nd).2 fun e=>⟨fun h=>?_,fun h=>?_⟩
      · obtain ⟨x,hx,rfl⟩:=List.mem_map.1 h
        rw [<- e3];exact qs.ren.sub x hx
      rw [<- e3] at h
      exact zJ.1 (qs.ren.has e h)
     rw [<- e4];refine ih R.1.clock _ (by omega) qs.ren.ok (by rw [e4];exact pl) cp2 (fun h=>?_) (by rw [ar,ae];omega)
     have h2:=due.2;rw [qs.ren.now,hn,xT] at h
     have: ¬0<mE (Ev.at c.agenda.heap[0]!) to:=by omega
     unfold mE at this;rcases eN ((Ev.at c.agenda.heap[0]!).1*to.2) (to.1*(Ev.at c.agenda.heap[0]!).2) with ⟨a,b⟩|⟨a,b⟩|⟨a,b⟩<;>omega
   refine ⟨(AY,[],18),aK ?_,aK ?_,⟨HN,by decide⟩,.inl rfl⟩
   · unfold fR tP
     simp only [ceta,teta,e1,aB,s1,he,show ((0:Int) !=0)=false from rfl,show ((18:Int) !=0)=true from rfl,cond_false,cond_true];rfl
   unfold iD tR
   simp only [ceta,teta,KR ok r64,aH due,aB,cond_true,e2,s2,he,show ((18:Int) !=0)=true from rfl];rfl
 have h1:jM c.field to p=_:=sS ok.fld rt r64 pl
 rw [BO ok pl ct rt le due] at h1;have sh:zM ⟨c,⟨p,aX c.field.points c.now p⟩⟩:=⟨ok.short,by show p.length<=1000;omega,by show (aX c.field.points c.now p).length<=1000;omega⟩
 have tw:=aBu sh;refine ⟨(⟨atT c to,⟨p,aX c.field.points c.now p⟩⟩,out,0),aK ?_,aK ?_,⟨⟨?_,sh.p,sh.w⟩,by show out.length<=1048576;omega⟩,.inr ⟨rfl,aGg ok rt r64 le due,rfl,rfl,?_,?_,due⟩⟩
 · unfold fR tP
   simp only [ceta,teta,aGb ok rt r64 le due,aB,show ((6:Int) !=0)=true from rfl,cond_true,aNj ok rt r64 le due];rw [show jM (atT c to).field to p=_ from h1,aB]
 · unfold iD tR
   simp only [ceta,teta,KR ok r64,dec_f due,aB,cond_false,tw,aGc ok]
 · have:=ok.short
   exact ⟨this.f,this.l,this.d,this.h,this.w,this.s1,this.s2,this.s3⟩
 · rw [BO ok pl ct rt le due]
 rw [BO ok pl ct rt le due];exact cp
theorem aGh {to:Int×Int} (rt:bQ to) (r64:oA to) {p:List Int}: ∀(d:Nat) (c:aO) (out:List (Int×Int)),1000000-pJ c<=(d:Int)->aZ c->I2 c.field.points p->(c.certs.list.map fun x=>x.2).Perm (eB p (aX c.field.points c.now p))-> ¬mE to c.now<0->(out.length:Int)<=pJ c+200->
 ∃R:bO×List (Int×Int)×Int,aG fR (tP c p (aX c.field.points c.now p) to out)=some R/\aG iD (tR c p (aX c.field.points c.now p) to out)=some R/\RF R/\aNn c.field.points p to R:=by
 intro d
 induction d with
 |zero=>exact fun c out hd ok pl cp le ho=>RG rt r64 0 (fun c _ h ok _ _ _ _=>by have:=(V1 ok).2;omega) c out hd ok pl cp le ho
 |succ d ih=>exact fun c out hd ok pl cp le ho=>RG rt r64 ((d+1:Nat):Int) (fun c out h=>ih c out (by omega)) c out hd ok pl cp le ho
theorem I4 {k:bO} (n:aBi k.clock) (sh:zM k) {to:Int×Int} (r64:oA to):
 ∃R:bO×List (Int×Int)×Int,iI k to=some R/\pU k to=some R/\RF R/\(sT k->bQ to-> ¬mE to k.clock.now<0->aNn k.clock.field.points k.bracket.places to R):=by
 have fit:=sT.fit k n sh;have bad: ∀e:Int,RF (AY,[],e):=fun e=>⟨HN,ao _⟩
 have c1:=EJ fit sh.p sh.w;have c2:=zL fit sh.p sh.w
 by_cases ok:sT k
 case neg=>
  rw [if_neg ok] at c1 c2;refine ⟨(AY,[],8),?_,?_,bad 8,fun h=>absurd h ok⟩
  · unfold iI;rw [c1];rfl
  unfold pU;rw [c2];rfl
 rw [if_pos ok] at c1 c2
 by_cases rt:bQ to
 case neg=>
  have u:mQ k.clock to=some 8:=by
   unfold mQ;rw [mC r64,if_neg rt];rfl
  refine ⟨(AY,[],8),?_,?_,bad 8,fun _ h=>absurd h rt⟩
  · unfold iI
    rw [c1,aB,bP rfl,cond_false,dP r64,if_neg rt];rfl
  unfold pU
  rw [c2,aB,bP rfl,cond_false,u];rfl
 by_cases le:mE to k.clock.now<0
 · have u:mQ k.clock to=some 44:=by
    unfold mQ;rw [mC r64,if_pos rt,aB,bP rfl,cond_false,uD r64 n.now,aB,aH le];rfl
   refine ⟨(AY,[],44),?_,?_,bad 44,fun _ _ h=>absurd le h⟩
   · unfold iI
     rw [c1,aB,bP rfl,cond_false,dP r64,if_pos rt,aB,bP rfl,cond_false,LZ r64 n.now,if_pos ⟨rt,ok.clk.nowv⟩,aB,aH le];rfl
   unfold pU
   rw [c2,aB,bP rfl,cond_false,u];rfl
 have u:mQ k.clock to=some 0:=by
  unfold mQ;rw [mC r64,if_pos rt,aB,bP rfl,cond_false,uD r64 n.now,aB,dec_f le];rfl
 have rb:=V1 ok.clk;have pl:=qN ok.br ok.perm;obtain ⟨R,r1,r2,r3,r4⟩:=aGh rt r64 (p:=k.bracket.places) (1000000-pJ k.clock).toNat k.clock [] (by omega) ok.clk pl (by rw [<- ok.right];exact ok.cert) le (by simp;omega)
 rw [<- ok.right] at r1 r2;refine ⟨R,?_,?_,r3,fun _ _ _=>r4⟩
 · unfold iI
   rw [c1,aB,bP rfl,cond_false,dP r64,if_pos rt,aB,bP rfl,cond_false,LZ r64 n.now,if_pos ⟨rt,ok.clk.nowv⟩,aB,dec_f le];exact r1
 unfold pU
 rw [c2,aB,bP rfl,cond_false,u,aB,bP rfl,cond_false];unfold PS;show (aG iD (tR k.clock k.bracket.places k.bracket.wins to [])).bind _=_;rw [r2,aB]
structure SOA {α:Type} (P:α->α->Prop) (S:α->Prop):Prop where
 irr: ∀a,S a-> ¬P a a
 tr: ∀a b c,S a->S b->S c->P a b->P b c->P a c
 ntr: ∀a b c,S a->S b->S c-> ¬P a b-> ¬P b c-> ¬P a c
theorem SOA.asym {α:Type} {P:α->α->Prop} {S:α->Prop} (o:SOA P S) {a b:α} (ha:S a) (hb:S b) (h:P a b): ¬P b a:=fun k=>o.irr a ha (o.tr a b a ha hb ha h k)
section
variable {α : Type} [Inhabited α] {P : α -> α -> Prop} {S : α -> Prop}
def KV (l:List α) (i j:Nat):List α:=(l.set i l[j]!).set j l[i]!
theorem MG (l:List α) (i j:Nat):(KV l i j).length=l.length:=by
 unfold KV;rw [am,am]
theorem DZ (l:List α) {i j:Nat} (hi:i<l.length) (hj:j<l.length) (k:Nat):(KV l i j)[k]! =if k=j then l[i]! else if k=i then l[j]! else l[k]!:=by
 unfold KV;rw [bF,am,bF]
 by_cases c:k=j
 · rw [if_pos ⟨c,hj⟩,if_pos c]
 rw [if_neg (fun h=>c h.1),if_neg c]
 by_cases d:k=i
 · rw [if_pos ⟨d,hi⟩,if_pos d]
 rw [if_neg (fun h=>d h.1),if_neg d]
theorem I5 {l:List α} {i j:Nat} (hi:i<l.length) (hj:j<l.length):(KV l i j).Perm l:=by
 unfold KV;rw [getElem!_pos l j hj,getElem!_pos l i hi];exact List.set_set_perm hi hj
noncomputable def R7 (P:α->α->Prop):Nat->List α->List α
 |0,l=>l
 |j+1,l=>if P l[j+1]! l[j]! then R7 P j (KV l (j+1) j) else l
theorem TY (P:α->α->Prop): ∀(j:Nat) (l:List α),j<l.length->(R7 P j l).Perm l
 |0,l,_=>bn _
 |j+1,l,h=>by
  unfold R7;split
  · exact (TY P j _ (by rw [MG];omega)).trans (I5 h (by omega))
  exact bn _
def aBv (P:α->α->Prop) (l:List α) (n:Nat):Prop:= ∀a b,a<b->b<n-> ¬P l[b]! l[a]!
structure aTD (P:α->α->Prop) (l:List α) (i j:Nat):Prop where
 lt:j<=i
 le:i<l.length
 el: ∀a b,a<b->b<=i->a≠j->b≠j-> ¬P l[b]! l[a]!
 up: ∀b,j<b->b<=i-> ¬P l[b]! l[j]!
theorem aGi (o:SOA P S): ∀(j i:Nat) (l:List α),(∀x∈l,S x)->aTD P l i j->aBv P (R7 P j l) (i+1):=by
 intro j
 induction j with
 |zero=>
  intro i l _ v a b h1 h2
  by_cases c:a=0
  · subst c;exact v.up b h1 (by omega)
  exact v.el a b h1 (by omega) c (by omega)
 |succ j ih=>
  intro i l hS v;have hi:=v.le;have hj:=v.lt;have sm: ∀k,k<l.length->S l[k]!:=fun k hk=>hS _ (bL hk)
  have h1:j+1<l.length:=by omega
  have h0:j<l.length:=by omega
  unfold R7;split
  · rename_i hc
    refine ih i _ (fun x hx=>hS x ((I5 h1 h0).mem_iff.1 hx)) ⟨by omega,by rw [MG];exact hi,fun a b a1 a2 a3 a4=>?_,fun b b1 b2=>?_⟩
    · rw [DZ l h1 h0,DZ l h1 h0,if_neg a3,if_neg a4]
      by_cases c:a=j+1
      · subst c
        rw [if_pos rfl,if_neg (by omega)]
        exact v.el j b (by omega) a2 (by omega) (by omega)
      rw [if_neg c]
      by_cases d:b=j+1
      · subst d
        rw [if_pos rfl];exact v.el a j (by omega) (by omega) (by omega) (by omega)
      rw [if_neg d]
      exact v.el a b a1 a2 c d
    rw [DZ l h1 h0,DZ l h1 h0,if_pos rfl,if_neg (by omega)]
    by_cases c:b=j+1
    · subst c
      rw [if_pos rfl];exact o.asym (sm _ h1) (sm _ h0) hc
    rw [if_neg c]
    exact v.up b (by omega) b2
  rename_i hc
  intro a b a1 a2
  by_cases c:a=j+1
  · subst c;exact v.up b a1 (by omega)
  by_cases d:b=j+1
  · subst d
    by_cases e:a=j
    · subst e;exact hc
    exact o.ntr _ _ _ (sm _ h1) (sm _ h0) (sm _ (by omega)) hc (v.el a j (by omega) (by omega) c (by omega))
  exact v.el a b a1 (by omega) c d
noncomputable def F6 (P:α->α->Prop) (l:List α):Nat->List α
 |0=>l
 |i+1=>R7 P i (F6 P l i)
theorem zN (P:α->α->Prop) (l:List α): ∀i,i<=l.length->(F6 P l i).Perm l
 |0,_=>bn _
 |i+1,h=>by
  have p:=zN P l i (by omega)
  exact (TY P i _ (by rw [p.length_eq];omega)).trans p
theorem RH (o:SOA P S) {l:List α} (hS: ∀x∈l,S x): ∀i,i<=l.length->aBv P (F6 P l i) i
 |0,_=>fun a b _ h=>by omega
 |i+1,h=>by
  have p:=zN P l i (by omega)
  have s:=RH o hS i (by omega)
  refine aGi o i i _ (fun x hx=>hS x (p.mem_iff.1 hx)) ⟨aa _,by rw [p.length_eq];omega,fun a b a1 a2 a3 a4=>s a b a1 (by omega),fun b b1 b2=>by omega⟩
end
section
variable {f : List Pt} {t : Int × Int}
abbrev xD (t:Int×Int) (p q:Pt):Prop:=dQ p q t
theorem aGj {f:List Pt} (hs:gI f) (t:Int×Int):SOA (xD t) (fun p=>p∈f) where
 irr:=fun a _ h=>wM h h
 tr:=fun _ _ _ _ _ _ h k=>wL h k
 ntr:=fun a b c ha hb hc h1 h2 h=>by
  by_cases e:b.1=c.1
  · have:b=c:=by rw [<- QX hs hb,<- QX hs hc,e]
    exact h1 (this▸h)
  rcases Classical.em (dQ b c t) with k|k
  · exact h2 k
  exact h1 (wL h (rE t e k))
theorem aGk (hs:gI f) {l:List Pt} (p:l.Perm f) {i j:Nat} (hi:i<l.length) (hj:j<l.length) (hne:i≠j):(l[i]!).1≠(l[j]!).1:=by
 have nd:(nK l).Nodup:=(p.map fun x:Pt=>x.1).nodup_iff.2 (MB hs)
 intro e;have b: ∀k,k<l.length->(nK l)[k]! =(l[k]!).1:=fun k hk=>by
  unfold nK;rw [getElem!_pos _ k (by rw [af];exact hk),bu,getElem!_pos l k hk]
 have ll:(nK l).length=l.length:=af ..;rcases Nat.lt_trichotomy i j with c|c|c
 · exact gU.1 nd i j c (by omega) (by rw [b i hi,b j hj];exact e)
 · exact hne c
 exact gU.1 nd j i c (by omega) (by rw [b i hi,b j hj];exact e.symm)
def i1S (n i j:Nat) (l:List Pt) (t:Int×Int):=((0:Int),(n:Int),(i:Int),(j:Int),l,t.1,t.2)
def i2S (n i:Nat) (l:List Pt) (t:Int×Int):=((0:Int),(n:Int),(i:Int),l,t.1,t.2)
theorem aGl (fok:cC f) (r:bQ t) (r64:oA t) {n:Nat} (hn:n<=64): ∀(j i:Nat) (l:List Pt),l.Perm f->l.length=n->j<=i->i<n->
 aG bA (i1S n i j l t)=some (.next (i2S n (i+1) (R7 (xD t) j l) t)):=by
 intro j
 induction j with
 |zero=>
  intro i l p hl hj hi;refine aK ?_;unfold bA i1S i2S;simp only [dec_f (show¬(0:Int)<((0:Nat):Int) by omega),cond_false,aT (show i<1000000000 by omega),R7]
 |succ j ih=>
  intro i l p hl hj hi;have h1:j+1<l.length:=by omega
  have h0:j<l.length:=by omega
  have m1:=p.mem_iff.1 (bL h1);have m0:=p.mem_iff.1 (bL h0);have ne:=aGk fok.2.2 p h1 h0 (by omega)
  have ah:mV l[j+1]! l[j]! (t.1,t.2)=some (decide (dQ l[j+1]! l[j]! t),0):=by
   rcases EH (fok.2.1 _ m1) (fok.2.1 _ m0) r64 r with h|⟨h,_⟩
   · rw [show ((t.1,t.2):Int×Int)=t from rfl,h,if_neg ne]
   exact absurd h ne
  have wp:aA .i64 (((j+1:Nat):Int) -1)=(j:Int):=by rw [oR ⟨by omega,by omega⟩];omega
  have g1:=aC l (j+1) h1;have g0:=aC l j h0;have gs:aL (cL l ((j+1:Nat):Int) l[j]!) (j:Int)=some ((cL l ((j+1:Nat):Int) l[j]!)[j]!):=aC _ j (by rw [B4];exact h0)
  have nb:((l[j+1]!).1==(l[j]!).1)=false:=by simpa using ne
  by_cases c:dQ l[j+1]! l[j]! t
  · have s1:bA (i1S n i (j+1) l t)=some (.next (i1S n i j (KV l (j+1) j) t)):=by
     unfold bA i1S;simp only [aH (show (0:Int)<((j+1:Nat):Int) by omega),cond_true,wp,g1,g0,aB,nb,cond_false,ah,aH c,beq_self_eq_true,gs]
     simp only [wG];rfl
    rw [bC s1];have pm:=(I5 h1 h0).trans p;rw [ih i (KV l (j+1) j) pm (by rw [MG];exact hl) (by omega) hi]
    conv=>rhs;unfold R7
    rw [if_pos (show xD t l[j+1]! l[j]! from c)]
  refine aK ?_
  unfold bA i1S;simp only [aH (show (0:Int)<((j+1:Nat):Int) by omega),cond_true,wp,g1,g0,aB,nb,cond_false,ah,dec_f c,beq_self_eq_true,aT (show i<1000000000 by omega)]
  unfold R7;rw [if_neg (show¬xD t l[j+1]! l[j]! from c)];rfl
theorem aDU (fok:cC f) (r:bQ t) (r64:oA t) {c0:Int×Int×List Pt×Int×Int} (hc:c0.2.2.1.length=f.length): ∀(d i:Nat),f.length-i<=d->i<=f.length->
 aG (bB c0) (i2S f.length i (F6 (xD t) f i) t)=some (F6 (xD t) f f.length,t.1,t.2):=by
 have f1:=fok.1;intro d
 induction d with
 |zero=>
  intro i hd hi
  have:i=f.length:=by omega
  subst this;have le:=(zN (xD t) f f.length (aa _)).length_eq;refine aK ?_;unfold bB i2S;simp only [dec_f (show¬(f.length:Int)<(f.length:Int) by omega),cond_false,le,hc,beq_self_eq_true,cond_true]
 |succ d ih=>
  intro i hd hi
  by_cases e:i=f.length
  · exact ih i (by omega) hi
  have pm:=zN (xD t) f i hi
  have s1:bB c0 (i2S f.length i (F6 (xD t) f i) t)=some (.next (i2S f.length (i+1) (F6 (xD t) f (i+1)) t)):=by
   have:=aGl fok r r64 f1 i i _ pm pm.length_eq (aa _) (show i<f.length by omega)
   unfold bB;show (bif decide ((i:Int)<(f.length:Int)) then _ else _)=_
   rw [aH (show (i:Int)<(f.length:Int) by omega),cond_true]
   exact this
  rw [bC s1];exact ih (i+1) (by omega) (by omega)
theorem aGm (s:ByteArray) {n:Nat} (h:n<=12) (hs:12<s.size): ∃r,xC s (n:Int)=some r:=by
 show∃r,(s[n]?.map fun b=>(b.toNat:Int))=some r
 rw [getElem?_pos s n (show n<s.size by omega)]
 exact ⟨_,rfl⟩
set_option maxRecDepth 100000 in
theorem aV9 {n:Nat} (h:n<=12): ∃r,uX (n:Int)=some r:=by
 unfold uX wW;rw [dec_f (show¬4294967296<=(n:Int) by omega),cond_false,dec_f (show¬65536<=(n:Int) by omega),cond_false,dec_f (show¬256<=(n:Int) by omega),cond_false]
 have w8:aA .u8 (n:Int)=(n:Int):=by
  have:n=0\/n=1\/n=2\/n=3\/n=4\/n=5\/n=6\/n=7\/n=8\/n=9\/n=10\/n=11\/n=12:=by omega
  rcases this with rfl|rfl|rfl|rfl|rfl|rfl|rfl|rfl|rfl|rfl|rfl|rfl|rfl<;>rfl
 have key: ∀s:ByteArray,12<s.size-> ∃r,((xC s (aA .u8 (n:Int))).bind fun n7=>some (aA .i64 (0+aA .i64 n7))).bind (fun n0=>some n0)=some r:=fun s h12=>by
  obtain ⟨r,e⟩:=aGm s h h12;rw [w8,e];exact ⟨_,rfl⟩
 exact key _ (by decide)
theorem NI (fok:cC f) (r:bQ t) (r64:oA t) (h12:f.length<=12): ∃L:List Pt,xS ⟨f⟩ t=some (L,0)/\L.Perm f/\aBv (xD t) L f.length:=by
 have f1:=fok.1;obtain ⟨m,hm⟩:=aV9 h12;have pm:=zN (xD t) f f.length (aa _);refine ⟨F6 (xD t) f f.length,?_,pm,RH (aGj fok.2.2 t) (fun x hx=>hx) _ (aa _)⟩
 have ins:bT (0,(f.length:Int),f,t.1,t.2)=some (F6 (xD t) f f.length,t.1,t.2):=by
  unfold bT
  by_cases h0:f.length=0
  · obtain rfl:f=[]:=au.1 h0
    refine aK ?_;unfold bB;rfl
  refine Eq.trans ?_ (aDU fok r r64 (c0:=(0,(f.length:Int),f,t.1,t.2)) rfl f.length 1 (by omega) (by omega))
  have:F6 (xD t) f 1=f:=rfl
  rw [this];rfl
 have pdq:cB (0,(f.length:Int),m,f,t.1,t.2)=some (F6 (xD t) f f.length,t.1,t.2):=by
  show cV (bN 999999) _=_;unfold cV;refine aK ?_;unfold eO
  simp only [show aA .i64 ((f.length:Int) -0)=(f.length:Int) by rw [oR ⟨by omega,by omega⟩];omega,aH (show (f.length:Int)<=12 by omega),cond_true,ins,aB,pm.length_eq,beq_self_eq_true]
 have hc:eW ⟨f⟩=some 0:=by rw [mF];exact congrArg some (mS.2 fok)
 have ck:eL t=some 0:=by rw [dP r64,if_pos r]
 have wl:aA .u64 (bv f.length)=(f.length:Int):=by
  show (bv (Nat.mod f.length 18446744073709551616))=_;rw [show Nat.mod f.length 18446744073709551616=f.length from Nat.mod_eq_of_lt (by omega)];rfl
 unfold xS eF;simp only [hc,aB,show ((0:Int) !=0)=false from rfl,cond_false,ck,aY (show f.length<=1048576 by omega),wl,hm]
 rw [show cB (0,bv f.length,m,f,t)=_ from pdq];simp only [aB,pm.length_eq,beq_self_eq_true,cond_true]
theorem EK (fok:cC f) (r:bQ t) (r64:oA t) (h12:f.length<=12):(f=[]/\pD ⟨f⟩ t=some (0,42))\/
 ∃p,p∈f/\(∀q∈f,¬dQ q p t)/\pD ⟨f⟩ t=some (p.1,0):=by
 obtain ⟨L,h1,h2,h3⟩:=NI fok r r64 h12;have le:=h2.length_eq;unfold pD;rw [h1,aB,show ((0:Int) !=0)=false from rfl,cond_false]
 by_cases h0:f.length=0
 · obtain rfl:f=[]:=au.1 h0
   obtain rfl:L=[]:=au.1 le;exact .inl ⟨rfl,rfl⟩
 have hl:0<L.length:=by omega
 right;refine ⟨L[0]!,h2.mem_iff.1 (bL hl),fun q hq=>?_,?_⟩
 · obtain ⟨i,hi,rfl⟩:=aW.1 (h2.mem_iff.2 hq)
   by_cases c:i=0
   · subst c;exact fun h=>wM h h
   exact h3 0 i (by omega) (by omega)
 rw [show ((bv L.length==0):Bool)=false by simp only [aE,beq_eq_false_iff_ne];omega,cond_false,aC L 0 hl|>(fun h=>(h:aL L 0=some L[0]!)),aB]
end
def R8 (p w:List Int):Nat->Nat
 |0=>0
 |m+1=>R8 p w m+if 0<=bD p w m then 1 else 0
theorem Z5 {p w:List Int} (hc:BN p w) (hn: ∀i,i<w.length->w[i]!<0->bD p w (2*i+1)<0/\bD p w (2*i+2)<0):
 ∀k,k<=w.length->R8 p w (2*k+1)=(if 0<=bD p w 0 then 1 else 0)+R8 p w k+(qM p w k).length
 |0,_=>by simp [R8,qM]
 |k+1,hk=>by
  have ih:=Z5 hc hn k (by omega)
  have el:(qM p w (k+1)).length=(qM p w k).length+if 0<=bD p w (2*k+1)/\0<=bD p w (2*k+2) then 1 else 0:=by
   rw [F4,ar];cases h:AX p w k with
   |none=>
    unfold AX at h;rw [if_neg (fun q=>?_)]
    · rfl
    rw [if_neg (by omega)] at h
    split at h<;>cases h
   |some e=>
    obtain ⟨a,b,_⟩:=zK h;rw [if_pos ⟨a,b⟩];rfl
  rw [show 2*(k+1)+1=(2*k+1)+1+1 by omega,R8,R8,ih,el,R8]
  have e:bD p w k=w[k]!:=by unfold bD;rw [if_pos (by omega)]
  have c:=hc k (by omega)
  have n:=hn k (by omega)
  rw [e,show 2*k+1+1=2*k+2 by omega]
  generalize bD p w (2*k+1)=x at*;generalize bD p w (2*k+2)=y at*;generalize w[k]! =v at*
  by_cases hx:0<=x<;>by_cases hy:0<=y<;>by_cases hv:0<=v<;>simp only [hx,hy,hv,if_true,if_false,and_self,and_true,true_and,and_false,false_and]<;>omega
theorem aBw {p w:List Int} (k:Nat) (hk:k<=p.length):R8 p w (w.length+k)=R8 p w w.length+(gZ (p.take k)).length:=by
 induction k with
 |zero=>simp [gZ]
 |succ k ih=>
  rw [show w.length+(k+1)=(w.length+k)+1 by omega,R8,ih (by omega),nT (by omega),ar]
  have e:bD p w (w.length+k)=p[k]!:=by unfold bD;rw [if_neg (by omega)];congr 1;omega
  rw [e]
  by_cases h:0<=p[k]!
  · rw [if_pos h,if_pos h];simp;omega
  rw [if_neg h,if_neg h];simp
theorem Z6 {p w:List Int} (br:RZ p w):(eB p w).length+(if 0<=bD p w 0 then 1 else 0)=(gZ p).length:=by
 have h1:=Z5 br.cho br.none_ w.length (aa _);have h2:=aBw (p:=p) (w:=w) p.length (aa _)
 have:=br.len
 rw [aj,show w.length+p.length=2*w.length+1 by omega] at h2
 rw [aBn] at h1;omega
theorem Z7 {f:List Pt} (fok:cC f) {t:Int×Int} {p:List Int} (pl:I2 f p):RZ p (aX f t p):=by
 have R:=dE (f:=f) (t:=t) pl.one;refine ⟨pl.one,pl.most,R.1,pl.once,pl.rng fok,R.chosen,fun i hi h=>?_⟩
 rw [R.2 i hi] at h;unfold DV at h;split at h
 · rename_i h1;exact ⟨h1,h⟩
 rename_i h1
 split at h
 · omega
 split at h<;>omega
theorem aTC.ok {k:bO} (ok:sT k) {to:Int×Int} {r:bO} (h:aTC k.clock.field.points k.bracket.places to r):sT r:=by
 have pl:=qN ok.br ok.perm;refine ⟨h.clk,?_,?_,?_,?_,?_⟩
 · rw [h.br];exact Z7 ok.clk.fld pl
 · rw [h.br];exact ok.pow
 · rw [h.br,h.fld];exact ok.perm
 · rw [h.br,h.fld,h.now]
 rw [h.br];exact h.cert
theorem V6 (k:bO) (n:aBi k.clock):CA k=some false\/(CA k=some true/\zM k/\k.clock.field.points.length<=10/\sT k):=by
 unfold CA;rcases Z4 k with e|⟨e,sh⟩
 · rw [e];exact .inl rfl
 rw [e,aB,bg,cond_true];unfold IP;rw [aB,aE]
 by_cases h:10<k.clock.field.points.length
 · rw [aH (by omega)];exact .inl rfl
 rw [dec_f (by omega),bg,cond_true,zL (sT.fit k n sh) sh.p sh.w,aB]
 by_cases ok:sT k
 · rw [if_pos ok];exact .inr ⟨rfl,sh,by omega,ok⟩
 rw [if_neg ok];exact .inl rfl
theorem aBx {k:bO} (ok:sT k) (sh:zM k) (h12:k.clock.field.points.length<=12) (c1:iC k=some 0) (c2:fD k=some 0): ∃b,nP k=some b/\pD k.clock.field k.clock.now=some b:=by
 obtain ⟨b,b1,_,b3⟩:=KU ok sh c1 c2;refine ⟨b,b1,?_⟩;have fok:=ok.clk.fld;rcases b3 with ⟨rfl,h0⟩|⟨i,tp,rfl⟩
 · rcases EK fok ok.clk.nowv ok.clk.now64 h12 with ⟨_,m⟩|⟨p,hp,_,_⟩
   · exact m
   have:=List.length_pos_of_mem hp;omega
 have hi:=tp.hi
 rcases EK fok ok.clk.nowv ok.clk.now64 h12 with ⟨h0,_⟩|⟨p,hp,hm,m⟩
 · rw [h0] at hi;exact absurd hi (bz _)
 obtain ⟨j,hj,rfl⟩:=aW.1 hp
 have:i=j:=aq fun h=>hm _ (bL hi) (tp.top j (ao _) hj (fun e=>h e.symm))
 subst this;exact m
theorem D0 (k:bO) (to:Int×Int) (n:aBi k.clock) (r64:oA to):sM k to=some true:=by
 unfold sM;rw [aB];rcases V6 k n with e|⟨e,sh,h10,ok⟩
 · rw [e];rfl
 rw [e,aB,ac,cond_false,mC r64]
 by_cases rt:bQ to
 case neg=>rw [if_neg rt];rfl
 rw [if_pos rt,aB,bP rfl,cond_false,uD n.now r64,aB]
 by_cases le:0<mE k.clock.now to
 · rw [aH le];rfl
 have le': ¬mE to k.clock.now<0:=by
  intro h;rw [xT] at h;unfold mE at le;rcases eN (k.clock.now.1*to.2) (to.1*k.clock.now.2) with ⟨a,b⟩|⟨a,b⟩|⟨a,b⟩<;>omega
 rw [dec_f le,cond_false,cond_false];obtain ⟨R,r1,_,r3,r4⟩:=I4 n sh r64;rw [r1,aB];rcases r4 ok rt le' with q|⟨q,adv⟩
 · rw [q];rfl
 rw [q,bP rfl,cond_false];have tok:=adv.ok ok;have fit:=tok.clk.fit;have c1:iC R.1=some 0:=by rw [EJ fit r3.h.p r3.h.w,if_pos tok]
 have c2:fD R.1=some 0:=by rw [zL fit r3.h.p r3.h.w,if_pos tok]
 have fe:R.1.clock.field=k.clock.field:=by
  have:=adv.fld
  cases hf:R.1.clock.field;cases hg:k.clock.field;rw [hf,hg] at this;exact congrArg Field.mk this
 obtain ⟨b,l1,l2⟩:=aBx tok r3.h (by rw [adv.fld];omega) c1 c2
 rw [fe,adv.now] at l2;obtain ⟨e1,_⟩:=MF tok c1 c2;have fok:=ok.clk.fld;have pl:=qN ok.br ok.perm;have br2:=Z7 (t:=to) fok pl;have bl:=br2.len;have bm:=br2.most;have el:=I0 k.bracket.places (aX k.clock.field.points to k.bracket.places);have ec:=Z6 br2;rw [<- ok.perm.length_eq,rF] at ec
 have e1:sI R.1=some (eB k.bracket.places (aX k.clock.field.points to k.bracket.places),0):=by rw [e1,adv.br]
 rw [l1,aB,l2,aB,e1,aB,c2,aB,bP rfl,cond_false,adv.now,eH rfl,eH rfl,cd,ac,cond_false,bP rfl,cond_false,bP rfl,cond_false];dsimp only;rw [cond_false,aE,aE]
 have ln:((eB k.bracket.places (aX k.clock.field.points to k.bracket.places)).length:Int)=(if aA .i64 ((k.clock.field.points.length:Int) -1)>0 then aA .i64 ((k.clock.field.points.length:Int) -1) else 0):=by
  rw [oR ⟨by omega,by omega⟩]
  by_cases h0:0<=bD k.bracket.places (aX k.clock.field.points to k.bracket.places) 0
  · rw [if_pos h0] at ec
    split<;>omega
  rw [if_neg h0] at ec
  have:k.clock.field.points.length=0:=aq fun h=>by
   obtain ⟨i,_,_,h⟩:=Z3 fok pl (dE (t:=to) pl.one) ok.perm (by omega)
   exact h0 h
  split<;>omega
 rw [bP ln,cond_false,KR tok.clk r64,aB,dec_f adv.due,cond_false];obtain ⟨eok,nd,_⟩:=oU fok r64 (t:=to) pl;have ee:kY k.clock.field.points (eB k.bracket.places (aX k.clock.field.points to k.bracket.places))=0:=by
  unfold kY;rw [if_neg (ax.2 eok.cv),if_neg (ax.2 nd),if_neg (fun h=>h eok.kn)]
 rw [show AQ k.clock.field _=_ from QT fok _ (by omega),aB,ee,bP rfl,cond_false]
 have R2:=dE (f:=k.clock.field.points) (t:=to) pl.one
 have in1: ∀S:Nat->_,(∀i,S i=(true,(i:Int),k.clock.now.1,k.clock.now.2,k.clock.field.points,k.clock.certs.next_,k.clock.certs.list,k.clock.agenda.slots.uses,k.clock.agenda.slots.used,k.clock.agenda.slots.free,k.clock.agenda.heap,k.clock.agenda.where_,k.clock.due,k.bracket.places,k.bracket.wins,to.1,to.2,k.clock.field.points,to.1,to.2,R.1.clock.field.points,R.1.clock.certs.next_,R.1.clock.certs.list,R.1.clock.agenda.slots.uses,R.1.clock.agenda.slots.used,R.1.clock.agenda.slots.free,R.1.clock.agenda.heap,R.1.clock.agenda.where_,R.1.clock.due,k.bracket.places,aX k.clock.field.points to k.bracket.places))->aG iJ (S 0)=some (.done true):=by
  intro S hS;have st:=dO (body:=iJ) S (aX k.clock.field.points to k.bracket.places).length (fun i hi=>by
   have k1:=pL (i:=i) (by omega) 1 (by omega)
   have k2:=pL (i:=i) (by omega) 2 (by omega)
   rw [hS,hS];unfold iJ;simp only [aE,aH (show (i:Int)<((aX k.clock.field.points to k.bracket.places).length:Int) by omega),cond_true,show aA .i64 (aA .i64 (2*(i:Int))+1)=((2*i+1:Nat):Int) from k1,show aA .i64 (aA .i64 (2*(i:Int))+2)=((2*i+2:Nat):Int) from k2,
    mH (p:=k.bracket.places) (w:=aX k.clock.field.points to k.bracket.places) (i:=i) (by omega) (by omega),mH (p:=k.bracket.places) (w:=aX k.clock.field.points to k.bracket.places) (i:=2*i+1) (by omega) (by omega),mH (p:=k.bracket.places) (w:=aX k.clock.field.points to k.bracket.places) (i:=2*i+2) (by omega) (by omega),aB,
    show ((to.1,to.2):Int×Int)=to from rfl,DW fok r64 (pl.ids _ (gV R2.1 R2.chosen (i:=2*i+1) (by omega))) (pl.ids _ (gV R2.1 R2.chosen (i:=2*i+2) (by omega))),aT (show i<1000000000 by omega)]
   rw [bP (show bD k.bracket.places (aX k.clock.field.points to k.bracket.places) i=_ from by rw [<- R2.2 i hi];unfold bD;rw [if_pos hi]),cond_false])
  rw [st];refine aK ?_;rw [hS];unfold iJ;simp only [aE,dec_f (show¬((aX k.clock.field.points to k.bracket.places).length:Int)<((aX k.clock.field.points to k.bracket.places).length:Int) by omega),cond_false,cond_true,aF4 k.bracket.places (by have:=sh.p;omega),aB]
 rw [show R.1.bracket.places=k.bracket.places by rw [adv.br],show R.1.bracket.wins=aX k.clock.field.points to k.bracket.places by rw [adv.br]]
 have out:=dO (body:=kX) (fun i=>(true,eB k.bracket.places (aX k.clock.field.points to k.bracket.places),(i:Int),k.clock.now.1,k.clock.now.2,k.clock.field.points,k.clock.certs.next_,k.clock.certs.list,k.clock.agenda.slots.uses,k.clock.agenda.slots.used,k.clock.agenda.slots.free,k.clock.agenda.heap,k.clock.agenda.where_,k.clock.due,k.bracket.places,k.bracket.wins,to.1,to.2,k.clock.field.points,to.1,to.2,R.1.clock.field.points,R.1.clock.certs.next_,R.1.clock.certs.list,R.1.clock.agenda.slots.uses,R.1.clock.agenda.slots.used,R.1.clock.agenda.slots.free,R.1.clock.agenda.heap,R.1.clock.agenda.where_,R.1.clock.due,k.bracket.places,aX k.clock.field.points to k.bracket.places)) (eB k.bracket.places (aX k.clock.field.points to k.bracket.places)).length (fun i hi=>by
  have hm:=bL hi;have hb:=eok.kn _ hm;unfold kX;simp only [aE,aH (show (i:Int)<((eB k.bracket.places (aX k.clock.field.points to k.bracket.places)).length:Int) by omega),cond_true,aC _ i hi,aB,show ((to.1,to.2):Int×Int)=to from rfl,aF5 fok r64 hb.1 hb.2,aT (show i<1000000000 by omega)]
  rw [dec_f (wM (M6 fok pl hm)),cond_false])
 refine (show _=_ from out).trans (aK ?_);unfold kX;simp only [aE,dec_f (show¬((eB k.bracket.places (aX k.clock.field.points to k.bracket.places)).length:Int)<((eB k.bracket.places (aX k.clock.field.points to k.bracket.places)).length:Int) by omega),cond_false]
 exact in1 (fun i=>(true,(i:Int),k.clock.now.1,k.clock.now.2,k.clock.field.points,k.clock.certs.next_,k.clock.certs.list,k.clock.agenda.slots.uses,k.clock.agenda.slots.used,k.clock.agenda.slots.free,k.clock.agenda.heap,k.clock.agenda.where_,k.clock.due,k.bracket.places,k.bracket.wins,to.1,to.2,k.clock.field.points,to.1,to.2,R.1.clock.field.points,R.1.clock.certs.next_,R.1.clock.certs.list,R.1.clock.agenda.slots.uses,R.1.clock.agenda.slots.used,R.1.clock.agenda.slots.free,R.1.clock.agenda.heap,R.1.clock.agenda.where_,R.1.clock.due,k.bracket.places,aX k.clock.field.points to k.bracket.places)) (fun _=>rfl)
theorem aBi.of {c:aO} (h1:RT.wf [.i .i64,.i .i64] c.now) (h2: ∀a∈c.agenda.heap,RT.wf [.i .i64,.i .i64,.i .i64,.i .i64,.i .i64] a):aBi c where
 now:=⟨LQ h1.1,LQ h1.2⟩
 at64 w hw:=by
  have:=h2 (c.agenda.heap[w]!) (by rw [getElem!_pos c.agenda.heap w hw];exact List.getElem_mem hw)
  exact ⟨LQ this.1,LQ this.2.1⟩
end Go.Proofs.YtlnclppkepgdmaaGreat
