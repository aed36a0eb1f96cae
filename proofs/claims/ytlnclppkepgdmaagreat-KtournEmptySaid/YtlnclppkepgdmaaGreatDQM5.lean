/- Plain laws (5). -/
import Derived.Test.YtlnclppkepgdmaaGreatDQM4
import Derived.Test.YtlnclppkepgdmaaGreatDQS2
import Derived.Test.YtlnclppkepgdmaaGreatDVm3
open List renaming replicate->bn,length_singleton->bo,length_replicate->bu,length_map->bw,length_set->cb,length_take->cd,length_eraseIdx_of_lt->cj,take_length->cq,length_append->cu,length_eq_zero_iff->cw,mem_map->cz,take_append_of_le_length->c8,append_nil->c9,perm_ext_iff_of_nodup->dc,length_filter_le->df,mem_cons_of_mem->dj,length_range->dt,append_assoc->dw,getElem_map->dz,drop_length->d5,filter_nil->d6,range->d7,mem_range->d8,drop_zero->ec,mem_cons->ed
open Nat renaming le_refl->bq,not_lt_zero->bz,zero_le->ci,div_div_eq_div_mul->c7,pow_succ->dd,lt_trichotomy->dy,zero_add->eg,le_trans->eh,add_zero->ei,mul_comm->ej,pow_zero->ek
open Bool renaming not_true->bv,not_false->dh
open Classical renaming byContradiction->ce,not_not->cy,not_imp->dp
open Int renaming tmod_eq_emod_of_nonneg->cm,mul_right_comm->db,ofNat->dm,toNat_natCast->dv,not_lt->d9,mul_comm->ef
open Option.some renaming inj->de
open List.Perm renaming refl->di
namespace Go.Proofs.YtlnclppkepgdmaaGreat
open Go.Vm Classical
structure WT (p w:List Int):Prop where
 one:1<=p.length
 most:p.length<=64
 len:w.length+1=p.length
 once:JB p
 rng: ∀x∈p,-1<=x/\x<=65535
 cho:D3 p w
 none_: ∀i,i<w.length->w[i]!<0->bI p w (2*i+1)<0/\bI p w (2*i+2)<0
def WU (p w:List Int) (i:Nat):Prop:=(w[i]! =bI p w (2*i+1)\/w[i]! =bI p w (2*i+2))/\ ¬(w[i]!<0/\(0<=bI p w (2*i+1)\/0<=bI p w (2*i+2)))
def aEv (p w:List Int) (i:Nat):Prop:=(w[i]! =bI p w (2*i+1)\/w[i]! =bI p w (2*i+2))/\ ¬(w[i]! = -1/\(bI p w (2*i+1)≠ -1\/bI p w (2*i+2)≠ -1))
def SS (p:List Int) (i:Nat):Prop:= -1<=p[i]!/\p[i]!<=65535
def RU (p:List Int) (i:Nat):Prop:= ∀j,j<i->p[j]! =p[i]!->p[i]!<0
theorem K6 {p:List Int}:(∀i,i<p.length->RU p i)↔JB p:=
 ⟨fun h i j hij hj e=>by rw [e];exact h j hj i hij e,fun h i hi j hj e=>by have:=h j i hj hi e;rw [e] at this;exact this⟩
theorem WV {p:List Int}:(∀i,i<p.length->SS p i)↔ ∀x∈p,-1<=x/\x<=65535:=(F8 (P:=fun x=> -1<=x/\x<=65535)).symm
theorem aGY {p w:List Int} (h1:1<=p.length) (h64:p.length<=64) (hl:w.length+1=p.length):
 WT p w↔(∀i,i<p.length->RU p i)/\(∀i,i<p.length->SS p i)/\ ∀i,i<w.length->WU p w i:=by
 rw [K6,WV];constructor
 · intro h
   refine ⟨h.once,h.rng,fun i hi=>⟨h.cho i hi,fun ⟨a,b⟩=>?_⟩⟩
   have:=h.none_ i hi a
   omega
 rintro ⟨a,b,c⟩
 exact ⟨h1,h64,hl,a,b,fun i hi=>(c i hi).1,fun i hi h0=>by have:=(c i hi).2;omega⟩
theorem aAj {p w:List Int} (hl:w.length+1=p.length) (hr: ∀x∈p,-1<=x/\x<=65535):(∀i,i<w.length->WU p w i)↔ ∀i,i<w.length->aEv p w i:=by
 constructor<;>intro h i hi
 · have hc:D3 p w:=fun i hi=>(h i hi).1
   have a1:=hr _ (iS hl hc (i:=2*i+1) (by omega))
   have a2:=hr _ (iS hl hc (i:=2*i+2) (by omega))
   obtain ⟨b1,b2⟩:=h i hi;exact ⟨b1,by omega⟩
 have hc:D3 p w:=fun i hi=>(h i hi).1
 have a1:=hr _ (iS hl hc (i:=2*i+1) (by omega))
 have a2:=hr _ (iS hl hc (i:=2*i+2) (by omega))
 obtain ⟨b1,b2⟩:=h i hi;exact ⟨b1,by omega⟩
theorem aVq {p q:Prop} [Decidable p] [Decidable q] [Decidable (p/\q)] {a b:Int}:(if p then (if q then a else b) else b)=if p/\q then a else b:=by
 by_cases hp:p
 · rw [if_pos hp];exact K3 ⟨fun h=>⟨hp,h⟩,fun h=>h.2⟩
 rw [if_neg hp,if_neg (fun h=>hp h.1)]
theorem CO (p w:List Int) (hl:p.length<=1000) (wl:w.length<=1000):lL ⟨p,w⟩=some (if WT p w then 0 else 8):=by
 unfold lL;simp only [aF]
 by_cases h1:(p.length:Int)<1
 · rw [aK h1,cond_true,if_neg (fun h=>by have:=h.one;omega)]
 rw [dec_f h1,cond_false]
 by_cases h2:(64:Int)<(p.length:Int)
 · rw [aK h2,cond_true,if_neg (fun h=>by have:=h.most;omega)]
 rw [dec_f h2,cond_false,qP (by omega) (by omega)]
 by_cases h3:w.length+1=p.length
 case neg=>rw [dM (by omega),cond_true,if_neg (fun h=>h3 h.len)]
 rw [bP (by omega),cond_false]
 have l1:=rB (body:=kC) (fun i=>(w,(w.length:Int),(i:Int),p,w)) w.length (WU p w) (r:= .done (.done 8)) (e:= .done (.done 0)) (fun i hi=>by
  unfold kC WU;have k1:=tG (i:=i) (by omega) 1 (by omega)
  have k2:=tG (i:=i) (by omega) 2 (by omega)
  simp only [aK (show (i:Int)<(w.length:Int) by omega),cond_true,aE w i hi,aB,show aA .i64 (aA .i64 (2*(i:Int))+1)=((2*i+1:Nat):Int) from k1,show aA .i64 (aA .i64 (2*(i:Int))+2)=((2*i+2:Nat):Int) from k2,
   nX (p:=p) (w:=w) (i:=2*i+1) (by omega) (by omega),nX (p:=p) (w:=w) (i:=2*i+2) (by omega) (by omega),aV (show i<1000000000 by omega)]
  generalize bI p w (2*i+1)=x;generalize bI p w (2*i+2)=y;generalize w[i]! =v
  by_cases a1:v=x
  · rw [bP a1,cond_false]
    by_cases a3:v<0
    · rw [aK a3,cond_true]
      by_cases a4:0<=(if y>x then y else x)
      · rw [aK a4,cond_true]
        exact ⟨fun _=>rfl,fun h=>by split at a4<;>omega⟩
      rw [dec_f a4,cond_false]
      exact ⟨fun h=>by split at a4<;>omega,fun _=>rfl⟩
    rw [dec_f a3,cond_false]
    exact ⟨fun h=>by omega,fun _=>rfl⟩
  · rw [dM a1,cond_true]
    by_cases a2:v=y
    · rw [bP a2,cond_false]
      by_cases a3:v<0
      · rw [aK a3,cond_true]
        by_cases a4:0<=(if y>x then y else x)
        · rw [aK a4,cond_true]
          exact ⟨fun _=>rfl,fun h=>by split at a4<;>omega⟩
        rw [dec_f a4,cond_false]
        exact ⟨fun h=>by split at a4<;>omega,fun _=>rfl⟩
      rw [dec_f a3,cond_false]
      exact ⟨fun h=>by omega,fun _=>rfl⟩
    rw [dM a2,cond_true]
    exact ⟨fun _=>rfl,fun h=>by omega⟩) (by
  unfold kC;simp only [dec_f (show¬(w.length:Int)<(w.length:Int) by omega),cond_false])
 have l1':aH kC (w,(w.length:Int),0,p,w)=some (.done (.done (if∀i,i<w.length->WU p w i then 0 else 8))):=by
  refine (show _=_ from l1).trans ?_
  by_cases h: ∀i,i<w.length->WU p w i
  · rw [if_pos h,if_pos h]
  rw [if_neg h,if_neg h]
 have l2: ∀m,aH kD (p,(p.length:Int),0,p,w,m)=some (.done (if (∀i,i<p.length->SS p i)/\ ∀i,i<w.length->WU p w i then 0 else 8)):=fun m=>by
  have l2:=rB (body:=kD) (fun i=>(p,(p.length:Int),(i:Int),p,w,m)) p.length (SS p) (r:= .done 8) (e:= .done (if∀i,i<w.length->WU p w i then 0 else 8)) (fun i hi=>by
   unfold kD xB SS;simp only [aK (show (i:Int)<(p.length:Int) by omega),cond_true,aE p i hi,aB,aV (show i<1000000000 by omega)]
   generalize p[i]! =v
   by_cases a1: -1<=v
   · rw [aK a1,cond_true,aB]
     by_cases a2:v<=65535
     · rw [aK a2];exact ⟨fun h=>absurd ⟨a1,a2⟩ h,fun _=>rfl⟩
     rw [dec_f a2]
     refine ⟨fun _=>?_,fun h=>absurd h.2 a2⟩
     rw [aK (show (0:Int)<=(i:Int) by omega)];rfl
   · rw [dec_f a1,cond_false,aB]
     refine ⟨fun _=>?_,fun h=>absurd h.1 a1⟩
     rw [aK (show (0:Int)<=(i:Int) by omega)];rfl) (by
   unfold kD;simp only [dec_f (show¬(p.length:Int)<(p.length:Int) by omega),cond_false,aF,l1'])
  refine (show _=_ from l2).trans ?_
  by_cases h: ∀i,i<p.length->SS p i
  · rw [if_pos h];congr 2;exact K3 ⟨fun k=>⟨h,k⟩,fun k=>k.2⟩
  rw [if_neg h,if_neg (fun k=>h k.1)]
 have l3:=rB (body:=pP) (fun i=>(p,(p.length:Int),(i:Int),p,w,RR p i)) p.length (RU p) (r:=8) (e:=if (∀i,i<p.length->SS p i)/\ ∀i,i<w.length->WU p w i then 0 else 8) (fun i hi=>by
  unfold pP;simp only [aK (show (i:Int)<(p.length:Int) by omega),cond_true,aE p i hi,aB,RS,aV (show i<1000000000 by omega)]
  by_cases a:RU p i
  · rw [dec_f (show¬(0<=p[i]!/\ ∃j,j<i/\p[j]! =p[i]!) from fun ⟨h0,j,hj,e⟩=>by have:=a j hj e;omega)]
    exact ⟨fun h=>absurd a h,fun _=>rfl⟩
  · rw [aK (show 0<=p[i]!/\ ∃j,j<i/\p[j]! =p[i]! from by
     unfold RU at a;obtain ⟨j,hj⟩:=Classical.not_forall.1 a;obtain ⟨hj,h⟩:=dp.1 hj;obtain ⟨h,h0⟩:=dp.1 h;exact ⟨by omega,j,hj,h⟩)]
    refine ⟨fun _=>?_,fun h=>absurd h a⟩
    rw [aK (show (0:Int)<=(i:Int) by omega)];rfl) (by
  unfold pP;simp only [dec_f (show¬(p.length:Int)<(p.length:Int) by omega),cond_false,aF,l2])
 refine (show _=_ from l3).trans ?_;rw [K3 (aGY (by omega) (by omega) h3)]
 congr 1
 exact aVq
theorem RW (p:List Int) (hl:p.length<=1000):FT p=some (!decide (JB p)):=by
 have l2:=rB (body:=sU) (fun i=>(p,(i:Int))) p.length (RU p) (r:=true) (e:=false) (fun i hi=>by
  have l1:=rB (body:=sT) (fun j=>(p,(i:Int),(j:Int))) i (fun j=>p[j]! =p[i]!->p[i]!<0) (r:= .done true) (e:= .next (p,((i+1:Nat):Int))) (fun j hj=>by
   unfold sT;simp only [aK (show (j:Int)<(i:Int) by omega),cond_true,aE p i hi,aE p j (by omega),aB,aV (show j<1000000000 by omega)]
   by_cases a:0<=p[i]!
   · rw [aK a,cond_true]
     by_cases b:p[j]! =p[i]!
     · rw [dW b];exact ⟨fun _=>rfl,fun h=>by have:=h b;omega⟩
     rw [eT b];exact ⟨fun h=>absurd (fun k=>absurd k b) h,fun _=>rfl⟩
   · rw [dec_f a,cond_false]
     exact ⟨fun h=>absurd (fun _=>by omega) h,fun _=>rfl⟩) (by
   unfold sT;simp only [dec_f (show¬(i:Int)<(i:Int) by omega),cond_false,aV (show i<1000000000 by omega)])
  have l1:=(show _=_ from l1);unfold sU;simp only [aF,aK (show (i:Int)<(p.length:Int) by omega),cond_true]
  by_cases a:RU p i
  · rw [if_pos (show∀j,j<i->p[j]! =p[i]!->p[i]!<0 from a)] at l1
    exact ⟨fun h=>absurd a h,fun _=>l1⟩
  · rw [if_neg (show¬ ∀j,j<i->p[j]! =p[i]!->p[i]!<0 from a)] at l1
    exact ⟨fun _=>l1,fun h=>absurd h a⟩) (by
  unfold sU;simp only [aF,dec_f (show¬(p.length:Int)<(p.length:Int) by omega),cond_false])
 refine (show _=_ from l2).trans ?_
 by_cases h:JB p
 · rw [if_pos (K6.2 h),aK h];rfl
 rw [if_neg (fun k=>h (K6.1 k)),dec_f h];rfl
theorem RX (p w:List Int) (hl:p.length<=1000) (wl:w.length<=1000):wK ⟨p,w⟩=some (if WT p w then 0 else 8):=by
 unfold wK;simp only [aF]
 by_cases h1:(p.length:Int)<1
 · rw [aK h1,cond_true,if_neg (fun h=>by have:=h.one;omega)]
 rw [dec_f h1,cond_false]
 by_cases h2:(64:Int)<(p.length:Int)
 · rw [aK h2,cond_true,if_neg (fun h=>by have:=h.most;omega)]
 rw [dec_f h2,cond_false,qP (by omega) (by omega)]
 by_cases h3:w.length+1=p.length
 case neg=>rw [dM (by omega),cond_true,if_neg (fun h=>h3 h.len)]
 rw [bP (by omega),cond_false,RW p hl,aB]
 by_cases ho:JB p
 case neg=>rw [dec_f ho,if_neg (fun h=>ho h.once)];rfl
 rw [aK ho,bv,cond_false];have l1:=rB (body:=pC) (fun i=>((i:Int),p,w)) w.length (aEv p w) (r:= .done 8) (e:= .done 0) (fun i hi=>by
  unfold pC aEv;have k1:=tG (i:=i) (by omega) 1 (by omega)
  have k2:=tG (i:=i) (by omega) 2 (by omega)
  simp only [aF,aK (show (i:Int)<(w.length:Int) by omega),cond_true,aE w i hi,aB,show aA .i64 (aA .i64 (2*(i:Int))+1)=((2*i+1:Nat):Int) from k1,show aA .i64 (aA .i64 (2*(i:Int))+2)=((2*i+2:Nat):Int) from k2,
   rW (p:=p) (w:=w) (i:=2*i+1) (by omega) (by omega),rW (p:=p) (w:=w) (i:=2*i+2) (by omega) (by omega),aV (show i<1000000000 by omega)]
  generalize bI p w (2*i+1)=x;generalize bI p w (2*i+2)=y;generalize w[i]! =v
  by_cases a1:v=x
  · rw [bP a1,cond_false]
    by_cases a3:v= -1
    · rw [dW a3,cond_true]
      by_cases a4:x= -1
      · rw [bP a4,cond_false]
        by_cases a5:y= -1
        · rw [bP a5,cond_false];exact ⟨fun h=>by omega,fun _=>rfl⟩
        rw [dM a5,cond_true];exact ⟨fun _=>rfl,fun h=>by omega⟩
      rw [dM a4,cond_true];exact ⟨fun _=>rfl,fun h=>by omega⟩
    rw [eT a3,cond_false];exact ⟨fun h=>by omega,fun _=>rfl⟩
  · rw [dM a1,cond_true]
    by_cases a2:v=y
    · rw [bP a2,cond_false]
      by_cases a3:v= -1
      · rw [dW a3,cond_true]
        by_cases a4:x= -1
        · rw [bP a4,cond_false]
          by_cases a5:y= -1
          · rw [bP a5,cond_false];exact ⟨fun h=>by omega,fun _=>rfl⟩
          rw [dM a5,cond_true];exact ⟨fun _=>rfl,fun h=>by omega⟩
        rw [dM a4,cond_true];exact ⟨fun _=>rfl,fun h=>by omega⟩
      rw [eT a3,cond_false];exact ⟨fun h=>by omega,fun _=>rfl⟩
    rw [dM a2,cond_true]
    exact ⟨fun _=>rfl,fun h=>by omega⟩) (by
  unfold pC;simp only [aF,dec_f (show¬(w.length:Int)<(w.length:Int) by omega),cond_false])
 have l1':aH pC (0,p,w)=some (.done (if∀i,i<w.length->aEv p w i then 0 else 8)):=by
  refine (show _=_ from l1).trans ?_
  by_cases h: ∀i,i<w.length->aEv p w i
  · rw [if_pos h,if_pos h]
  rw [if_neg h,if_neg h]
 have l2:=rB (body:=sV) (fun i=>((p.length:Int),(i:Int),p,w)) p.length (SS p) (r:=8) (e:=if∀i,i<w.length->aEv p w i then 0 else 8) (fun i hi=>by
  unfold sV SS;simp only [aK (show (i:Int)<(p.length:Int) by omega),cond_true,aE p i hi,aB,aV (show i<1000000000 by omega)]
  generalize p[i]! =v
  by_cases a1:v< -1
  · rw [aK a1];exact ⟨fun _=>rfl,fun h=>by omega⟩
  · rw [dec_f a1,cond_false]
    by_cases a2:65535<v
    · rw [aK a2];exact ⟨fun _=>rfl,fun h=>by omega⟩
    rw [dec_f a2];exact ⟨fun h=>by omega,fun _=>rfl⟩) (by
  unfold sV;simp only [dec_f (show¬(p.length:Int)<(p.length:Int) by omega),cond_false,l1'])
 refine (show _=_ from l2).trans ?_;rw [K3 (aGY (by omega) (by omega) h3)]
 congr 1
 by_cases hr: ∀i,i<p.length->SS p i
 · rw [if_pos hr]
   exact K3 ⟨fun h=>⟨K6.2 ho,hr,(aAj h3 (WV.1 hr)).2 h⟩,fun h=>(aAj h3 (WV.1 hr)).1 h.2.2⟩
 rw [if_neg hr,if_neg (fun h=>hr h.2.1)]
def NW (c:aO) (to:Int×Int):Prop:=0<c.ay.aj.length/\iH (Ev.at c.ay.aj[0]!) to<=0
theorem K7 {c:aO} (ok:aR c) {to:Int×Int} (rt:bK to) (r64:nD to) (le: ¬iH to c.ar<0):wE c to=some (decide (NW c to),0):=by
 unfold wE;rw [mR ok.fit,if_pos ok,aB,dF r64,if_pos rt,aB,bP (by decide),cond_false,I5 r64 ok.now64,if_pos ⟨rt,ok.nowv⟩,aB,dec_f le,cond_false]
 unfold IZ;rw [kW _ ok.fit.ag,if_pos ok.agd,aB,bP rfl,cond_false]
 by_cases h:0<c.ay.aj.length
 · have ev:=ok.agd.ev 0 h
   have g:=aE c.ay.aj 0 h;rw [show ((0:Nat):Int)=0 from rfl] at g;rw [eT (by rw [aF];omega),cond_false,g,aB,aB,bP rfl,cond_false,I5 ev.2.1 r64,if_pos ⟨ev.1,rt⟩,aB]
   congr 2
   by_cases h2:iH (Ev.at c.ay.aj[0]!) to<=0
   · rw [aK (show NW c to from ⟨h,h2⟩),aK h2]
   rw [dec_f (fun k:NW c to=>h2 k.2),dec_f h2]
 rw [dW (by rw [aF];omega),cond_true,aB,dec_f (fun k:NW c to=>h k.1)]
 rfl
theorem RY {c:aO} (ok:aR c) {to:Int×Int} (r64:nD to):FU c to=some (decide (NW c to)):=by
 unfold FU;simp only [aF]
 by_cases h:0<c.ay.aj.length
 · have ev:=ok.agd.ev 0 h
   have g:=aE c.ay.aj 0 h;rw [show ((0:Nat):Int)=0 from rfl] at g;rw [aK (by omega),cond_true,g,aB,uH ev.2.1 r64,aB]
   congr 1
   by_cases h2:iH (Ev.at c.ay.aj[0]!) to<=0
   · rw [aK (show NW c to from ⟨h,h2⟩),aK h2]
   rw [dec_f (fun k:NW c to=>h2 k.2),dec_f h2]
 rw [dec_f (by omega),cond_false,dec_f (fun k:NW c to=>h k.1)]
theorem aAk {c:bM} (ok:fA c) {i:Nat} (hi:i<c.aq.length):ZQ c (c.aq[i]!).1=some (i:Int):=by
 have hl:=ok.len;have k:=nC (body:=AW) (fun j=>((c.aq[i]!).1,(j:Int),c.ao,c.aq)) c.aq.length (fun j=>(c.aq[j]!).1=(c.aq[i]!).1) (fun j=>(j:Int)) (e:= -1) (fun j hj=>by
  unfold AW;simp only [aF,aK (show (j:Int)<(c.aq.length:Int) by omega),cond_true,aE c.aq j hj,aB,aV (show j<1000000000 by omega)]
  refine ⟨fun h=>?_,fun h=>?_⟩
  · rw [dW h];rfl
  · rw [eT h];rfl) (by
  unfold AW;simp only [aF,dec_f (show¬(c.aq.length:Int)<(c.aq.length:Int) by omega),cond_false])
 exact k.1 i hi rfl fun j hj e=>by have:=ok.up j i hj hi;omega
abbrev atT (c:aO) (t:Int×Int):aO:=⟨t,c.au,c.ax,c.ay,c.az⟩
theorem aGZ {c:aO} (ok:aR c) {to:Int×Int} (rt:bK to) (r64:nD to) (le: ¬iH to c.ar<0) (az:NW c to):
 ∃(x:Int×Int) (c1:aO),nL c to=some (c1,c.ay.aj[0]!,x,0)/\DS c=some (c1,c.ay.aj[0]!,x)/\aR c1/\c1.au=c.au/\kE c.au.aa x/\pY c1=pY c+1/\c1.ar=Ev.at c.ay.aj[0]!:=by
 obtain ⟨i,c',hi,num,r1,r2,ok1,hf,hc,_⟩:=RG ok az.1;have g:=aE c.ay.aj 0 az.1;rw [show ((0:Nat):Int)=0 from rfl] at g;have hcl:c'.ax.aq.length=c.ax.aq.length-1:=by
  rw [hc];exact cj hi
 have hcn:c'.ax.ao=c.ax.ao:=by rw [hc];rfl
 refine ⟨(c.ax.aq[i]!).2,atT c' (Ev.at c.ay.aj[0]!),?_,?_,ok1,hf,ok.known i hi,?_,rfl⟩
 · unfold nL
   rw [K7 ok rt r64 le,aB,dW rfl,cond_true,aK az,bv,cond_false,bP rfl,cond_false,g,aB,r1,aB,bP rfl,cond_false]
 · unfold DS
   rw [g,aB,show (c.ay.aj[0]!).2.2.1=(c.ax.aq[i]!).1 from num.symm,aAk ok.crt hi,aB,aE c.ax.aq i hi,aB,num,r2,aB]
 unfold pY
 show c'.ax.ao- (c'.ax.aq.length:Int)=_;rw [hcl,hcn];omega
theorem aAl {c:aO} (ok:aR c) {to:Int×Int} (rt:bK to) (r64:nD to) (le: ¬iH to c.ar<0) (az: ¬NW c to):nL c to=some (fB,(0,0,0,0,0),(0,0),6):=by
 unfold nL;rw [K7 ok rt r64 le,aB,dW rfl,cond_true,dec_f az];rfl
theorem aDn {c:aO} (ok:aR c) {to:Int×Int} (rt:bK to) (r64:nD to) (le: ¬iH to c.ar<0) (az: ¬NW c to):DL c to=some (atT c to,0):=by
 unfold DL;rw [K7 ok rt r64 le,aB,dW rfl,cond_true,dec_f az,cond_false,bP rfl,cond_false,iI ok,aB]
theorem aG0 {c:aO} (ok:aR c) (to:Int×Int):FV c to=some (atT c to):=by
 unfold FV;rw [jX ok,aB]
theorem WW {c:aO} (ok:aR c): -200<=pY c/\pY c<=1000000:=by
 have h1:=ok.crt.len;have h2:=ok.crt.n0;have h3:=ok.crt.n1;unfold pY;omega
theorem aOF {h l:Pt} {t t':Int×Int} (hh:gJ h) (hl:gJ l) (r:bK t) (r':bK t') (le:t.1*t'.2<=t'.1*t.2) (nf:(lS h l t).2=true->t'.1*(lS h l t).1.2<(lS h l t).1.1*t'.2): ¬cR l h t':=by
 unfold lS at nf
 by_cases h1:cR l h t
 · rw [if_pos h1] at nf
   have:=nf rfl
   dsimp only at this;omega
 rw [if_neg h1] at nf
 by_cases h2:h.2.2<l.2.2
 · rw [if_pos h2] at nf
   obtain ⟨_,m1,m2,m3⟩:=I6 hh hl (show h.2.2≠l.2.2 by omega)
   have up:=nf rfl;dsimp only at up;intro h3;have g:0<=OA l h t':=by rcases h3 with k|k<;>omega
   rw [G7] at g;generalize met h l=m at*;have d:=m1.1;have hB:0<l.2.2-h.2.2:=by omega
   generalize l.2.2-h.2.2=B at*;generalize hA:h.2.1-l.2.1=A at*;have g2:A*t'.2<=B*t'.1:=by
    have:(l.2.1-h.2.1)*t'.2= -(A*t'.2):=by rw [<- Int.neg_mul];congr 1;omega
    omega
   have g3:m.1*t'.2*B<=t'.1*m.2*B:=by
    have e1:m.1*t'.2*B=A*t'.2*m.2:=by rw [db,m3,db]
    have e2:t'.1*m.2*B=B*t'.1*m.2:=by rw [db,ef t'.1 B]
    rw [e1,e2];exact Int.mul_le_mul_of_nonneg_right g2 (by omega)
   have g4:m.1*t'.2<=t'.1*m.2:=Int.le_of_mul_le_mul_right g3 hB;omega
 exact A1 r.1 r'.1 le h2 h1
def hP (c:aO) (r:Int) (N:List Nd) (to:Int×Int) (out:List (Int×Int)):=
 (c.ar.1,c.ar.2,c.au.aa,c.ax.ao,c.ax.aq,c.ay.ai.ac,c.ay.ai.ae,c.ay.ai.af,c.ay.aj,c.ay.am,c.az,r,N,to.1,to.2,(0:Int),(0:Int),(0:Int),(0:Int),out)
noncomputable def BQ (p w:List Int) (k:Nat):List (Int×Int):=(d7 k).filterMap (ET p w)
theorem NJ (p w:List Int) (k:Nat):BQ p w (k+1)=BQ p w k++(match ET p w k with|some e=>[e]|none=>[]):=by
 unfold BQ;rw [List.range_succ,List.filterMap_append];cases h:ET p w k<;>simp [h]
theorem RZ (p w:List Int) (k:Nat):(BQ p w k).length<=k:=by
 have:=List.length_filterMap_le (ET p w) (d7 k)
 rwa [dt] at this
section
variable {p w : List Int} (hl : w.length + 1 = p.length) (h64 : p.length <= 64) (hc : D3 p w)
include hl h64
theorem GD:CE ⟨p,w⟩=some (dR p w):=by
 have st:=dX (body:=AO) (fun i=>((i:Int),p,w,BQ p w i)) w.length (fun i hi=>by
  have k1:=tG (i:=i) (by omega) 1 (by omega)
  have k2:=tG (i:=i) (by omega) 2 (by omega)
  have el:=RZ p w i;rw [NJ];unfold AO;simp only [aF,aK (show (i:Int)<(w.length:Int) by omega),cond_true,show aA .i64 (aA .i64 (2*(i:Int))+1)=((2*i+1:Nat):Int) from k1,show aA .i64 (aA .i64 (2*(i:Int))+2)=((2*i+2:Nat):Int) from k2,
   rW (p:=p) (w:=w) (i:=2*i+1) (by omega) (by omega),rW (p:=p) (w:=w) (i:=2*i+2) (by omega) (by omega),aB,aE w i hi,aV (show i<1000000000 by omega)]
  unfold ET;generalize bI p w (2*i+1)=x;generalize bI p w (2*i+2)=y;generalize w[i]! =v
  by_cases a1:x<0
  · rw [aK a1,cond_true,if_pos (.inl a1)];simp
  rw [dec_f a1,cond_false]
  by_cases a2:y<0
  · rw [aK a2,cond_true,if_pos (.inr a2)];simp
  rw [dec_f a2,cond_false,if_neg (by omega)]
  by_cases a3:v=x
  · rw [dW a3,cond_true,if_pos a3,eU (by rw [bo];omega),aB]
  rw [eT a3,cond_false,if_neg a3,eU (by rw [bo];omega),aB])
 unfold CE;refine (show _=_ from st).trans (aL ?_);unfold AO;simp only [aF,dec_f (show¬(w.length:Int)<(w.length:Int) by omega),cond_false]
 rfl
include hc
theorem aAm (hr: ∀x∈p,-1<=x/\x<=65535):aH oT (w,(w.length:Int),0,p,w,[])=some (⟨p,w⟩,dR p w):=by
 have st:=dX (body:=oT) (fun i=>(w,(w.length:Int),(i:Int),p,w,BQ p w i)) w.length (fun i hi=>by
  have k1:=tG (i:=i) (by omega) 1 (by omega)
  have k2:=tG (i:=i) (by omega) 2 (by omega)
  have el:=RZ p w i;have m1:=hr _ (iS hl hc (i:=2*i+1) (by omega))
  have m2:=hr _ (iS hl hc (i:=2*i+2) (by omega))
  have cv:=hc i hi;have fin: ∀(x y v:Int),(-1<=x/\x<=65535)->(-1<=y/\y<=65535)->(v=x\/v=y)->
   (bif decide (0<=x) then
    bif decide (0<=y) then (bV (BQ p w i) [(aA .i64 (aA .i64 (x+y) -v),v)]).bind fun l3=>some (bT.next (ρ:=bJ×List (Int×Int)) (w,(w.length:Int),aA .i64 ((i:Int)+1),p,w,l3))
    else some (bT.next (w,(w.length:Int),aA .i64 ((i:Int)+1),p,w,BQ p w i))
   else some (bT.next (w,(w.length:Int),aA .i64 ((i:Int)+1),p,w,BQ p w i)))=
   some (bT.next (w,(w.length:Int),((i+1:Nat):Int),p,w,BQ p w i++(match (if x<0\/y<0 then none else if v=x then some (y,x) else some (x,y)) with|some e=>[e]|none=>[]))):=by
   intro x y v hx hy hv;rw [aV (show i<1000000000 by omega)]
   by_cases a1:x<0
   · rw [dec_f (by omega),cond_false,if_pos (.inl a1)];simp
   rw [aK (by omega),cond_true]
   by_cases a2:y<0
   · rw [dec_f (by omega),cond_false,if_pos (.inr a2)];simp
   rw [aK (by omega),cond_true,if_neg (by omega),eU (by rw [bo];omega),aB,oG (n:=x+y) ⟨by omega,by omega⟩,oG ⟨by omega,by omega⟩]
   by_cases a3:v=x
   · rw [if_pos a3,a3,show x+y-x=y by omega]
   rw [if_neg a3,show x+y-v=x by omega,show v=y by omega]
  rw [NJ];unfold oT;have e1:bI p w (2*i+1)=if 2*i+1<w.length then w[2*i+1]! else p[2*i+1-w.length]!:=rfl
  have e2:bI p w (2*i+2)=if 2*i+2<w.length then w[2*i+2]! else p[2*i+2-w.length]!:=rfl
  have f1:=fin _ _ _ m1 m2 cv;simp only [aF,aK (show (i:Int)<(w.length:Int) by omega),cond_true,show aA .i64 (aA .i64 (2*(i:Int))+1)=((2*i+1:Nat):Int) from k1,show aA .i64 (aA .i64 (2*(i:Int))+2)=((2*i+2:Nat):Int) from k2,aE w i hi,aB,beq_self_eq_true]
  by_cases b1:2*i+1<w.length
  · rw [if_pos b1] at e1
    rw [aK (show ((2*i+1:Nat):Int)<(w.length:Int) by omega),cond_true,aE w _ b1,aB,<- e1]
    by_cases b2:2*i+2<w.length
    · rw [if_pos b2] at e2
      rw [aK (show ((2*i+2:Nat):Int)<(w.length:Int) by omega),cond_true,aE w _ b2,aB,<- e2]
      exact f1
    rw [if_neg b2] at e2
    rw [dec_f (show¬((2*i+2:Nat):Int)<(w.length:Int) by omega),cond_false,oG ⟨by omega,by omega⟩,show ((2*i+2:Nat):Int) - (w.length:Int)=((2*i+2-w.length:Nat):Int) by omega,aE p _ (by omega),aB,<- e2]
    exact f1
  rw [if_neg b1] at e1
  rw [if_neg (show¬2*i+2<w.length by omega)] at e2
  rw [dec_f (show¬((2*i+1:Nat):Int)<(w.length:Int) by omega),cond_false,oG (n:=((2*i+1:Nat):Int) - (w.length:Int)) ⟨by omega,by omega⟩,show ((2*i+1:Nat):Int) - (w.length:Int)=((2*i+1-w.length:Nat):Int) by omega,aE p _ (by omega),aB,<- e1,
   dec_f (show¬((2*i+2:Nat):Int)<(w.length:Int) by omega),cond_false,oG (n:=((2*i+2:Nat):Int) - (w.length:Int)) ⟨by omega,by omega⟩,show ((2*i+2:Nat):Int) - (w.length:Int)=((2*i+2-w.length:Nat):Int) by omega,aE p _ (by omega),aB,<- e2]
  exact f1)
 refine (show _=_ from st).trans (aL ?_);unfold oT;simp only [dec_f (show¬(w.length:Int)<(w.length:Int) by omega),cond_false]
 rfl
end
structure zL (f:List Pt) (p:List Int):Prop where
 one:1<=p.length
 most:p.length<=64
 once:JB p
 ids: ∀x∈p,SQ f x
theorem zL.rng {f:List Pt} (fok:bZ f) {p:List Int} (h:zL f p): ∀x∈p,-1<=x/\x<=65535:=fun x hx=>by
 rcases h.ids x hx with e|⟨e,hp⟩
 · omega
 have:=(dG fok hp).1
 have e2:=(dG fok hp).2;unfold gJ at this;omega
section
variable {f : List Pt} (fok : bZ f) {t : Int × Int} (r : bK t) (r64 : nD t) {p : List Int} (pl : zL f p)
include fok r64 pl
theorem IA:DO ⟨f⟩ t p=some ⟨p,aY f t p⟩:=by
 unfold DO;rw [RQ fok r64 pl.one pl.most pl.ids];rfl
theorem mS:yA f (dR p (aY f t p))/\(dR p (aY f t p)).Nodup/\(dR p (aY f t p)).length<=63:=by
 have _:=r64;have R:=dQ (f:=f) (t:=t) pl.one;have m:=pl.most
 have:=R.1
 have el:=RI p (aY f t p);exact ⟨aEt fok R.1 pl.most R.chosen pl.once fun x hx h0=>(pl.ids x hx).has h0,WN R.1 R.chosen pl.once,by omega⟩
include r
theorem pI:iL ⟨f⟩ t p=some (⟨p,aY f t p⟩,dR p (aY f t p)):=by
 have R:=dQ (f:=f) (t:=t) pl.one;unfold iL;rw [MS fok r r64 pl.one pl.most pl.ids pl.once,aB];exact aAm R.1 pl.most R.chosen (pl.rng fok)
end
def A3:bX:=⟨fB,⟨[],[]⟩⟩
structure aVr (c:aO) (f:List Pt) (p:List Int) (k:bX):Prop where
 ren:K2 c f (dR p (aY f c.ar p)) k.bg
 ba:k.bi=⟨p,aY f c.ar p⟩
theorem WX {c:aO} (ok:aR c) {f:List Pt} (fok:bZ f) {p:List Int} (pl:zL f p):
 ∃R:aO×Int,oV c ⟨f⟩ (dR p (aY f c.ar p))=some R/\lP c ⟨f⟩ (dR p (aY f c.ar p))=some R/\(R.2=0/\K2 c f (dR p (aY f c.ar p)) R.1\/R=(fB,18)):=by
 obtain ⟨eok,nd,el⟩:=mS fok ok.now64 (t:=c.ar) pl;obtain ⟨R,r1,r2,r3⟩:=WM ok fok eok;have ee:nR f (dR p (aY f c.ar p))=0:=by
  unfold nR;rw [if_neg (cy.2 eok.cv),if_neg (cy.2 nd),if_neg (fun h=>h eok.kn)]
 have rn:=GA ok fok (es:=dR p (aY f c.ar p)) (by omega) (fun _=>r1)
 rw [if_pos ee] at rn;exact ⟨R,rn,r2,r3⟩
theorem JD {c:aO} (ok:aR c) {f:List Pt} (fok:bZ f) {p:List Int} (pl:zL f p):
 ∃R:bX×Int,gT c ⟨f⟩ p=some R/\gK c ⟨f⟩ p=some R/\(R.2=0/\aVr c f p R.1\/R=(A3,18)):=by
 have h1:=pI fok ok.nowv ok.now64 pl;have g1:=IA fok (t:=c.ar) ok.now64 pl;have B:=dQ (f:=f) (t:=c.ar) pl.one;have eo:=GD B.1 pl.most;obtain ⟨R,r1,r2,r3⟩:=WX ok fok pl;rcases r3 with ⟨q0,qq⟩|he
 · refine ⟨(⟨R.1,⟨p,aY f c.ar p⟩⟩,0),?_,?_,.inl ⟨rfl,qq,rfl⟩⟩
   · unfold gT
     simp only [h1,aB,r1,q0,show ((0:Int) !=0)=false from rfl,cond_false]
   unfold gK
   simp only [g1,aB,eo,r2,q0,show ((0:Int) !=0)=false from rfl,cond_false]
 refine ⟨(A3,18),?_,?_,.inr rfl⟩
 · unfold gT
   simp only [h1,aB,r1,he,show ((18:Int) !=0)=true from rfl,cond_true];rfl
 unfold gK
 simp only [g1,aB,eo,r2,he,show ((18:Int) !=0)=true from rfl,cond_true];rfl
def BS:bA:=⟨bn 200 0,bn 200 false,(d7 200).map fun j:Nat=>(199:Int) - (j:Int)⟩
def OG:aP:=⟨BS,[],bn 200 (-1)⟩
def JE (f:Field) (t:Int×Int):aO:=⟨t,f,⟨0,[]⟩,OG,[]⟩
theorem aBN:AJ 200=some BS:=
 (by kernel_rfl:AJ 200=aH FQ (199,bn 200 0,bn 200 false,[])).trans (wL.2 ⟨300,by kernel_rfl⟩)
theorem aBO:AL 200=some OG:=by
 unfold AL;rw [aBN,aB];exact wL.2 ⟨300,by kernel_rfl⟩
theorem aBP {f:Field} (hf:f.aa.length<=64) (t:Int×Int):AM f t=some (JE f t):=by
 unfold AM nN;rw [aZ (by omega),aB,aB,aBO]
 rfl
theorem zM {α:Type} [Inhabited α] {n i:Nat} (a:α) (h:i<n):(bn n a)[i]! =a:=by
 rw [getElem!_pos _ i (by rw [bu];exact h),List.getElem_replicate]
theorem aOG {i:Nat} (hi:i<200):(i:Int)∈BS.af:=by
 refine cz.2 ⟨199-i,d8.2 (by omega),?_⟩
 show (199:Int) - ((199-i:Nat):Int)=(i:Int);omega
theorem pJ:BS.ac.length=200:=bu ..
set_option maxRecDepth 100000 in
theorem aG1:BS.af.length=200:=by
 unfold BS;exact (bw _).trans dt
theorem aEw:fP BS where
 n1:=by rw [pJ];omega
 n2:=by rw [pJ];omega
 ul:=by rw [pJ];exact bu ..
 fr:=fun x hx=>by
  obtain ⟨j,hj,rfl⟩:=cz.1 hx
  have:=d8.1 hj
  rw [pJ];omega
 fd:=by
  refine zJ List.nodup_range fun i hi j hj h=>?_
  have h:(199:Int) - (i:Int)=199- (j:Int):=h;omega
 uf:=fun i hi=>by
  rw [pJ] at hi;rw [show BS.ae[i]! =false from zM false hi];constructor
  · intro h;cases h
  intro h;exact absurd (aOG hi) h
 us:=fun i hi=>by
  rw [pJ] at hi;rw [show BS.ac[i]! =0 from zM 0 hi,show BS.ae[i]! =false from zM false hi];exact ⟨by decide,by decide,fun h=>by cases h⟩
set_option maxRecDepth 100000 in
theorem aBQ:fQ OG where
 so:=aEw
 wl:=(bu (n:=200) (a:=(-1:Int))).trans pJ.symm
 hl:=((eg _).trans aG1).trans pJ.symm
 fwd:=fun i hi h=>by
  rw [show OG.ai.ae[i]! =false from zM false (by rw [<- pJ];exact hi)] at h
  cases h
 un:=fun i hi _=>zM (-1) (by rw [<- pJ];exact hi)
 ev:=fun w hw=>absurd hw (bz w)
 nd:=fun v w _ hw=>absurd hw (bz w)
 ord:=fun k _ hk=>absurd hk (bz k)
theorem aEx {f:Field} (fok:bZ f.aa) {t:Int×Int} (r:bK t) (r64:nD t):aR (JE f t) where
 nowv:=r
 now64:=r64
 fld:=fok
 crt:=(⟨by decide,by decide,by decide,fun i hi=>absurd hi (bz i),fun i hi=>absurd hi (bz i),fun i j _ hj=>absurd hj (bz j),fun i j _ hj=>absurd hj (bz j)⟩:fA ⟨0,[]⟩)
 agd:=aBQ
 w200:=bu ..
 hd:=rfl
 known:=fun i hi=>absurd hi (bz i)
 fol:=rfl
theorem WY (f:Field) (t:Int×Int):RD (JE f t) 0:=by
 refine ⟨bq _,Int.le_refl _,fun j hj=>?_⟩
 rw [show (JE f t).ay.ai.ac[j]! =0 from zM 0 (by rw [<- pJ];exact hj)]
 decide
def iC (p:List Int):List Int:=p.filter fun x=>decide (0<=x)
theorem qJ {p:List Int} {j:Nat} (hj:j<p.length):iC (p.take (j+1))=iC (p.take j)++if 0<=p[j]! then [p[j]!] else []:=by
 unfold iC;rw [iR hj,List.filter_append]
 by_cases h:0<=p[j]!
 · rw [if_pos h,List.filter_cons_of_pos (by simpa using h),d6]
 rw [if_neg h,List.filter_cons_of_neg (by simpa using h),d6]
theorem aG2 (p:List Int) (j:Nat):(iC (p.take j)).length<=j:=by
 have:=df (fun x:Int=>decide (0<=x)) (p.take j)
 rw [cd] at this;unfold iC;omega
theorem K8 (p:List Int) (hl:p.length<=1000):GY p=some (iC p):=by
 have st:=dX (body:=xY) (fun i=>(p,(i:Int),iC (p.take i))) p.length (fun i hi=>by
  have el:=aG2 p i;rw [qJ hi];unfold xY;simp only [aF,aK (show (i:Int)<(p.length:Int) by omega),cond_true,aE p i hi,aB,aV (show i<1000000000 by omega)]
  by_cases h:0<=p[i]!
  · rw [aK h,cond_true,if_pos h,eU (by rw [bo];omega),aB]
  rw [dec_f h,cond_false,if_neg h,c9])
 unfold GY;refine (show _=_ from st).trans (aL ?_);unfold xY;simp only [aF,dec_f (show¬(p.length:Int)<(p.length:Int) by omega),cond_false,cq]
structure UG (p:List Int) (i j:Nat) (L:List Int):Prop where
 len:L.length=p.length
 le:i<=j
 lt:j<=p.length
 got:L.take i=iC (p.take j)
 rest: ∀k,j<=k->k<p.length->L[k]! =p[k]!
theorem UG.cnt {p:List Int} {i j:Nat} {L:List Int} (h:UG p i j L):i=(iC (p.take j)).length:=by
 have:=congrArg List.length h.got
 rw [cd,h.len] at this
 have:=h.le;have:=h.lt
 omega
theorem aOH {p:List Int} {i:Nat} {L:List Int} (h:UG p i p.length L): ∃M:List Int,bG p ((i:Int),(p.length:Int),L)=some (.done (.done (i,p.length,M)))/\M.length=p.length/\M.take i=iC p:=by
 have hl:=h.len;have hi:=h.le;have got:=h.got;rw [cq] at got;unfold bG
 simp only [aF,hl,dec_f (show¬(p.length:Int)<(p.length:Int) by omega),cond_false,aK (show (0:Int)<=(i:Int) by omega),aK (show (i:Int)<=(p.length:Int) by omega),aK (show (p.length:Int)<=(p.length:Int) by omega),Bool.and_self,cond_true,dv,eg,dh,Bool.and_true]
 by_cases h0:p.length-i=0
 · have n1:Nat.beq (p.length-i) 0=true:=by rw [h0];rfl
   rw [n1,cond_true,mQ L i (by omega),aB,beq_self_eq_true,cond_true]
   exact ⟨L,rfl,hl,got⟩
 have n1:Nat.beq (p.length-i) 0=false:=by
  cases hb:Nat.beq (p.length-i) 0 with
  |false=>rfl
  |true=>have:=Nat.eq_of_beq_eq_true hb;omega
 have n2:Nat.ble (i+(p.length-i)) p.length=true:=Nat.ble_eq_true_of_le (by omega)
 have ll:(jY L i (bn (p.length-i) (0:Int))).length=p.length:=by
  unfold jY;simp;omega
 rw [n1,cond_false,n2,cond_true,mQ _ i (by rw [ll];omega),aB,ll,beq_self_eq_true,cond_true]
 refine ⟨_,rfl,ll,?_⟩;rw [<- got];unfold jY;rw [dw,c8 (by rw [cd];omega),List.take_take,Nat.min_self]
theorem aVs {p:List Int} (hp:p.length<=1000): ∀(d i j:Nat) (L:List Int),p.length-j<=d->UG p i j L->
 ∃(n:Nat) (M:List Int),aH (bG p) ((i:Int),(j:Int),L)=some (.done (n,p.length,M))/\n=(iC p).length/\M.length=p.length/\M.take n=iC p:=by
 have fin: ∀(i j:Nat) (L:List Int),p.length<=j->UG p i j L-> ∃(n:Nat) (M:List Int),aH (bG p) ((i:Int),(j:Int),L)=some (.done (n,p.length,M))/\n=(iC p).length/\M.length=p.length/\M.take n=iC p:=by
  intro i j L hj h;obtain rfl:j=p.length:=by have:=h.lt;omega
  obtain ⟨M,m1,m2,m3⟩:=aOH h;exact ⟨i,M,aL m1,by rw [h.cnt,cq],m2,m3⟩
 intro d
 induction d with
 |zero=>exact fun i j L hd h=>fin i j L (by omega) h
 |succ d ih=>
  intro i j L hd h
  by_cases hj:p.length<=j
  · exact fin i j L hj h
  have hl:=h.len;have hle:=h.le;have e:L[j]! =p[j]!:=h.rest j (bq _) (by omega)
  have st:bG p ((i:Int),(j:Int),L)=some (.next (((if 0<=p[j]! then i+1 else i:Nat):Int),((j+1:Nat):Int),if 0<=p[j]! then L.set i p[j]! else L)):=by
   unfold bG mH;simp only [aF,hl,aK (show (j:Int)<(p.length:Int) by omega),cond_true,aE L j (by omega),aB,e,aV (show i<1000000000 by omega),aV (show j<1000000000 by omega)]
   by_cases h0:0<=p[j]!
   · rw [dec_f (by omega),dh,cond_true,aE L i (by omega),aB,if_pos h0,if_pos h0];rfl
   rw [aK (by omega),bv,cond_false,if_neg h0,if_neg h0]
  rw [aW st];refine ih _ _ _ (by omega) ?_
  by_cases h0:0<=p[j]!
  · rw [if_pos h0,if_pos h0]
    refine ⟨by rw [cb];exact hl,by omega,by omega,?_,fun k hk hk2=>?_⟩
    · rw [qJ (by omega),if_pos h0,<- h.got,iR (by rw [cb];omega),bD,if_pos ⟨rfl,by omega⟩,List.take_set_of_le (bq i)]
    rw [bD,if_neg (by omega)];exact h.rest k (by omega) hk2
  rw [if_neg h0,if_neg h0]
  refine ⟨hl,by omega,by omega,?_,fun k hk hk2=>h.rest k (by omega) hk2⟩
  rw [qJ (by omega),if_neg h0,c9];exact h.got
theorem aAn: ∀{l:List Int},(∀x∈l,0<=x)->iC l=l:=fun {l} h=>List.filter_eq_self.2 fun x hx=>by simpa using h x hx
theorem ST (p:List Int) (hp:p.length<=1000): ∃(n:Nat) (M:List Int),cS p=some (n,p.length,M)/\n=(iC p).length/\M.length=p.length/\M.take n=iC p:=by
 have key: ∀(d m:Nat),p.length-m<=d->m<=p.length->(∀k,k<m->0<=p[k]!)-> ∃(n:Nat) (M:List Int),aH (bH p) ((p.length:Int),(m:Int),p)=some (n,p.length,M)/\n=(iC p).length/\M.length=p.length/\M.take n=iC p:=by
  intro d;have fin: ∀m,m=p.length->(∀k,k<m->0<=p[k]!)-> ∃(n:Nat) (M:List Int),aH (bH p) ((p.length:Int),(m:Int),p)=some (n,p.length,M)/\n=(iC p).length/\M.length=p.length/\M.take n=iC p:=by
   intro m hm h;subst hm;have e:iC p=p:=aAn fun x hx=>by
    obtain ⟨i,hi,rfl⟩:=aU.1 hx;exact h i hi
   refine ⟨p.length,p,aL ?_,by rw [e],rfl,by rw [cq,e]⟩
   unfold bH;simp only [dec_f (show¬(p.length:Int)<(p.length:Int) by omega),cond_false,beq_self_eq_true,cond_true]
  induction d with
  |zero=>exact fun m h1 h2 h=>fin m (by omega) h
  |succ d ih=>
   intro m h1 h2 h
   by_cases hm:m=p.length
   · exact fin m hm h
   by_cases h0:0<=p[m]!
   · have st:bH p ((p.length:Int),(m:Int),p)=some (.next ((p.length:Int),((m+1:Nat):Int),p)):=by
      unfold bH mH;simp only [aK (show (m:Int)<(p.length:Int) by omega),cond_true,aE p m (by omega),aB,dec_f (show¬p[m]!<0 by omega),cond_false,aV (show m<1000000000 by omega)]
     rw [aW st];refine ih (m+1) (by omega) (by omega) fun k hk=>?_
     by_cases e:k=m
     · rw [e];exact h0
     exact h k (by omega)
   have hd:UG p m (m+1) p:=⟨rfl,by omega,by omega,by
    rw [qJ (by omega),if_neg h0,c9,aAn fun x hx=>?_]
    obtain ⟨i,hi,_,rfl⟩:=cL.1 hx;exact h i hi,fun k _ _=>rfl⟩
   obtain ⟨n,M,m1,m2,m3,m4⟩:=aVs hp p.length m (m+1) p (by omega) hd
   refine ⟨n,M,aL ?_,m2,m3,m4⟩;unfold bH mH;simp only [aK (show (m:Int)<(p.length:Int) by omega),cond_true,aE p m (by omega),aB,aK (show p[m]!<0 by omega),beq_self_eq_true,eT (show (m:Int)≠ -1 by omega),cond_false,aV (show m<1000000000 by omega),m1]
 unfold cS;exact key p.length 0 (by omega) (ci _) (fun k hk=>absurd hk (bz k))
def aEy (n:Nat):Prop:= ∃i,i<7/\n=2^i
theorem aAo {n:Nat} (h1:1<=n) (h2:n<=64):IL .i64 (n:Int) ((n-1:Nat):Int)=0↔aEy n:=by
 have key: ∀k:Fin 65,1<=k.val->((IL .i64 (k.val:Int) ((k.val-1:Nat):Int)=0)↔ ∃i,i<7/\k.val=2^i):=by decide+kernel
 exact key ⟨n,by omega⟩ h1
theorem dbl {q:Nat} (h:q<=64):aA .i64 ((q:Int)*2)=((2*q:Nat):Int):=by rw [oG ⟨by omega,by omega⟩];omega
theorem aOI (i:Nat):2^(i+1)=2*2^i:=by rw [dd];omega
theorem R0 {n:Nat}:AU (n:Int)=some (decide (aEy n)):=by
 have st:=rB (body:=sW) (fun i=>((n:Int),((2^i:Nat):Int))) 7 (fun i=>n≠2^i) (r:=true) (e:=false) (fun i hi=>by
  have b1:2^i<=64:=eh (Nat.pow_le_pow_right (by omega) (show i<=6 by omega)) (by decide)
  unfold sW;simp only [aK (show ((2^i:Nat):Int)<=64 by omega),cond_true]
  by_cases h:n=2^i
  · rw [dW (by omega)];exact ⟨fun _=>rfl,fun k=>absurd h k⟩
  · rw [eT (by omega),cond_false,dbl b1,aOI]
    exact ⟨fun k=>absurd h k,fun _=>rfl⟩) (by
  unfold sW
  rfl)
 unfold AU;refine (show _=_ from st).trans ?_
 by_cases h:aEy n
 · obtain ⟨i,hi,e⟩:=h
   rw [if_neg (fun k=>k i hi e),aK ⟨i,hi,e⟩]
 rw [if_pos (fun i hi e=>h ⟨i,hi,e⟩),dec_f h]
theorem uO (f:List Pt):(nE f).length=f.length:=bw ..
theorem D8 {f:List Pt} {i:Nat} (h:i<f.length):(nE f)[i]! =(f[i]!).1:=by
 unfold nE;rw [getElem!_pos _ i (by rw [bw];exact h),getElem!_pos f i h,dz]
section
variable {f : List Pt} (h64 : f.length <= 64)
include h64
end
theorem aBR:FP=FW:=rfl
structure xF (k:bX):Prop where
 clk:aR k.bg
 br:WT k.bi.ba k.bi.be
 pow:aEy k.bi.ba.length
 perm:(nE k.bg.au.aa).Perm (iC k.bi.ba)
 right:k.bi.be=aY k.bg.au.aa k.bg.ar k.bi.ba
 cert:(k.bg.ax.aq.map fun x=>x.2).Perm (dR k.bi.ba k.bi.be)
theorem uP {p:List Int} {x:Int}:x∈iC p↔x∈p/\0<=x:=by unfold iC;rw [List.mem_filter];simp
theorem uQ {f:List Pt} {p w:List Int} (br:WT p w) (pm:(nE f).Perm (iC p)):zL f p:=by
 refine ⟨br.one,br.most,br.once,fun x hx=>?_⟩
 have:=br.rng x hx
 by_cases h:0<=x
 · exact .inr ⟨h,A2.1 (pm.mem_iff.2 (uP.2 ⟨hx,h⟩))⟩
 exact .inl (by omega)
theorem R2 {p:List Int} (h:JB p):(iC p).Nodup:=by
 have go: ∀(j:Nat),j<=p.length->(iC (p.take j)).Nodup:=by
  intro j
  induction j with
  |zero=>intro _;simp [iC]
  |succ j ih=>
   intro hj;rw [qJ (by omega)]
   by_cases h0:0<=p[j]!
   · rw [if_pos h0]
     refine List.nodup_append.2 ⟨ih (by omega),by simp,fun a ha b hb e=>?_⟩
     obtain rfl:b=p[j]!:=by simpa using hb
     subst e;have hm:=(uP.1 ha).1;obtain ⟨i,hi,_,e⟩:=cL.1 hm
     have:=h i j hi (by omega) e
     omega
   rw [if_neg h0,c9];exact ih (by omega)
 have:=go p.length (bq _)
 rwa [cq] at this
theorem aBS {f:List Pt} (h:fY f):(nE f).Pairwise (· <= ·):=by
 refine List.pairwise_iff_getElem.2 fun i j hi hj hij=>?_
 rw [uO] at hi hj
 have:=pU h hij hj
 rw [<- getElem!_pos (nE f) i (by rw [uO];exact hi),<- getElem!_pos (nE f) j (by rw [uO];exact hj),D8 hi,D8 hj]
 omega
theorem aAp {f:List Pt} (h:fY f) (l:List Int):oN l=nE f↔(nE f).Perm l:=by
 constructor
 · intro e;rw [<- e];exact yO l
 intro pm
 exact List.Perm.eq_of_pairwise (le:=(· <= ·)) (fun a b _ _ h1 h2=>Int.le_antisymm h1 h2) (DE l) (aBS h) ((yO l).trans pm.symm)
theorem SU (l:List Int) (f:List Pt) (hl:l.length<=1000):cX l f ()=some (decide (l=nE f)):=by
 unfold cX;simp only [aF]
 by_cases h:l.length=f.length
 case neg=>rw [dM (by omega),cond_true,dec_f (fun e=>h (by rw [e,uO]))]
 rw [bP (by omega),cond_false]
 have key:=rB (body:=cO) (fun i=>(f,l,(l.length:Int),(i:Int))) l.length (fun i=>l[i]! =(f[i]!).1) (r:=false) (e:=true) (fun i hi=>by
  unfold cO yZ;simp only [aK (show (i:Int)<(l.length:Int) by omega),cond_true,aE l i hi,aE f i (by omega),aB,aV (show i<1000000000 by omega)]
  by_cases q:l[i]! =(f[i]!).1
  · rw [dW q];exact ⟨fun w=>absurd q w,fun _=>rfl⟩
  · rw [eT q];exact ⟨fun _=>rfl,fun w=>absurd w q⟩) (by
  unfold cO;simp only [dec_f (show¬(l.length:Int)<(l.length:Int) by omega),cond_false])
 refine (show _=_ from key).trans ?_
 by_cases q:l=nE f
 · rw [if_pos (fun i hi=>by rw [q,D8 (by omega)]),aK q]
 rw [if_neg (fun w=>q (wM (by rw [uO];exact h) fun i hi=>by rw [w i hi,D8 (by omega)])),dec_f q]
theorem WZ (a b:List Int) (ha:a.length<=1000):pQ a b=some (decide (a=b)):=by
 unfold pQ;simp only [aF]
 by_cases h:a.length=b.length
 case neg=>rw [dM (by omega),cond_true,dec_f (fun e=>h (by rw [e]))]
 rw [bP (by omega),cond_false]
 have key:=rB (body:=lW) (fun i=>(a,b,(a.length:Int),(i:Int))) a.length (fun i=>a[i]! =b[i]!) (r:=false) (e:=true) (fun i hi=>by
  unfold lW;simp only [aK (show (i:Int)<(a.length:Int) by omega),cond_true,aE a i hi,aE b i (by omega),aB,aV (show i<1000000000 by omega)]
  by_cases q:a[i]! =b[i]!
  · rw [bP q];exact ⟨fun w=>absurd q w,fun _=>rfl⟩
  · rw [dM q];exact ⟨fun _=>rfl,fun w=>absurd w q⟩) (by
  unfold lW;simp only [dec_f (show¬(a.length:Int)<(a.length:Int) by omega),cond_false])
 refine (show _=_ from key).trans ?_
 by_cases q:a=b
 · rw [if_pos (fun i _=>by rw [q]),aK q]
 rw [if_neg (fun w=>q (wM h w)),dec_f q]
theorem aAq {n:Nat} {M:List Int} (hn:n<=M.length) (hm:M.length<=1000):GL U0 n M=some (oN (M.take n)++M.drop n):=by
 unfold GL M3 U0;rw [if_pos hn,if_pos (by rw [cd];omega)]
 simp only [yC,if_true,Option.map_some]
theorem UH {c:aO} (ok:aR c) {es:List (Int×Int)} (_nd:es.Nodup):(es.length=c.ax.aq.length/\ ∀i,i<c.ax.aq.length->(c.ax.aq[i]!).2∈es)↔(c.ax.aq.map fun x=>x.2).Perm es:=by
 have cl:(c.ax.aq.map fun x=>x.2).length=c.ax.aq.length:=bw ..
 constructor
 · rintro ⟨h1,h2⟩
   exact zI (wR ok.crt) (fun x hx=>by
    obtain ⟨i,hi,rfl⟩:=tD.2 hx;exact h2 i hi) (by omega)
 intro h
 exact ⟨by rw [<- h.length_eq,cl],fun i hi=>h.mem_iff.1 (tD.1 ⟨i,hi,rfl⟩)⟩
theorem qS {k:bX} (fit:wQ k.bg) (hl:k.bi.ba.length<=1000) (wl:k.bi.be.length<=1000):gU k=some (if xF k then 0 else 8):=by
 unfold gU;rw [mR fit,aB]
 by_cases ok:aR k.bg
 case neg=>rw [if_neg ok,if_neg (fun h=>ok h.clk)];rfl
 rw [if_pos ok,bP rfl,cond_false,show lL k.bi=_ from CO k.bi.ba k.bi.be hl wl,aB]
 by_cases br:WT k.bi.ba k.bi.be
 case neg=>rw [if_neg br,if_neg (fun h=>br h.br)];rfl
 have b1:=br.one;have b2:=br.most;rw [if_pos br,bP rfl,cond_false,aF,qP (by omega) b1]
 by_cases pw:aEy k.bi.ba.length
 case neg=>rw [dM (fun h=>pw ((aAo b1 b2).1 h)),cond_true,if_neg (fun h=>pw h.pow)]
 rw [bP ((aAo b1 b2).2 pw),cond_false,aZ (by omega),aB]
 obtain ⟨n,M,e1,e2,e3,e4⟩:=ST k.bi.ba hl;have nl:n<=M.length:=by
  have:=df (fun x:Int=>decide (0<=x)) k.bi.ba
  rw [e2,e3];exact this
 have tk:(oN (M.take n)++M.drop n).take n=oN (iC k.bi.ba):=by
  rw [c8 (by rw [yC,cd];omega),List.take_of_length_le (by rw [yC,cd];omega),e4]
 have ll:(oN (M.take n)++M.drop n).length=M.length:=by rw [cu,yC,cd,List.length_drop];omega
 have fe:k.bg.au=⟨k.bg.au.aa⟩:=rfl;rw [e1,aB];dsimp only;rw [aAq nl (by omega),aB,ll,beq_self_eq_true,cond_true,tk,SU _ _ (by rw [yC];omega),aB]
 by_cases pm:(nE k.bg.au.aa).Perm (iC k.bi.ba)
 case neg=>rw [dec_f (fun h=>pm ((aAp ok.fld.2.2 _).1 h)),if_neg (fun h=>pm h.perm)];rfl
 have pl:=uQ br pm;rw [aK ((aAp ok.fld.2.2 _).2 pm),bv,cond_false,fe,pI ok.fld ok.nowv ok.now64 pl,aB];dsimp only;obtain ⟨_,nd,el⟩:=mS ok.fld ok.now64 (t:=k.bg.ar) pl;have R:=dQ (f:=k.bg.au.aa) (t:=k.bg.ar) pl.one;rw [WZ _ _ (by have:=R.1;omega),aB]
 by_cases hw:aY k.bg.au.aa k.bg.ar k.bi.ba=k.bi.be
 case neg=>rw [dec_f hw,if_neg (fun h=>hw h.right.symm)];rfl
 rw [aK hw,bv,cond_false,aBR,aOD _ _ (by omega) (by have:=ok.bd;omega),aB]
 by_cases hc:(k.bg.ax.aq.map fun x=>x.2).Perm (dR k.bi.ba (aY k.bg.au.aa k.bg.ar k.bi.ba))
 · rw [aK ((UH ok nd).2 hc),if_pos ⟨ok,br,pw,pm,hw.symm,by rw [<- hw];exact hc⟩];rfl
 rw [dec_f (fun h=>hc ((UH ok nd).1 h)),if_neg (fun h=>hc (by rw [hw];exact h.cert))];rfl
theorem R3 {f:List Pt} (fok:bZ f) (p:List Int) (hp:p.length<=1000):AV ⟨f⟩ p=some (decide (∀i,i<p.length->p[i]! = -1\/pF f p[i]!)):=by
 have st:=rB (body:=sX) (fun i=>(p,(i:Int),f)) p.length (fun i=>p[i]! = -1\/pF f p[i]!) (r:=false) (e:=true) (fun i hi=>by
  unfold sX;simp only [aF,aK (show (i:Int)<(p.length:Int) by omega),cond_true,aE p i hi,aB,aV (show i<1000000000 by omega)]
  by_cases h:p[i]! = -1
  · rw [bP h];exact ⟨fun k=>absurd (.inl h) k,fun _=>rfl⟩
  · rw [dM h,cond_true]
    by_cases h2:pF f p[i]!
    · obtain ⟨m,_,e,_⟩:=D1 fok h2
      rw [e,aB,dec_f (by omega)];exact ⟨fun k=>absurd (.inr h2) k,fun _=>rfl⟩
    rw [aBI fok h2,aB]
    exact ⟨fun _=>rfl,fun k=>by rcases k with k|k;exact absurd k h;exact absurd k h2⟩) (by
  unfold sX;simp only [aF,dec_f (show¬(p.length:Int)<(p.length:Int) by omega),cond_false])
 unfold AV;refine (show _=_ from st).trans ?_
 by_cases h: ∀i,i<p.length->p[i]! = -1\/pF f p[i]!
 · rw [if_pos h,aK h]
 rw [if_neg h,dec_f h]
theorem SW {f:List Pt} (fok:bZ f) {t:Int×Int} (r64:nD t) {p w:List Int} (br:WT p w) (pl:zL f p):zE ⟨p,w⟩ ⟨f⟩ t=some (decide (w=aY f t p)):=by
 have b2:=br.most;have b3:=br.len;have st:=rB (body:=vH) (fun i=>((i:Int),p,w,f,t)) w.length (fun i=>w[i]! =D5 f t (bI p w (2*i+1)) (bI p w (2*i+2))) (r:=false) (e:=true) (fun i hi=>by
  have k1:=tG (i:=i) (by omega) 1 (by omega)
  have k2:=tG (i:=i) (by omega) 2 (by omega)
  unfold vH;simp only [aF,aK (show (i:Int)<(w.length:Int) by omega),cond_true,show aA .i64 (aA .i64 (2*(i:Int))+1)=((2*i+1:Nat):Int) from k1,show aA .i64 (aA .i64 (2*(i:Int))+2)=((2*i+2:Nat):Int) from k2,
   rW (p:=p) (w:=w) (i:=2*i+1) (by omega) (by omega),rW (p:=p) (w:=w) (i:=2*i+2) (by omega) (by omega),aB,aE w i hi,aV (show i<1000000000 by omega),
   K5 fok r64 (pl.ids _ (iS b3 br.cho (i:=2*i+1) (by omega))) (pl.ids _ (iS b3 br.cho (i:=2*i+2) (by omega)))]
  by_cases h:w[i]! =D5 f t (bI p w (2*i+1)) (bI p w (2*i+2))
  · rw [bP h];exact ⟨fun k=>absurd h k,fun _=>rfl⟩
  · rw [dM h];exact ⟨fun _=>rfl,fun k=>absurd k h⟩) (by
  unfold vH;simp only [aF,dec_f (show¬(w.length:Int)<(w.length:Int) by omega),cond_false])
 unfold zE;refine (show _=_ from st).trans ?_;have R:=dQ (f:=f) (t:=t) pl.one
 by_cases h:w=aY f t p
 · rw [if_pos (by rw [h];exact R.2),aK h]
 rw [if_neg (fun k=>h (UD ⟨b3,k⟩ R)),dec_f h]
theorem NK {f:List Pt} (fok:bZ f) {t:Int×Int} {p:List Int} (pl:zL f p) {e:Int×Int} (he:e∈dR p (aY f t p)):cR (fU f e.2) (fU f e.1) t:=by
 have R:=dQ (f:=f) (t:=t) pl.one;have R1:=R.1;obtain ⟨i,hi,h⟩:=JC.1 he;obtain ⟨a1,a2,a3⟩:=D6 h;have ne:=K4 R.1 R.chosen pl.once hi a1;have hx:=(pl.ids _ (iS R.1 R.chosen (i:=2*i+1) (by omega))).has a1
 have hy:=(pl.ids _ (iS R.1 R.chosen (i:=2*i+2) (by omega))).has a2
 have wv:=R.2 i hi;unfold D5 at wv;rw [if_neg (by omega),if_neg (by omega)] at wv
 by_cases ld:cR (fU f (bI p (aY f t p) (2*i+1))) (fU f (bI p (aY f t p) (2*i+2))) t
 · rw [if_pos ld] at wv
   rcases a3 with ⟨rfl,_⟩|⟨_,h⟩
   · exact ld
   exact absurd wv h
 rw [if_neg ld] at wv
 rcases a3 with ⟨_,h⟩|⟨rfl,_⟩
 · rw [wv] at h;exact absurd h.symm ne
 exact pH t (by rw [(dG fok hx).2,(dG fok hy).2];exact ne) ld
theorem GE {k:bX} (fit:wQ k.bg) (hl:k.bi.ba.length<=1000) (wl:k.bi.be.length<=1000):iO k=some (if xF k then 0 else 8):=by
 unfold iO;rw [RA fit,aB]
 by_cases ok:aR k.bg
 case neg=>rw [if_neg ok,if_neg (fun h=>ok h.clk)];rfl
 rw [if_pos ok,bP rfl,cond_false,show wK k.bi=_ from RX k.bi.ba k.bi.be hl wl,aB]
 by_cases br:WT k.bi.ba k.bi.be
 case neg=>rw [if_neg br,if_neg (fun h=>br h.br)];rfl
 have b1:=br.one;have b2:=br.most;rw [if_pos br,bP rfl,cond_false,aF,R0,aB]
 by_cases pw:aEy k.bi.ba.length
 case neg=>rw [dec_f pw,if_neg (fun h=>pw h.pow)];rfl
 have fe:k.bg.au=⟨k.bg.au.aa⟩:=rfl;rw [aK pw,bv,cond_false,fe,R3 ok.fld _ hl,aB]
 by_cases pm:(nE k.bg.au.aa).Perm (iC k.bi.ba)
 case neg=>
  by_cases kn: ∀i,i<k.bi.ba.length->k.bi.ba[i]! = -1\/pF k.bg.au.aa k.bi.ba[i]!
  case neg=>rw [dec_f kn,if_neg (fun h=>pm h.perm)];rfl
  rw [aK kn,bv,cond_false,K8 _ hl,aB,aF,aF,if_neg (fun h=>pm h.perm)]
  rw [dM (fun h=>pm ?_)]
  · rfl
  have h:((iC k.bi.ba).length:Int)=(k.bg.au.aa.length:Int):=h;refine (zI (R2 br.once) (fun x hx=>?_) (by rw [uO];omega)).symm
  obtain ⟨h1,h2⟩:=uP.1 hx;obtain ⟨i,hi,rfl⟩:=aU.1 h1;rcases kn i hi with e|e
  · omega
  exact A2.2 e
 have pl:=uQ br pm;have kn: ∀i,i<k.bi.ba.length->k.bi.ba[i]! = -1\/pF k.bg.au.aa k.bi.ba[i]!:=fun i hi=>by
  rcases pl.ids _ (bE hi) with e|e
  · exact .inl e
  exact .inr e.2
 rw [aK kn,bv,cond_false,K8 _ hl,aB,aF,aF,bP (by rw [<- pm.length_eq,uO]),cond_false,show zE k.bi ⟨k.bg.au.aa⟩ k.bg.ar=_ from SW ok.fld ok.now64 br pl,aB]
 by_cases hw:k.bi.be=aY k.bg.au.aa k.bg.ar k.bi.ba
 case neg=>rw [dec_f hw,if_neg (fun h=>hw h.right)];rfl
 obtain ⟨eok,nd,el⟩:=mS ok.fld ok.now64 (t:=k.bg.ar) pl;rw [aK hw,bv,cond_false,show CE k.bi=_ from GD br.len b2,aB];rw [hw];rw [aOA ok _ eok.kn,aB]
 by_cases hc:(k.bg.ax.aq.map fun x=>x.2).Perm (dR k.bi.ba (aY k.bg.au.aa k.bg.ar k.bi.ba))
 · rw [aK (show _/\_ from ⟨by rw [<- hc.length_eq,bw],fun i hi=>⟨tD.2 (hc.mem_iff.2 (bE hi)),NK ok.fld pl (bE hi)⟩⟩),if_pos ⟨ok,br,pw,pm,hw,by rw [hw];exact hc⟩];rfl
 rw [dec_f (fun h=>hc ?_),if_neg (fun h=>hc (by have:=h.cert;rw [hw] at this;exact this))]
 · rfl
 have cl:(k.bg.ax.aq.map fun x=>x.2).length=k.bg.ax.aq.length:=bw ..
 refine (zI nd (fun x hx=>?_) (by omega)).symm
 obtain ⟨i,hi,rfl⟩:=aU.1 hx;exact tD.1 (h.2 i hi).1
noncomputable def rkN (f:List Pt) (t:Int×Int) (k:Nat):Nat->Nat
 |0=>0
 |j+1=>rkN f t k j+(if j≠k/\ahP f t j k then 1 else 0)
theorem aBT (f:List Pt) (t:Int×Int) (k:Nat): ∀j,rkN f t k j<=j/\(k<j->rkN f t k j+1<=j)
 |0=>⟨bq _,fun h=>by omega⟩
 |j+1=>by
  obtain ⟨h1,h2⟩:=aBT f t k j;rw [rkN]
  by_cases c:j≠k/\ahP f t j k
  · rw [if_pos c]
    exact ⟨by omega,fun h=>by have:=h2 (by omega);omega⟩
  rw [if_neg c]
  exact ⟨by omega,fun h=>by omega⟩
theorem W0 {f:List Pt} (h:fY f) {t:Int×Int} {i:Nat} (tp:HZ (ahP f t) 0 f.length i): ∀j,j<=f.length->rkN f t i j=0
 |0,_=>rfl
 |j+1,hj=>by
  have hi:=tp.hi;rw [rkN,W0 h tp j (by omega),if_neg (fun w=>(aDl h t).asy j i (by omega) hi w.2 (tp.top j (ci _) (by omega) w.1))]
theorem UI {f:List Pt} {t:Int×Int} {i k:Nat} (tp:HZ (ahP f t) 0 f.length i) (hk:k<f.length) (hne:k≠i): ∀j,i<j->1<=rkN f t k j
 |0,h=>by omega
 |j+1,h=>by
  rw [rkN]
  by_cases q:i=j
  · rw [if_pos ⟨by omega,by rw [<- q];exact tp.top k (ci _) hk hne⟩];omega
  have:=UI tp hk hne j (by omega);omega
theorem aEz {f:List Pt} (fok:bZ f) {t:Int×Int} (r64:nD t) {k:Nat} (hk:k<f.length):DT ⟨f⟩ f[k]! t=some (rkN f t k f.length:Int):=by
 have f1:=fok.1;have key:=dX (body:=nW) (fun j=>((rkN f t k j:Int),(j:Int),f,(f[k]!).1,(f[k]!).2.1,(f[k]!).2.2,t)) f.length (fun j hj=>by
  have g:=aE f j hj;have le:=(aBT f t k j).1;have ld:=KR (fok.2.1 _ (bE hj)) (fok.2.1 _ (bE hk)) r64;have peta:((f[k]!).1,(f[k]!).2.1,(f[k]!).2.2)=f[k]!:=rfl;unfold nW;rw [rkN]
  by_cases q:j=k
  · subst q
    simp only [aF,aK (show (j:Int)<(f.length:Int) by omega),cond_true,g,aB,bP rfl,cond_false,aV (show j<1000000000 by omega),if_neg (show¬(j≠j/\ahP f t j j) from fun w=>w.1 rfl),ei]
  have ne:(f[j]!).1≠(f[k]!).1:=fun h=>q (qZ fok.2.2 hj hk h)
  by_cases c:ahP f t j k
  · rw [show decide (cR f[j]! f[k]! t)=true from aK c] at ld
    simp only [aF,aK (show (j:Int)<(f.length:Int) by omega),cond_true,g,aB,dM ne,peta,ld,aV (show j<1000000000 by omega),aV (show rkN f t k j<1000000000 by omega),if_pos (show j≠k/\ahP f t j k from ⟨q,c⟩)]
  rw [show decide (cR f[j]! f[k]! t)=false from dec_f c] at ld
  simp only [aF,aK (show (j:Int)<(f.length:Int) by omega),cond_true,g,aB,dM ne,peta,ld,cond_false,aV (show j<1000000000 by omega),if_neg (show¬(j≠k/\ahP f t j k) from fun w=>c w.2),ei])
 unfold DT;rw [show aH nW (0,0,f,(f[k]!).1,(f[k]!).2.1,(f[k]!).2.2,t)=_ from key];refine aL ?_;unfold nW;simp only [aF,dec_f (show¬(f.length:Int)<(f.length:Int) by omega),cond_false]
noncomputable def W3 (f:List Pt) (t:Int×Int):Nat->List Int
 |0=>bn f.length 0
 |i+1=>(W3 f t i).set (rkN f t i f.length) (f[i]!).1
theorem K9 (f:List Pt) (t:Int×Int): ∀i,(W3 f t i).length=f.length
 |0=>bu ..
 |i+1=>by rw [W3,cb,K9 f t i]
theorem R4 {f:List Pt} (h:fY f) {t:Int×Int} {i:Nat} (tp:HZ (ahP f t) 0 f.length i): ∀j,j<=f.length->i<j->(W3 f t j)[0]! =(f[i]!).1
 |0,_,hi=>by omega
 |j+1,hj,hi=>by
  have hn:=tp.hi;rw [W3,bD]
  by_cases q:j=i
  · subst q
    rw [if_pos ⟨by rw [W0 h tp _ (bq _)],by rw [W0 h tp _ (bq _),K9];omega⟩]
  have:=UI tp (show j<f.length by omega) q f.length hn
  rw [if_neg (fun w=>by omega)]
  exact R4 h tp j (by omega) (by omega)
theorem aBU {f:List Pt} (fok:bZ f) {t:Int×Int} (r64:nD t):vJ ⟨f⟩ t=some (W3 f t f.length):=by
 have f1:=fok.1;have mk:rJ (f.length:Int) (0:Int)=some (bn f.length 0):=by
  unfold rJ;rw [if_pos ⟨by omega,by omega⟩,dv]
 have key:=dX (body:=mN) (fun i=>((i:Int),f,t.1,t.2,W3 f t i)) f.length (fun i hi=>by
  have g:=aE f i hi;have le:=(aBT f t i f.length).2 hi;have go:=aE (W3 f t i) (rkN f t i f.length) (by rw [K9];omega)
  unfold mN;simp only [aF,aK (show (i:Int)<(f.length:Int) by omega),cond_true,g,aB,show ((t.1,t.2):Int×Int)=t from rfl,aEz fok r64 hi,go,qH,aV (show i<1000000000 by omega)]
  rfl)
 unfold vJ;simp only [aF,beq_self_eq_true,cond_true,mk,aB];rw [show aH mN (0,f,t.1,t.2,bn f.length 0)=_ from key];refine aL ?_;unfold mN;simp only [aF,dec_f (show¬(f.length:Int)<(f.length:Int) by omega),cond_false]
theorem aBV (j:Nat):jQ 0 j:=by
 have key: ∀(n m:Nat),m<=n->1<=m-> ∃d,m / 2^d=1:=by
  intro n
  induction n with
  |zero=>intro m h1 h2;omega
  |succ n ih=>
   intro m h1 h2
   by_cases h:m=1
   · exact ⟨0,by rw [h]⟩
   obtain ⟨d,hd⟩:=ih (m / 2) (by omega) (by omega)
   refine ⟨d+1,?_⟩;rw [dd,ej,<- c7];exact hd
 obtain ⟨d,hd⟩:=key (j+1) (j+1) (bq _) (by omega)
 exact ⟨d,by omega⟩
theorem aAr {i j:Nat} (h:jQ i j) (hne:j≠i):jQ (2*i+1) j\/jQ (2*i+2) j:=by
 obtain ⟨d,hd⟩:=h;cases d with
 |zero=>rw [ek,Nat.div_one] at hd;omega
 |succ d=>
  rw [dd,<- c7] at hd
  by_cases e:(j+1) / 2^d=2*(i+1)
  · exact .inl ⟨d,by omega⟩
  exact .inr ⟨d,by omega⟩
theorem aG3 {i j:Nat} (h:jQ i j) (hne:j≠i):2*i+1<=j:=by
 obtain ⟨d,hd⟩:=h;cases d with
 |zero=>rw [ek,Nat.div_one] at hd;omega
 |succ d=>
  rw [dd,ej,<- c7] at hd
  have:=Nat.div_le_self ((j+1) / 2) (2^d)
  omega
section
variable {f : List Pt} (fok : bZ f) {t : Int × Int} {p w : List Int} (pl : zL f p) (R : RH f t p w)
include fok pl R
theorem R5 {i:Nat} (hi:i<w.length+p.length):SQ f (bI p w i):=by
 have _:=fok;exact pl.ids _ (iS R.1 R.chosen hi)
theorem aG4: ∀(d i:Nat),w.length+p.length-i<=d->i<w.length+p.length-> ∀j,w.length<=j->j<w.length+p.length->jQ i j->0<=p[j-w.length]!->
 0<=bI p w i/\(bI p w i=p[j-w.length]!\/cR (fU f (bI p w i)) (fU f p[j-w.length]!) t):=by
 have hl:=R.1;intro d
 induction d with
 |zero=>intro i h1 h2;omega
 |succ d ih=>
  intro i h1 h2 j j1 j2 hu h0
  by_cases hi:i<w.length
  · have hne:j≠i:=by omega
    have wv:bI p w i=D5 f t (bI p w (2*i+1)) (bI p w (2*i+2)):=by
     rw [<- R.2 i hi];unfold bI;rw [if_pos hi]
    have ix:=R5 fok pl R (i:=2*i+1) (by omega)
    have iy:=R5 fok pl R (i:=2*i+2) (by omega)
    have kn:=K4 hl R.chosen pl.once hi;rw [wv];unfold D5;rcases aAr hu hne with hu|hu
    · obtain ⟨a,b⟩:=ih (2*i+1) (by omega) (by omega) j j1 j2 hu h0
      rw [if_neg (by omega)]
      by_cases y0:bI p w (2*i+2)<0
      · rw [if_pos y0];exact ⟨a,b⟩
      rw [if_neg y0]
      by_cases ld:cR (fU f (bI p w (2*i+1))) (fU f (bI p w (2*i+2))) t
      · rw [if_pos ld];exact ⟨a,b⟩
      rw [if_neg ld]
      have l2:=pH t (by rw [(dG fok (ix.has a)).2,(dG fok (iy.has (by omega))).2];exact kn a) ld
      refine ⟨by omega,.inr ?_⟩
      rcases b with b|b
      · rw [<- b];exact l2
      exact wT l2 b
    obtain ⟨a,b⟩:=ih (2*i+2) (by omega) (by omega) j j1 j2 hu h0
    by_cases x0:bI p w (2*i+1)<0
    · rw [if_pos x0];exact ⟨a,b⟩
    rw [if_neg x0,if_neg (by omega)]
    by_cases ld:cR (fU f (bI p w (2*i+1))) (fU f (bI p w (2*i+2))) t
    · rw [if_pos ld]
      refine ⟨by omega,.inr ?_⟩
      rcases b with b|b
      · rw [<- b];exact ld
      exact wT ld b
    rw [if_neg ld];exact ⟨a,b⟩
  have e:j=i:=ce fun h=>by have:=aG3 hu h;omega
  subst e
  have:bI p w j=p[j-w.length]!:=by unfold bI;rw [if_neg hi]
  rw [this];exact ⟨h0,.inl rfl⟩
theorem aG5 (pm:(nE f).Perm (iC p)) (hf:0<f.length): ∃i,HZ (ahP f t) 0 f.length i/\(f[i]!).1=bI p w 0/\0<=bI p w 0:=by
 have hl:=R.1;have h1:=pl.one;have all: ∀k,k<f.length->0<=bI p w 0/\(bI p w 0=(f[k]!).1\/cR (fU f (bI p w 0)) f[k]! t):=fun k hk=>by
  have m:(f[k]!).1∈iC p:=pm.mem_iff.1 (A2.2 ⟨k,hk,rfl⟩);obtain ⟨m1,m2⟩:=uP.1 m;obtain ⟨j,hj,e⟩:=aU.1 m1
  have:=aG4 fok pl R _ 0 (bq _) (by omega) (w.length+j) (by omega) (by omega) (aBV _) (by rw [show w.length+j-w.length=j by omega,e];exact m2)
  rw [show w.length+j-w.length=j by omega,e,xZ fok.2.2 hk rfl] at this
  exact this
 have r0:=(all 0 hf).1;obtain ⟨i,hi,e⟩:=(R5 fok pl R (i:=0) (by omega)).has r0
 refine ⟨i,⟨ci _,hi,fun k _ hk hne=>?_⟩,e,r0⟩
 rcases (all k hk).2 with h|h
 · exact absurd (qZ fok.2.2 hi hk (by rw [e,h])) (fun h=>hne h.symm)
 rw [<- e,xZ fok.2.2 hi rfl] at h;exact h
end
structure zN (k:bX):Prop where
 c:aAg k.bg
 p:k.bi.ba.length<=1000
 w:k.bi.be.length<=1000
theorem IB:zN A3:=⟨SP,ci _,ci _⟩
theorem aBW {k:bX} (h:zN k):I4 k=some k:=by
 have h1:=h.p;have h2:=h.w;unfold I4 QH;rw [aBK h.c,aB,aZ (by omega),aB,aZ (by omega),aB,aB]
theorem aVr.short {c:aO} {f:List Pt} {p:List Int} {k:bX} (pl:zL f p) (h:aVr c f p k):zN k:=by
 have R:=dQ (f:=f) (t:=c.ar) pl.one;have b2:=pl.most;have b3:=R.1;refine ⟨h.ren.ok.short,by rw [h.ba];show p.length<=1000;omega,by rw [h.ba];show (aY f c.ar p).length<=1000;omega⟩
theorem xF.fit (k:bX) (n:aEs k.bg) (sh:zN k):wQ k.bg:=⟨n.ar,⟨sh.c.s3,sh.c.h,sh.c.w,n.at64⟩,sh.c.d⟩
theorem LA {k:bX} (ok:xF k) (sh:zN k) (c1:gU k=some 0) (c2:iO k=some 0): ∃b:Int×Int,oB k=some b/\KO k=some b/\(b=(0,42)/\k.bg.au.aa.length=0\/ ∃i,HZ (ahP k.bg.au.aa k.bg.ar) 0 k.bg.au.aa.length i/\b=((k.bg.au.aa[i]!).1,0)):=by
 have fok:=ok.clk.fld;have f1:=fok.1;have s1:=sh.p;have s2:=sh.w;have b1:=ok.br.one;have b2:=ok.br.most;have b3:=ok.br.len;have pl:=uQ ok.br ok.perm;have R:RH k.bg.au.aa k.bg.ar k.bi.ba k.bi.be:=by rw [ok.right];exact dQ pl.one
 have bc:lL k.bi=some 0:=by
  have:=CO k.bi.ba k.bi.be s1 s2
  rw [if_pos ok.br] at this;exact this
 have nd:gQ k.bi 0=some (bI k.bi.ba k.bi.be 0):=nX (p:=k.bi.ba) (w:=k.bi.be) (i:=0) (by omega) (by omega)
 unfold oB KO zA;rw [c1,c2,aB,aB,bP rfl,cond_false,cond_false,aF,bc,aB,bP rfl,cond_false,nd,aB]
 by_cases h0:k.bg.au.aa.length=0
 · refine ⟨(0,42),?_,?_,.inl ⟨rfl,h0⟩⟩
   · rw [dec_f (fun h=>?_)]
     · rfl
     have m:=iS R.1 R.chosen (i:=0) (by omega)
     have:=ok.perm.mem_iff.2 (uP.2 ⟨m,h⟩)
     obtain ⟨i,hi,_⟩:=A2.1 this;omega
   rw [dW (by omega),cond_true]
 obtain ⟨i,tp,e,r0⟩:=aG5 fok pl R ok.perm (by omega)
 have hi:=tp.hi;refine ⟨((k.bg.au.aa[i]!).1,0),?_,?_,.inr ⟨i,tp,rfl⟩⟩
 · rw [aK r0,cond_true,e];rfl
 have g:=aE (W3 k.bg.au.aa k.bg.ar k.bg.au.aa.length) 0 (by rw [K9];omega)
 rw [show ((0:Nat):Int)=0 from rfl,R4 fok.2.2 tp _ (bq _) hi] at g;rw [eT (by omega),cond_false,show vJ k.bg.au k.bg.ar=_ from aBU fok ok.clk.now64,aB,g,aB]
theorem aEA {c:aO} (ok:aR c) {to:Int×Int} (rt:bK to) (az: ¬NW c to) {y:wO} (hy:y∈c.ax.aq) (is:(bL c.au.aa y.2 c.ar).2=true):
 to.1*(bL c.au.aa y.2 c.ar).1.2<(bL c.au.aa y.2 c.ar).1.1*to.2:=by
 obtain ⟨d,hd,_,ev⟩:=ok.fol.has _ hy is;obtain ⟨v,hv,he⟩:=aU.1 ev;have tl:=MO ok.agd v hv;have h0:0<c.ay.aj.length:=by omega
 have e0:=(ok.agd.ev 0 h0).1.1;have ev':=(ok.agd.ev v hv).1.1;rw [he] at tl ev';have n1: ¬iH (bL c.au.aa y.2 c.ar).1 (Ev.at c.ay.aj[0]!)<0:=fun q=>tl (.inl q)
 rw [tB] at n1;have n2: ¬iH (Ev.at c.ay.aj[0]!) to<=0:=fun q=>az ⟨h0,q⟩
 have n3:to.1*(Ev.at c.ay.aj[0]!).2<(Ev.at c.ay.aj[0]!).1*to.2:=by
  unfold iH at n2;rcases eF ((Ev.at c.ay.aj[0]!).1*to.2) (to.1*(Ev.at c.ay.aj[0]!).2) with ⟨a,b⟩|⟨a,b⟩|⟨a,b⟩<;>omega
 exact BK rt.1 e0 ev' n3 (d9.1 n1)
theorem aG6 {c:aO} (ok:aR c) {to:Int×Int} (rt:bK to) (r64:nD to) (le: ¬iH to c.ar<0) (az: ¬NW c to):aR (atT c to):=by
 have pt:=fun (x:Int×Int) (hb:kE c.au.aa x)=>And.intro (dG ok.fld hb.2).1 (dG ok.fld hb.1).1
 refine ⟨rt,r64,ok.fld,ok.crt,ok.agd,ok.w200,ok.hd,ok.known,?_⟩;refine aX.time (t:=c.ar) (fun y hy=>?_) ok.fol
 obtain ⟨j,hj,rfl⟩:=aU.1 hy;have hb:=ok.known j hj;refine RF (pt _ hb).1 (pt _ hb).2 ok.nowv rt (by rw [tB] at le;exact d9.1 le) (fun is=>?_)
 exact Int.le_of_lt (aEA ok rt az hy is)
structure aXT (c:aO) (l:List Int):Prop where
 ok:aR c
 pm:(nE c.au.aa).Perm l
 ct:(c.ax.aq.map fun x=>x.2).Perm (F9 l)
theorem aXT.bd {c:aO} {l:List Int} (h:aXT c l):l.length<=64:=by
 have:=h.ok.bd
 have:l.length=c.au.aa.length:=by rw [<- h.pm.length_eq];exact bw ..
 omega
theorem R6 {c:aO} (ok:aR c) {lo hi:Int} (hb:kE c.au.aa (lo,hi)) (h:wP c.ax.aq (lo,hi)) {to:Int×Int} (rt:bK to) (le: ¬iH to c.ar<0) (az: ¬NW c to):
 ¬cR (fU c.au.aa lo) (fU c.au.aa hi) to:=by
 obtain ⟨w,w1,w2⟩:=h;have hk':=(dG ok.fld hb.2).1;have hj':=(dG ok.fld hb.1).1;have wn:bL c.au.aa (c.ax.aq[w]!).2 c.ar=lS (fU c.au.aa hi) (fU c.au.aa lo) c.ar:=by
  unfold bL;rw [w2]
 refine aOF hk' hj' ok.nowv rt (by rw [tB] at le;omega) fun is=>?_
 rw [<- wn] at is;obtain ⟨d,hd,_,ev⟩:=ok.fol.has _ (bE w1) is;obtain ⟨v,hv,he⟩:=aU.1 ev;have tl:=MO ok.agd v hv;have h0:0<c.ay.aj.length:=by omega
 have e0:=(ok.agd.ev 0 h0).1.1;have ev':=(ok.agd.ev v hv).1.1;rw [he] at tl ev';rw [<- wn];have n1: ¬iH (bL c.au.aa (c.ax.aq[w]!).2 c.ar).1 (Ev.at c.ay.aj[0]!)<0:=fun q=>tl (.inl q)
 rw [tB] at n1;have n2: ¬iH (Ev.at c.ay.aj[0]!) to<=0:=fun q=>az ⟨h0,q⟩
 have n3:to.1*(Ev.at c.ay.aj[0]!).2<(Ev.at c.ay.aj[0]!).1*to.2:=by
  unfold iH at n2;rcases eF ((Ev.at c.ay.aj[0]!).1*to.2) (to.1*(Ev.at c.ay.aj[0]!).2) with ⟨a,b⟩|⟨a,b⟩|⟨a,b⟩<;>omega
 exact BK rt.1 e0 ev' n3 (d9.1 n1)
theorem BT {c:aO} (ok:aR c) {p:List Int} (pl:zL c.au.aa p) (ct: ∀e∈dR p (aY c.au.aa c.ar p),wP c.ax.aq e) {to:Int×Int} (rt:bK to) (le: ¬iH to c.ar<0) (az: ¬NW c to):
 aY c.au.aa to p=aY c.au.aa c.ar p:=by
 have R:=dQ (f:=c.au.aa) (t:=c.ar) pl.one;have R1:=R.1;refine UD (dQ pl.one) ⟨R.1,fun i hi=>?_⟩
 have wv:=R.2 i hi;have ne:=K4 R.1 R.chosen pl.once hi;have ix:=pl.ids _ (iS R.1 R.chosen (i:=2*i+1) (by omega))
 have iy:=pl.ids _ (iS R.1 R.chosen (i:=2*i+2) (by omega))
 have mem: ∀e,ET p (aY c.au.aa c.ar p) i=some e->wP c.ax.aq e:=fun e h=>ct e (JC.2 ⟨i,hi,h⟩)
 unfold ET at mem;rw [wv];rw [wv] at mem;generalize bI p (aY c.au.aa c.ar p) (2*i+1)=x at*;generalize bI p (aY c.au.aa c.ar p) (2*i+2)=y at*;unfold D5 at*
 by_cases x0:x<0
 · rw [if_pos x0,if_pos x0]
 rw [if_neg x0,if_neg x0]
 by_cases y0:y<0
 · rw [if_pos y0,if_pos y0]
 rw [if_neg y0,if_neg y0];rw [if_neg x0,if_neg y0,if_neg (show¬(x<0\/y<0) by omega)] at mem
 have hx:=ix.has (by omega)
 have hy:=iy.has (by omega)
 have nxy:=ne (by omega)
 by_cases ld:cR (fU c.au.aa x) (fU c.au.aa y) c.ar
 · rw [if_pos ld]
   rw [if_pos ld,if_pos rfl] at mem;have st:=R6 ok (lo:=y) (hi:=x) ⟨hy,hx⟩ (mem _ rfl) rt le az;rw [if_pos (pH to (by rw [(dG ok.fld hx).2,(dG ok.fld hy).2];exact fun h=>nxy h.symm) st)]
 rw [if_neg ld]
 rw [if_neg ld,if_neg (fun h=>nxy h.symm)] at mem
 have st:=R6 ok (lo:=x) (hi:=y) ⟨hx,hy⟩ (mem _ rfl) rt le az;rw [if_neg st]
def tP (c:aO) (p w:List Int) (to:Int×Int) (out:List (Int×Int)):=
 (c.ar.1,c.ar.2,c.au.aa,c.ax.ao,c.ax.aq,c.ay.ai.ac,c.ay.ai.ae,c.ay.ai.af,c.ay.aj,c.ay.am,c.az,p,w,to.1,to.2,(0:Int),(0:Int),(0:Int),out)
def tR (c:aO) (p w:List Int) (to:Int×Int) (out:List (Int×Int)):=
 (to.1,to.2,(0:Int),(0:Int),(0:Int),c.ar.1,c.ar.2,c.au.aa,c.ax.ao,c.ax.aq,c.ay.ai.ac,c.ay.ai.ae,c.ay.ai.af,c.ay.aj,c.ay.am,c.az,p,w,out)
structure MT (r:bX×List (Int×Int)×Int):Prop where
 h:zN r.1
 l:r.2.1.length<=1048576
structure aOJ (f:List Pt) (p:List Int) (to:Int×Int) (k:bX):Prop where
 clk:aR k.bg
 fld:k.bg.au.aa=f
 ar:k.bg.ar=to
 br:k.bi=⟨p,aY f to p⟩
 cert:(k.bg.ax.aq.map fun x=>x.2).Perm (dR p (aY f to p))
 az: ¬NW k.bg to
def aOK (f:List Pt) (p:List Int) (to:Int×Int) (r:bX×List (Int×Int)×Int):Prop:=r.2.2=18\/(r.2.2=0/\aOJ f p to r.1)
theorem R7 {to:Int×Int} (rt:bK to) (r64:nD to) {p:List Int} (d:Int)
 (ih: ∀(c:aO) (out:List (Int×Int)),1000000-pY c<d->aR c->zL c.au.aa p->(c.ax.aq.map fun x=>x.2).Perm (dR p (aY c.au.aa c.ar p))-> ¬iH to c.ar<0->(out.length:Int)<=pY c+200->
  ∃R:bX×List (Int×Int)×Int,aH cQ (tP c p (aY c.au.aa c.ar p) to out)=some R/\aH iF (tR c p (aY c.au.aa c.ar p) to out)=some R/\MT R/\aOK c.au.aa p to R)
 (c:aO) (out:List (Int×Int)) (hd:1000000-pY c<=d) (ok:aR c) (pl:zL c.au.aa p) (cp:(c.ax.aq.map fun x=>x.2).Perm (dR p (aY c.au.aa c.ar p))) (le: ¬iH to c.ar<0) (ho:(out.length:Int)<=pY c+200):
 ∃R:bX×List (Int×Int)×Int,aH cQ (tP c p (aY c.au.aa c.ar p) to out)=some R/\aH iF (tR c p (aY c.au.aa c.ar p) to out)=some R/\MT R/\aOK c.au.aa p to R:=by
 have bd:=ok.bd;have rb:=WW ok;have B:=dQ (f:=c.au.aa) (t:=c.ar) pl.one;have B1:=B.1;have pm:=pl.most;have ceta:(aO.mk (c.ar.1,c.ar.2) (Field.mk c.au.aa) (bM.mk c.ax.ao c.ax.aq) (aP.mk (bA.mk c.ay.ai.ac c.ay.ai.ae c.ay.ai.af) c.ay.aj c.ay.am) c.az)=c:=rfl;have teta:((to.1,to.2):Int×Int)=to:=rfl
 have ct: ∀e∈dR p (aY c.au.aa c.ar p),wP c.ax.aq e:=fun e he=>tD.2 (cp.mem_iff.2 he)
 by_cases az:NW c to
 · obtain ⟨x,c1,e1,e2,ok1,hf,_,hr,hn⟩:=aGZ ok rt r64 le az
   obtain ⟨R,s1,s2,s3⟩:=JD ok1 ok1.fld (p:=p) (by rw [hf];exact pl)
   have s1:gT c1 c1.au p=some R:=s1;have s2:gK c1 c1.au p=some R:=s2;have ol:bV out [x]=some (out++[x]):=eU (by rw [bo];omega)
   rcases s3 with ⟨q0,qs⟩|he
   · have st1:cQ (tP c p (aY c.au.aa c.ar p) to out)=some (.next (tP R.1.bg R.1.bi.ba R.1.bi.be to (out++[x]))):=by
      unfold cQ tP;simp only [ceta,teta,e1,aB,s1,q0,show ((0:Int) !=0)=false from rfl,cond_false,ol]
     have st2:iF (tR c p (aY c.au.aa c.ar p) to out)=some (.next (tR R.1.bg R.1.bi.ba R.1.bi.be to (out++[x]))):=by
      unfold iF tR;simp only [ceta,teta,RY ok r64,aK az,aB,cond_true,e2,s2,q0,show ((0:Int) !=0)=false from rfl,cond_false,ol]
     have rr:=qs.ren.room;rw [aW st1,aW st2,qs.ba];have e3:aY c1.au.aa c1.ar p=aY R.1.bg.au.aa R.1.bg.ar p:=by rw [qs.ren.fld,qs.ren.ar]
     dsimp only;rw [e3];have e4:R.1.bg.au.aa=c.au.aa:=by rw [qs.ren.fld,hf]
     have nd:=(mS qs.ren.ok.fld qs.ren.ok.now64 (t:=R.1.bg.ar) (p:=p) (by rw [e4];exact pl)).2.1
     have cp2:(R.1.bg.ax.aq.map fun x=>x.2).Perm (dR p (aY R.1.bg.au.aa R.1.bg.ar p)):=by
      refine (dc (wR qs.ren.ok.crt) nd).2 fun e=>⟨fun h=>?_,fun h=>?_⟩
      · obtain ⟨x,hx,rfl⟩:=cz.1 h
        rw [<- e3];exact qs.ren.sub x hx
      rw [<- e3] at h
      exact tD.1 (qs.ren.has e h)
     rw [<- e4];refine ih R.1.bg _ (by omega) qs.ren.ok (by rw [e4];exact pl) cp2 (fun h=>?_) (by rw [cu,bo];omega)
     have h2:=az.2;rw [qs.ren.ar,hn,tB] at h
     have: ¬0<iH (Ev.at c.ay.aj[0]!) to:=by omega
     unfold iH at this;rcases eF ((Ev.at c.ay.aj[0]!).1*to.2) (to.1*(Ev.at c.ay.aj[0]!).2) with ⟨a,b⟩|⟨a,b⟩|⟨a,b⟩<;>omega
   refine ⟨(A3,[],18),aL ?_,aL ?_,⟨IB,by decide⟩,.inl rfl⟩
   · unfold cQ tP
     simp only [ceta,teta,e1,aB,s1,he,show ((0:Int) !=0)=false from rfl,show ((18:Int) !=0)=true from rfl,cond_false,cond_true];rfl
   unfold iF tR
   simp only [ceta,teta,RY ok r64,aK az,aB,cond_true,e2,s2,he,show ((18:Int) !=0)=true from rfl];rfl
 have h1:iL c.au to p=_:=pI ok.fld rt r64 pl
 rw [BT ok pl ct rt le az] at h1;have sh:zN ⟨c,⟨p,aY c.au.aa c.ar p⟩⟩:=⟨ok.short,by show p.length<=1000;omega,by show (aY c.au.aa c.ar p).length<=1000;omega⟩
 have tw:=aBW sh;refine ⟨(⟨atT c to,⟨p,aY c.au.aa c.ar p⟩⟩,out,0),aL ?_,aL ?_,⟨⟨?_,sh.p,sh.w⟩,by show out.length<=1048576;omega⟩,.inr ⟨rfl,aG6 ok rt r64 le az,rfl,rfl,?_,?_,az⟩⟩
 · unfold cQ tP
   simp only [ceta,teta,aAl ok rt r64 le az,aB,show ((6:Int) !=0)=true from rfl,cond_true,aDn ok rt r64 le az];rw [show iL (atT c to).au to p=_ from h1,aB]
 · unfold iF tR
   simp only [ceta,teta,RY ok r64,dec_f az,aB,cond_false,tw,aG0 ok]
 · have:=ok.short
   exact ⟨this.f,this.l,this.d,this.h,this.w,this.s1,this.s2,this.s3⟩
 · rw [BT ok pl ct rt le az]
 rw [BT ok pl ct rt le az];exact cp
theorem aG7 {to:Int×Int} (rt:bK to) (r64:nD to) {p:List Int}: ∀(d:Nat) (c:aO) (out:List (Int×Int)),1000000-pY c<=(d:Int)->aR c->zL c.au.aa p->(c.ax.aq.map fun x=>x.2).Perm (dR p (aY c.au.aa c.ar p))-> ¬iH to c.ar<0->(out.length:Int)<=pY c+200->
 ∃R:bX×List (Int×Int)×Int,aH cQ (tP c p (aY c.au.aa c.ar p) to out)=some R/\aH iF (tR c p (aY c.au.aa c.ar p) to out)=some R/\MT R/\aOK c.au.aa p to R:=by
 intro d
 induction d with
 |zero=>exact fun c out hd ok pl cp le ho=>R7 rt r64 0 (fun c _ h ok _ _ _ _=>by have:=(WW ok).2;omega) c out hd ok pl cp le ho
 |succ d ih=>exact fun c out hd ok pl cp le ho=>R7 rt r64 ((d+1:Nat):Int) (fun c out h=>ih c out (by omega)) c out hd ok pl cp le ho
theorem JF {k:bX} (n:aEs k.bg) (sh:zN k) {to:Int×Int} (r64:nD to):
 ∃R:bX×List (Int×Int)×Int,fH k to=some R/\qG k to=some R/\MT R/\(xF k->bK to-> ¬iH to k.bg.ar<0->aOK k.bg.au.aa k.bi.ba to R):=by
 have fit:=xF.fit k n sh;have bad: ∀e:Int,MT (A3,[],e):=fun e=>⟨IB,ci _⟩
 have c1:=qS fit sh.p sh.w;have c2:=GE fit sh.p sh.w
 by_cases ok:xF k
 case neg=>
  rw [if_neg ok] at c1 c2;refine ⟨(A3,[],8),?_,?_,bad 8,fun h=>absurd h ok⟩
  · unfold fH;rw [c1];rfl
  unfold qG;rw [c2];rfl
 rw [if_pos ok] at c1 c2
 by_cases rt:bK to
 case neg=>
  have u:nB k.bg to=some 8:=by
   unfold nB;rw [iQ r64,if_neg rt];rfl
  refine ⟨(A3,[],8),?_,?_,bad 8,fun _ h=>absurd h rt⟩
  · unfold fH
    rw [c1,aB,bP rfl,cond_false,dF r64,if_neg rt];rfl
  unfold qG
  rw [c2,aB,bP rfl,cond_false,u];rfl
 by_cases le:iH to k.bg.ar<0
 · have u:nB k.bg to=some 44:=by
    unfold nB;rw [iQ r64,if_pos rt,aB,bP rfl,cond_false,uH r64 n.ar,aB,aK le];rfl
   refine ⟨(A3,[],44),?_,?_,bad 44,fun _ _ h=>absurd le h⟩
   · unfold fH
     rw [c1,aB,bP rfl,cond_false,dF r64,if_pos rt,aB,bP rfl,cond_false,I5 r64 n.ar,if_pos ⟨rt,ok.clk.nowv⟩,aB,aK le];rfl
   unfold qG
   rw [c2,aB,bP rfl,cond_false,u];rfl
 have u:nB k.bg to=some 0:=by
  unfold nB;rw [iQ r64,if_pos rt,aB,bP rfl,cond_false,uH r64 n.ar,aB,dec_f le];rfl
 have rb:=WW ok.clk;have pl:=uQ ok.br ok.perm;obtain ⟨R,r1,r2,r3,r4⟩:=aG7 rt r64 (p:=k.bi.ba) (1000000-pY k.bg).toNat k.bg [] (by omega) ok.clk pl (by rw [<- ok.right];exact ok.cert) le (by simp;omega)
 rw [<- ok.right] at r1 r2;refine ⟨R,?_,?_,r3,fun _ _ _=>r4⟩
 · unfold fH
   rw [c1,aB,bP rfl,cond_false,dF r64,if_pos rt,aB,bP rfl,cond_false,I5 r64 n.ar,if_pos ⟨rt,ok.clk.nowv⟩,aB,dec_f le];exact r1
 unfold qG
 rw [c2,aB,bP rfl,cond_false,u,aB,bP rfl,cond_false];unfold QI;show (aH iF (tR k.bg k.bi.ba k.bi.be to [])).bind _=_;rw [r2,aB]
structure SOA {α:Type} (P:α->α->Prop) (S:α->Prop):Prop where
 irr: ∀a,S a-> ¬P a a
 tr: ∀a b c,S a->S b->S c->P a b->P b c->P a c
 ntr: ∀a b c,S a->S b->S c-> ¬P a b-> ¬P b c-> ¬P a c
theorem SOA.asym {α:Type} {P:α->α->Prop} {S:α->Prop} (o:SOA P S) {a b:α} (ha:S a) (hb:S b) (h:P a b): ¬P b a:=fun k=>o.irr a ha (o.tr a b a ha hb ha h k)
section
variable {α : Type} [Inhabited α] {P : α -> α -> Prop} {S : α -> Prop}
def LB (l:List α) (i j:Nat):List α:=(l.set i l[j]!).set j l[i]!
theorem MU (l:List α) (i j:Nat):(LB l i j).length=l.length:=by
 unfold LB;rw [cb,cb]
theorem D9 (l:List α) {i j:Nat} (hi:i<l.length) (hj:j<l.length) (k:Nat):(LB l i j)[k]! =if k=j then l[i]! else if k=i then l[j]! else l[k]!:=by
 unfold LB;rw [bD,cb,bD]
 by_cases c:k=j
 · rw [if_pos ⟨c,hj⟩,if_pos c]
 rw [if_neg (fun h=>c h.1),if_neg c]
 by_cases d:k=i
 · rw [if_pos ⟨d,hi⟩,if_pos d]
 rw [if_neg (fun h=>d h.1),if_neg d]
theorem JG {l:List α} {i j:Nat} (hi:i<l.length) (hj:j<l.length):(LB l i j).Perm l:=by
 unfold LB;rw [getElem!_pos l j hj,getElem!_pos l i hi];exact List.set_set_perm hi hj
noncomputable def SX (P:α->α->Prop):Nat->List α->List α
 |0,l=>l
 |j+1,l=>if P l[j+1]! l[j]! then SX P j (LB l (j+1) j) else l
theorem UJ (P:α->α->Prop): ∀(j:Nat) (l:List α),j<l.length->(SX P j l).Perm l
 |0,l,_=>di _
 |j+1,l,h=>by
  unfold SX;split
  · exact (UJ P j _ (by rw [MU];omega)).trans (JG h (by omega))
  exact di _
def aBX (P:α->α->Prop) (l:List α) (n:Nat):Prop:= ∀a b,a<b->b<n-> ¬P l[b]! l[a]!
structure aVt (P:α->α->Prop) (l:List α) (i j:Nat):Prop where
 lt:j<=i
 le:i<l.length
 el: ∀a b,a<b->b<=i->a≠j->b≠j-> ¬P l[b]! l[a]!
 up: ∀b,j<b->b<=i-> ¬P l[b]! l[j]!
theorem aG8 (o:SOA P S): ∀(j i:Nat) (l:List α),(∀x∈l,S x)->aVt P l i j->aBX P (SX P j l) (i+1):=by
 intro j
 induction j with
 |zero=>
  intro i l _ v a b h1 h2
  by_cases c:a=0
  · subst c;exact v.up b h1 (by omega)
  exact v.el a b h1 (by omega) c (by omega)
 |succ j ih=>
  intro i l hS v;have hi:=v.le;have hj:=v.lt;have sm: ∀k,k<l.length->S l[k]!:=fun k hk=>hS _ (bE hk)
  have h1:j+1<l.length:=by omega
  have h0:j<l.length:=by omega
  unfold SX;split
  · rename_i hc
    refine ih i _ (fun x hx=>hS x ((JG h1 h0).mem_iff.1 hx)) ⟨by omega,by rw [MU];exact hi,fun a b a1 a2 a3 a4=>?_,fun b b1 b2=>?_⟩
    · rw [D9 l h1 h0,D9 l h1 h0,if_neg a3,if_neg a4]
      by_cases c:a=j+1
      · subst c
        rw [if_pos rfl,if_neg (by omega)]
        exact v.el j b (by omega) a2 (by omega) (by omega)
      rw [if_neg c]
      by_cases d:b=j+1
      · subst d
        rw [if_pos rfl];exact v.el a j (by omega) (by omega) (by omega) (by omega)
      rw [if_neg d]
      exact v.el a b a1 a2 c d
    rw [D9 l h1 h0,D9 l h1 h0,if_pos rfl,if_neg (by omega)]
    by_cases c:b=j+1
    · subst c
      rw [if_pos rfl];exact o.asym (sm _ h1) (sm _ h0) hc
    rw [if_neg c]
    exact v.up b (by omega) b2
  rename_i hc
  intro a b a1 a2
  by_cases c:a=j+1
  · subst c;exact v.up b a1 (by omega)
  by_cases d:b=j+1
  · subst d
    by_cases e:a=j
    · subst e;exact hc
    exact o.ntr _ _ _ (sm _ h1) (sm _ h0) (sm _ (by omega)) hc (v.el a j (by omega) (by omega) c (by omega))
  exact v.el a b a1 (by omega) c d
noncomputable def GF (P:α->α->Prop) (l:List α):Nat->List α
 |0=>l
 |i+1=>SX P i (GF P l i)
theorem zO (P:α->α->Prop) (l:List α): ∀i,i<=l.length->(GF P l i).Perm l
 |0,_=>di _
 |i+1,h=>by
  have p:=zO P l i (by omega)
  exact (UJ P i _ (by rw [p.length_eq];omega)).trans p
theorem R8 (o:SOA P S) {l:List α} (hS: ∀x∈l,S x): ∀i,i<=l.length->aBX P (GF P l i) i
 |0,_=>fun a b _ h=>by omega
 |i+1,h=>by
  have p:=zO P l i (by omega)
  have s:=R8 o hS i (by omega)
  refine aG8 o i i _ (fun x hx=>hS x (p.mem_iff.1 hx)) ⟨bq _,by rw [p.length_eq];omega,fun a b a1 a2 a3 a4=>s a b a1 (by omega),fun b b1 b2=>by omega⟩
end
section
variable {f : List Pt} {t : Int × Int}
abbrev xJ (t:Int×Int) (p q:Pt):Prop:=cR p q t
theorem aG9 {f:List Pt} (hs:fY f) (t:Int×Int):SOA (xJ t) (fun p=>p∈f) where
 irr:=fun a _ h=>rV h h
 tr:=fun _ _ _ _ _ _ h k=>wT h k
 ntr:=fun a b c ha hb hc h1 h2 h=>by
  by_cases e:b.1=c.1
  · have:b=c:=by rw [<- RM hs hb,<- RM hs hc,e]
    exact h1 (this▸h)
  rcases Classical.em (cR b c t) with k|k
  · exact h2 k
  exact h1 (wT h (pH t e k))
theorem aHa (hs:fY f) {l:List Pt} (p:l.Perm f) {i j:Nat} (hi:i<l.length) (hj:j<l.length) (hne:i≠j):(l[i]!).1≠(l[j]!).1:=by
 have nd:(nE l).Nodup:=(p.map fun x:Pt=>x.1).nodup_iff.2 (G8 hs)
 intro e;have b: ∀k,k<l.length->(nE l)[k]! =(l[k]!).1:=fun k hk=>by
  unfold nE;rw [getElem!_pos _ k (by rw [bw];exact hk),dz,getElem!_pos l k hk]
 have ll:(nE l).length=l.length:=bw ..;rcases dy i j with c|c|c
 · exact gW.1 nd i j c (by omega) (by rw [b i hi,b j hj];exact e)
 · exact hne c
 exact gW.1 nd j i c (by omega) (by rw [b i hi,b j hj];exact e.symm)
def i1S (n i j:Nat) (l:List Pt) (t:Int×Int):=((0:Int),(n:Int),(i:Int),(j:Int),l,t.1,t.2)
def i2S (n i:Nat) (l:List Pt) (t:Int×Int):=((0:Int),(n:Int),(i:Int),l,t.1,t.2)
theorem aHb (fok:bZ f) (r:bK t) (r64:nD t) {n:Nat} (hn:n<=64): ∀(j i:Nat) (l:List Pt),l.Perm f->l.length=n->j<=i->i<n->
 aH bB (i1S n i j l t)=some (.next (i2S n (i+1) (SX (xJ t) j l) t)):=by
 intro j
 induction j with
 |zero=>
  intro i l p hl hj hi;refine aL ?_;unfold bB i1S i2S;simp only [dec_f (show¬(0:Int)<((0:Nat):Int) by omega),cond_false,aV (show i<1000000000 by omega),SX]
 |succ j ih=>
  intro i l p hl hj hi;have h1:j+1<l.length:=by omega
  have h0:j<l.length:=by omega
  have m1:=p.mem_iff.1 (bE h1);have m0:=p.mem_iff.1 (bE h0);have ne:=aHa fok.2.2 p h1 h0 (by omega)
  have ah:nI l[j+1]! l[j]! (t.1,t.2)=some (decide (cR l[j+1]! l[j]! t),0):=by
   rcases ES (fok.2.1 _ m1) (fok.2.1 _ m0) r64 r with h|⟨h,_⟩
   · rw [show ((t.1,t.2):Int×Int)=t from rfl,h,if_neg ne]
   exact absurd h ne
  have wp:aA .i64 (((j+1:Nat):Int) -1)=(j:Int):=by rw [oG ⟨by omega,by omega⟩];omega
  have g1:=aE l (j+1) h1;have g0:=aE l j h0;have gs:aN (cM l ((j+1:Nat):Int) l[j]!) (j:Int)=some ((cM l ((j+1:Nat):Int) l[j]!)[j]!):=aE _ j (by rw [B8];exact h0)
  have nb:((l[j+1]!).1==(l[j]!).1)=false:=by simpa using ne
  by_cases c:cR l[j+1]! l[j]! t
  · have s1:bB (i1S n i (j+1) l t)=some (.next (i1S n i j (LB l (j+1) j) t)):=by
     unfold bB i1S;simp only [aK (show (0:Int)<((j+1:Nat):Int) by omega),cond_true,wp,g1,g0,aB,nb,cond_false,ah,aK c,beq_self_eq_true,gs]
     simp only [qH];rfl
    rw [aW s1];have pm:=(JG h1 h0).trans p;rw [ih i (LB l (j+1) j) pm (by rw [MU];exact hl) (by omega) hi]
    conv=>rhs;unfold SX
    rw [if_pos (show xJ t l[j+1]! l[j]! from c)]
  refine aL ?_
  unfold bB i1S;simp only [aK (show (0:Int)<((j+1:Nat):Int) by omega),cond_true,wp,g1,g0,aB,nb,cond_false,ah,dec_f c,beq_self_eq_true,aV (show i<1000000000 by omega)]
  unfold SX;rw [if_neg (show¬xJ t l[j+1]! l[j]! from c)];rfl
theorem aEB (fok:bZ f) (r:bK t) (r64:nD t) {c0:Int×Int×List Pt×Int×Int} (hc:c0.2.2.1.length=f.length): ∀(d i:Nat),f.length-i<=d->i<=f.length->
 aH (bC c0) (i2S f.length i (GF (xJ t) f i) t)=some (GF (xJ t) f f.length,t.1,t.2):=by
 have f1:=fok.1;intro d
 induction d with
 |zero=>
  intro i hd hi
  have:i=f.length:=by omega
  subst this;have le:=(zO (xJ t) f f.length (bq _)).length_eq;refine aL ?_;unfold bC i2S;simp only [dec_f (show¬(f.length:Int)<(f.length:Int) by omega),cond_false,le,hc,beq_self_eq_true,cond_true]
 |succ d ih=>
  intro i hd hi
  by_cases e:i=f.length
  · exact ih i (by omega) hi
  have pm:=zO (xJ t) f i hi
  have s1:bC c0 (i2S f.length i (GF (xJ t) f i) t)=some (.next (i2S f.length (i+1) (GF (xJ t) f (i+1)) t)):=by
   have:=aHb fok r r64 f1 i i _ pm pm.length_eq (bq _) (show i<f.length by omega)
   unfold bC;show (bif decide ((i:Int)<(f.length:Int)) then _ else _)=_
   rw [aK (show (i:Int)<(f.length:Int) by omega),cond_true]
   exact this
  rw [aW s1];exact ih (i+1) (by omega) (by omega)
theorem aHc (s:ByteArray) {n:Nat} (h:n<=12) (hs:12<s.size): ∃r,xI s (n:Int)=some r:=by
 show∃r,(s[n]?.map fun b=>(b.toNat:Int))=some r
 rw [getElem?_pos s n (show n<s.size by omega)]
 exact ⟨_,rfl⟩
set_option maxRecDepth 100000 in
theorem aXV {n:Nat} (h:n<=12): ∃r,vG (n:Int)=some r:=by
 unfold vG xD;rw [dec_f (show¬4294967296<=(n:Int) by omega),cond_false,dec_f (show¬65536<=(n:Int) by omega),cond_false,dec_f (show¬256<=(n:Int) by omega),cond_false]
 have w8:aA .u8 (n:Int)=(n:Int):=by
  have:n=0\/n=1\/n=2\/n=3\/n=4\/n=5\/n=6\/n=7\/n=8\/n=9\/n=10\/n=11\/n=12:=by omega
  rcases this with rfl|rfl|rfl|rfl|rfl|rfl|rfl|rfl|rfl|rfl|rfl|rfl|rfl<;>rfl
 have key: ∀s:ByteArray,12<s.size-> ∃r,((xI s (aA .u8 (n:Int))).bind fun n7=>some (aA .i64 (0+aA .i64 n7))).bind (fun n0=>some n0)=some r:=fun s h12=>by
  obtain ⟨r,e⟩:=aHc s h h12;rw [w8,e];exact ⟨_,rfl⟩
 exact key _ (by decide)
theorem NX (fok:bZ f) (r:bK t) (r64:nD t) (h12:f.length<=12): ∃L:List Pt,xW ⟨f⟩ t=some (L,0)/\L.Perm f/\aBX (xJ t) L f.length:=by
 have f1:=fok.1;obtain ⟨m,hm⟩:=aXV h12;have pm:=zO (xJ t) f f.length (bq _);refine ⟨GF (xJ t) f f.length,?_,pm,R8 (aG9 fok.2.2 t) (fun x hx=>hx) _ (bq _)⟩
 have ins:bR (0,(f.length:Int),f,t.1,t.2)=some (GF (xJ t) f f.length,t.1,t.2):=by
  unfold bR
  by_cases h0:f.length=0
  · obtain rfl:f=[]:=cw.1 h0
    refine aL ?_;unfold bC;rfl
  refine Eq.trans ?_ (aEB fok r r64 (c0:=(0,(f.length:Int),f,t.1,t.2)) rfl f.length 1 (by omega) (by omega))
  have:GF (xJ t) f 1=f:=rfl
  rw [this];rfl
 have pdq:cD (0,(f.length:Int),m,f,t.1,t.2)=some (GF (xJ t) f f.length,t.1,t.2):=by
  show dB (bN 999999) _=_;unfold dB;refine aL ?_;unfold eV
  simp only [show aA .i64 ((f.length:Int) -0)=(f.length:Int) by rw [oG ⟨by omega,by omega⟩];omega,aK (show (f.length:Int)<=12 by omega),cond_true,ins,aB,pm.length_eq,beq_self_eq_true]
 have hc:fC ⟨f⟩=some 0:=by rw [mP];exact congrArg some (lH.2 fok)
 have ck:eS t=some 0:=by rw [dF r64,if_pos r]
 have wl:aA .u64 (dm f.length)=(f.length:Int):=by
  show (dm (Nat.mod f.length 18446744073709551616))=_;rw [show Nat.mod f.length 18446744073709551616=f.length from Nat.mod_eq_of_lt (by omega)];rfl
 unfold xW eJ;simp only [hc,aB,show ((0:Int) !=0)=false from rfl,cond_false,ck,aZ (show f.length<=1048576 by omega),wl,hm]
 rw [show cD (0,dm f.length,m,f,t)=_ from pdq];simp only [aB,pm.length_eq,beq_self_eq_true,cond_true]
theorem EV (fok:bZ f) (r:bK t) (r64:nD t) (h12:f.length<=12):(f=[]/\pT ⟨f⟩ t=some (0,42))\/
 ∃p,p∈f/\(∀q∈f,¬cR q p t)/\pT ⟨f⟩ t=some (p.1,0):=by
 obtain ⟨L,h1,h2,h3⟩:=NX fok r r64 h12;have le:=h2.length_eq;unfold pT;rw [h1,aB,show ((0:Int) !=0)=false from rfl,cond_false]
 by_cases h0:f.length=0
 · obtain rfl:f=[]:=cw.1 h0
   obtain rfl:L=[]:=cw.1 le;exact .inl ⟨rfl,rfl⟩
 have hl:0<L.length:=by omega
 right;refine ⟨L[0]!,h2.mem_iff.1 (bE hl),fun q hq=>?_,?_⟩
 · obtain ⟨i,hi,rfl⟩:=aU.1 (h2.mem_iff.2 hq)
   by_cases c:i=0
   · subst c;exact fun h=>rV h h
   exact h3 0 i (by omega) (by omega)
 rw [show ((dm L.length==0):Bool)=false by simp only [aF,beq_eq_false_iff_ne];omega,cond_false,aE L 0 hl|>(fun h=>(h:aN L 0=some L[0]!)),aB]
end
theorem aAs {f:List Pt} (fok:bZ f) {t:Int×Int} {p:List Int} (pl:zL f p):WT p (aY f t p):=by
 have R:=dQ (f:=f) (t:=t) pl.one;refine ⟨pl.one,pl.most,R.1,pl.once,pl.rng fok,R.chosen,fun i hi h=>?_⟩
 rw [R.2 i hi] at h;unfold D5 at h;split at h
 · rename_i h1;exact ⟨h1,h⟩
 rename_i h1
 split at h
 · omega
 split at h<;>omega
theorem aOJ.ok {k:bX} (ok:xF k) {to:Int×Int} {r:bX} (h:aOJ k.bg.au.aa k.bi.ba to r):xF r:=by
 have pl:=uQ ok.br ok.perm;refine ⟨h.clk,?_,?_,?_,?_,?_⟩
 · rw [h.br];exact aAs ok.clk.fld pl
 · rw [h.br];exact ok.pow
 · rw [h.br,h.fld];exact ok.perm
 · rw [h.br,h.fld,h.ar]
 rw [h.br];exact h.cert
theorem aBY {k:bX} (ok:xF k) (sh:zN k) (h12:k.bg.au.aa.length<=12) (c1:gU k=some 0) (c2:iO k=some 0): ∃b,oB k=some b/\pT k.bg.au k.bg.ar=some b:=by
 obtain ⟨b,b1,_,b3⟩:=LA ok sh c1 c2;refine ⟨b,b1,?_⟩;have fok:=ok.clk.fld;rcases b3 with ⟨rfl,h0⟩|⟨i,tp,rfl⟩
 · rcases EV fok ok.clk.nowv ok.clk.now64 h12 with ⟨_,m⟩|⟨p,hp,_,_⟩
   · exact m
   have:=List.length_pos_of_mem hp;omega
 have hi:=tp.hi
 rcases EV fok ok.clk.nowv ok.clk.now64 h12 with ⟨h0,_⟩|⟨p,hp,hm,m⟩
 · rw [h0] at hi;exact absurd hi (bz _)
 obtain ⟨j,hj,rfl⟩:=aU.1 hp
 have:i=j:=ce fun h=>hm _ (bE hi) (tp.top j (ci _) hj (fun e=>h e.symm))
 subst this;exact m
structure zP (c:aO) (m k:Nat):Prop where
 l:c.ax.aq.length<=m
 n:c.ax.ao<=k
 u: ∀j,j<c.ay.ai.ac.length->c.ay.ai.ac[j]!<=k
theorem zP.not_full {c:aO} (ok:aR c) {m k:Nat} (h:zP c m k) (hm:m<=199) (hk:k<=999999): ¬(HX c.ax\/ ¬CG c.ay.ai):=by
 obtain ⟨h1,h2,h3⟩:=h;have fl:=ok.fol.len;have hd:=ok.hd;have hl:=ok.agd.hl;have wl:=ok.agd.wl;have w2:=ok.w200;rintro (h|h)
 · rcases h with h|h<;>omega
 refine h ⟨by omega,?_⟩
 have:=h3 _ (DV ok.agd.so (by omega)).1
 omega
theorem zP.more {c c':aO} {m k:Nat} (h:zP c m k) {x:Int×Int} (hc:c'.ax=qR c.ax x) (hs:c'.ay.ai=c.ay.ai\/c'.ay.ai=hY c.ay.ai):zP c' (m+1) (k+1):=by
 obtain ⟨h1,h2,h3⟩:=h;refine ⟨?_,?_,fun j hj=>?_⟩
 · rw [hc]
   show (c.ax.aq++[(c.ax.ao,x)]).length<=_;rw [cu,bo];omega
 · rw [hc]
   show c.ax.ao+1<=_;omega
 rcases hs with e|e
 · rw [e] at hj ⊢
   have:=h3 j hj;omega
 rw [e] at hj ⊢
 change j<(c.ay.ai.ac.set _ _).length at hj;rw [cb] at hj;show (c.ay.ai.ac.set (dJ c.ay.ai) (c.ay.ai.ac[dJ c.ay.ai]!+1))[j]!<=_;rw [bD];split
 · rename_i h;have:=h3 _ h.2;omega
 have:=h3 j hj;omega
theorem NL {c:aO} (ok:aR c) {i:Nat} (hi:i<c.ax.aq.length) {c':aO} {x:Int×Int} (h:jG c (c.ax.aq[i]!).1=some (c',x,0)):c'.ay.ai.ac=c.ay.ai.ac:=by
 have bd:=ok.bd;have rm:=F6 ok.crt hi (n:=(c.ax.aq[i]!).1) rfl;have fe:=ok.fol.erase (i:=i) hi;have pd:=MN ok.due_up (by omega) (c.ax.aq[i]!).1
 cases hf:(bL c.au.aa (c.ax.aq[i]!).2 c.ar).2 with
 |false=>
  have no: ∀k,k<c.az.length->(c.az[k]!).1≠(c.ax.aq[i]!).1:=by
   intro k hk he;obtain ⟨x,hx,h1,h2,_⟩:=ok.fol.az _ (bE hk);obtain ⟨j,hj,rfl⟩:=aU.1 hx;have ub:=vM.1 ok.crt_up
   have:j=i:=by
    rcases dy j i with h|h|h
    · have:=ub j i h hi;omega
    · exact h
    have:=ub i j h hj;omega
   rw [this,hf] at h2;cases h2
  obtain ⟨m,e⟩:=pd.2 no;unfold jG at h;simp only [rm,aB,show ((0:Int) !=0)=false from rfl,cond_false,iI ok,e] at h;injection h with h;injection h with h _;rw [<- h]
 |true=>
  obtain ⟨k,hk,k1,k2,k3⟩:=fe.2 hf;obtain ⟨w,hw,hev⟩:=aU.1 k2;have hh:(c.ay.aj[w]!).2.2.2=(c.az[k]!).2:=by rw [hev]
  obtain ⟨L,d1,d2⟩:=F3 c.az k hk;unfold jG at h;simp only [rm,aB,show ((0:Int) !=0)=false from rfl,cond_false,iI ok,pd.1 k hk k1,cond_true,aE c.az k hk,uK ok.agd hw ok.agd.fit hh,aV (show k<1000000000 by omega),Q4,d1,d2] at h
  injection h with h;injection h with h _;rw [<- h];show (eL c.ay w).ai.ac=_;have h3:(eL c.ay w).ai=gC c.ay.ai (c.ay.aj[w]!).2.2.2:=by unfold eL;split<;>rfl
  rw [h3];rfl
theorem aOL {c0:aO} (ok0:aR c0) {f:List Pt} {es:List (Int×Int)} (eok:yA f es) {k:Nat}:
 ∀(d i:Nat) (c:aO),c0.ax.aq.length-i<=d->i<=c0.ax.aq.length->aR c->(∀x∈c0.ax.aq.drop i,x∈c.ax.aq)->(∀x∈c.ax.aq,x∈c0.ax.aq.drop i\/x.2∈es)->zP c es.length k\/zP c 100 k->
  c.au=c0.au->zP c 100 k->
  ∃c':aO,aH cH (kP c0 f es i c)=aH cH (kP c0 f es c0.ax.aq.length c')/\aR c'/\(∀x∈c'.ax.aq,x.2∈es)/\c'.au=c0.au/\zP c' 100 k:=by
 have bd:=ok0.bd;intro d
 induction d with
 |zero=>
  intro i c hd hi ok h1 h2 _ hf hr
  have:i=c0.ax.aq.length:=by omega
  subst this;refine ⟨c,rfl,ok,fun x hx=>?_,hf,hr⟩
  rcases h2 x hx with h|h
  · rw [d5] at h;cases h
  exact h
 |succ d ih=>
  intro i c hd hi ok h1 h2 _ hf hr
  by_cases he:i=c0.ax.aq.length
  · subst he
    refine ⟨c,rfl,ok,fun x hx=>?_,hf,hr⟩
    rcases h2 x hx with h|h
    · rw [d5] at h;cases h
    exact h
  have hi':i<c0.ax.aq.length:=by omega
  have e1:decide ((i:Int)<(c0.ax.aq.length:Int))=true:=aK (by omega)
  have sc:=aV (show i<1000000000 by omega)
  have cg:=aE c0.ax.aq i hi';have dr:=uL hi';have ceta:(aO.mk (c.ar.1,c.ar.2) (Field.mk c.au.aa) (bM.mk c.ax.ao c.ax.aq) (aP.mk (bA.mk c.ay.ai.ac c.ay.ai.ae c.ay.ai.af) c.ay.aj c.ay.am) c.az)=c:=rfl
  by_cases hin:(c0.ax.aq[i]!).2∈es
  · have s1:cH (kP c0 f es i c)=some (.next (kP c0 f es (i+1) c)):=by
     unfold cH kP;simp only [e1,cond_true,cg,aB,lR _ _ eok.len,aK hin,bv,cond_false,sc]
    rw [aW s1];refine ih (i+1) c (by omega) (by omega) ok (fun x hx=>h1 x (by rw [dr];exact dj _ hx)) (fun x hx=>?_) (.inr hr) hf hr
    rcases h2 x hx with h|h
    · rw [dr] at h
      rcases ed.1 h with rfl|h
      · exact .inr hin
      exact .inl h
    exact .inr h
  have hm:=h1 (c0.ax.aq[i]!) (by rw [dr];exact List.mem_cons_self)
  obtain ⟨m,hm1,hm2⟩:=aU.1 hm;obtain ⟨c',r1,r2,r3,r4,r5,r6⟩:=aBJ ok hm1;have ru:=NL ok hm1 r1;have rt:=EQ ok hm1 r1;rw [hm2] at rt;have s1:cH (kP c0 f es i c)=some (.next (kP c0 f es (i+1) c')):=by
   unfold cH kP;simp only [e1,cond_true,cg,aB,lR _ _ eok.len,dec_f hin,dh,sc,ceta,rt]
  rw [aW s1];have cl:c'.ax.aq=c.ax.aq.eraseIdx m:=by rw [r6];rfl
  have hr':zP c' 100 k:=⟨by rw [cl,cj hm1];have:=hr.l;omega,by rw [r6];exact hr.n,by rw [ru];exact hr.u⟩
  refine ih (i+1) c' (by omega) (by omega) r3 (fun x hx=>?_) (fun x hx=>?_) (.inr hr') (r4.trans hf) hr'
  · rw [cl]
    refine T9 (h1 x (by rw [dr];exact dj _ hx)) ?_
    rw [hm2];exact D2 ok0 hx hi'
  rw [cl] at hx
  obtain ⟨a1,a2⟩:=tC ok.crt_up hm1 hx;rw [hm2] at a2;rcases h2 x a1 with h|h
  · rw [dr] at h
    rcases ed.1 h with rfl|h
    · exact absurd rfl a2
    exact .inl h
  exact .inr h
theorem aOM {f:List Pt} {es:List (Int×Int)} (eok:yA f es) (hes:es.length<=90):
 ∀(d i:Nat) (c:aO) (k:Nat),es.length-i<=d->i<=es.length->aR c->c.au.aa=f->zP c (100+i) k->k+(es.length-i)<=999999->
  ∃r:aO,aH cW (eP es i c)=some (.done (r,0))/\ ∃k',k'<=k+(es.length-i)/\zP r 190 k':=by
 have el:=eok.len;intro d
 induction d with
 |zero=>
  intro i c k hd hi ok hf hr hk
  have:i=es.length:=by omega
  subst this;refine ⟨c,aL ?_,k,by omega,⟨by have:=hr.l;omega,hr.n,hr.u⟩⟩
  unfold cW eP;simp only [dec_f (show¬(es.length:Int)<(es.length:Int) by omega),cond_false]
 |succ d ih=>
  intro i c k hd hi ok hf hr hk
  by_cases he:i=es.length
  · exact ih i c k (by omega) hi ok hf hr hk
  have bd:=ok.bd;have hi':i<es.length:=by omega
  have e1:decide ((i:Int)<(es.length:Int))=true:=aK (by omega)
  have sc:=aV (show i<1000000000 by omega)
  have cg:=aE es i hi';have ceta:(aO.mk (c.ar.1,c.ar.2) (Field.mk c.au.aa) (bM.mk c.ax.ao c.ax.aq) (aP.mk (bA.mk c.ay.ai.ac c.ay.ai.ae c.ay.ai.af) c.ay.aj c.ay.am) c.az)=c:=rfl;have hc:=Q8 c.ax.aq es[i]! (by omega)
  by_cases hin:wP c.ax.aq es[i]!
  · have s1:cW (eP es i c)=some (.next (eP es (i+1) c)):=by
     unfold cW eP;simp only [e1,cond_true,cg,aB,CN,hc,aK hin,sc]
    rw [aW s1];obtain ⟨r,q1,k',q2,q3⟩:=ih (i+1) c k (by omega) (by omega) ok hf ⟨by have:=hr.l;omega,hr.n,hr.u⟩ (by omega)
    exact ⟨r,q1,k',by omega,q3⟩
  have hb:kE c.au.aa es[i]!:=by rw [hf];exact eok.kn _ (bE hi')
  rcases aDi ok (eok.cv _ (bE hi')) hb hin with ⟨_,_,full⟩|⟨c',r1,_,r3,r4,r5,r6,r7⟩
  · exact absurd full (hr.not_full ok (by omega) (by omega))
  have s1:cW (eP es i c)=some (.next (eP es (i+1) c')):=by
   unfold cW eP;simp only [e1,cond_true,cg,aB,CN,hc,dec_f hin,cond_false,ceta,r1,show ((0:Int) !=0)=false from rfl,sc]
  rw [aW s1];obtain ⟨r,q1,k',q2,q3⟩:=ih (i+1) c' (k+1) (by omega) (by omega) r3 (by rw [r4,hf]) ((hr.more r6 r7)) (by omega)
  exact ⟨r,q1,k',by omega,q3⟩
theorem R9 {c:aO} (ok:aR c) {es:List (Int×Int)} (eok:yA c.au.aa es) (hes:es.length<=90) {k:Nat} (hr:zP c 100 k) (hk:k+es.length<=999999):
 ∃r:aO,oU c c.au es=some (r,0)/\ ∃k',k'<=k+es.length/\zP r 190 k':=by
 have bd:=ok.bd;have f1:=ok.fld.1;obtain ⟨c',g1,g2,g3,g4,g5⟩:=aOL (f:=c.au.aa) ok eok (k:=k) c.ax.aq.length 0 c (by omega) (by omega) ok (fun x hx=>by rwa [ec] at hx) (fun x hx=> .inl (by rwa [ec])) (.inr hr) rfl hr
 obtain ⟨r,q1,k',q2,q3⟩:=aOM (f:=c.au.aa) eok hes es.length 0 c' k (by omega) (by omega) g2 (by rw [g4]) g5 (by omega)
 refine ⟨r,?_,k',by omega,q3⟩
 refine (show oU c c.au es=_ from g1).trans (aL ?_);unfold cH kP;simp only [dec_f (show¬(c.ax.aq.length:Int)<(c.ax.aq.length:Int) by omega),cond_false,g4,K1 c.au.aa c.au.aa (by omega),aB,bv,decide_true]
 have q1:=q1;unfold eP at q1;rw [g4] at q1;exact q1
theorem aON {a b:Int×Int}: ¬iH a b<0↔b.1*a.2<=a.1*b.2:=by rw [tB];omega
theorem aOO {a b:Int×Int}:iH a b<=0↔a.1*b.2<=b.1*a.2:=by
 unfold iH;rcases eF (a.1*b.2) (b.1*a.2) with ⟨x,y⟩|⟨x,y⟩|⟨x,y⟩<;>omega
theorem NW.more {c:aO} (ok:aR c) {s t:Int×Int} (rs:bK s) (rt:bK t) (st: ¬iH t s<0) (h:NW c s):NW c t:=by
 refine ⟨h.1,?_⟩;have e0:=(ok.agd.ev 0 h.1).1.1;have h2:=h.2;rw [aOO] at*;rw [aON] at st;exact QP e0 rs.1 rt.1 h2 st
section
variable {s t : Int × Int}
end
def SA:Nat->(Nat->Nat)->Nat
 |0,_=>0
 |n+1,F=>SA n F+F n
theorem W4: ∀{n:Nat} {F G:Nat->Nat},(∀i,i<n->F i<=G i)->SA n F<=SA n G
 |0,_,_,_=>bq _
 |n+1,F,G,h=>Nat.add_le_add (W4 fun i hi=>h i (by omega)) (h n (by omega))
theorem aDp {n:Nat} {F G:Nat->Nat} (h: ∀i,i<n->F i<=G i) {a:Nat} (ha:a<n) (hs:F a+1<=G a):SA n F+1<=SA n G:=by
 induction n with
 |zero=>omega
 |succ n ih=>
  show SA n F+F n+1<=SA n G+G n
  by_cases c:a=n
  · subst c
    have:=W4 (n:=a) fun i hi=>h i (by omega)
    omega
  have:=ih (fun i hi=>h i (by omega)) (by omega)
  have:=h n (by omega)
  omega
theorem aDq {n m:Nat} {F:Nat->Nat} (h: ∀i,i<n->F i<=m):SA n F<=n*m:=by
 induction n with
 |zero=>exact ci _
 |succ n ih=>
  show SA n F+F n<=_
  have:=ih fun i hi=>h i (by omega)
  have:=h n (by omega)
  rw [Nat.succ_mul];omega
noncomputable def pos (l:List Int) (x:Int):Nat:=if h: ∃k,k<l.length/\l[k]! =x then h.choose else 0
section
variable (f : List Pt)
noncomputable def phi (t:Int×Int):Nat:=SA f.length fun p=>SA f.length fun q=>if (f[q]!).2.2<(f[p]!).2.2/\ ¬cR f[p]! f[q]! t then 1 else 0
end
section
variable {f : List Pt}
theorem aVu {p q:Pt} {t t':Int×Int} (d:1<=t.2) (d':1<=t'.2) (le:t.1*t'.2<=t'.1*t.2) (h: ¬cR p q t) (h':cR p q t'):q.2.2<p.2.2:=by
 refine ce fun c=>?_
 exact A1 d d' le c h h'
theorem aAt {h l:Pt} {t:Int×Int} (hh:gJ h) (hl:gJ l) (is:(lS h l t).2=true):cR l h (lS h l t).1:=by
 unfold lS at*
 by_cases h1:cR l h t
 · rw [if_pos h1];exact h1
 rw [if_neg h1] at is ⊢
 by_cases h2:h.2.2<l.2.2
 · rw [if_pos h2]
   obtain ⟨_,m1,m2,m3⟩:=I6 hh hl (show h.2.2≠l.2.2 by omega)
   refine .inr ⟨?_,.inl h2⟩;show OA l h (met h l)=0;rw [G7];have e1:(l.2.1-h.2.1)*(met h l).2= -((h.2.1-l.2.1)*(met h l).2):=by rw [<- Int.neg_mul];congr 1;omega
   rw [e1,<- m3,ef (l.2.2-h.2.2)];omega
 rw [if_neg h2] at is;cases is
end
def hS (f:List Pt) (t:Int×Int) (i:Nat) (l:List Int):=((i:Int),f,t.1,t.2,(0:Int),(0:Int),(0:Int),l)
section
variable {f : List Pt}
theorem aAu (hs:fY f) {t t':Int×Int} (d:1<=t.2) (d':1<=t'.2) (le:t.1*t'.2<=t'.1*t.2) {p q:Nat} (hp:p<f.length) (hq:q<f.length):
 (if (f[q]!).2.2<(f[p]!).2.2/\ ¬cR f[p]! f[q]! t' then 1 else 0)<=(if (f[q]!).2.2<(f[p]!).2.2/\ ¬cR f[p]! f[q]! t then 1 else 0:Nat):=by
 by_cases h:(f[q]!).2.2<(f[p]!).2.2/\ ¬cR f[p]! f[q]! t'
 · have hn: ¬cR f[p]! f[q]! t:=fun hl=>by
    have ne:p≠q:=fun e=>by subst e;have:=h.1;omega
    have:=A1 (l:=f[q]!) (h:=f[p]!) d d' le (by have:=h.1;omega) (rV hl)
    exact h.2 (pH t' (fun e=>ne (qZ hs hp hq e.symm)) this)
   exact Nat.le_of_eq (by rw [if_pos h,if_pos (show _/\_ from ⟨h.1,hn⟩)])
 rw [if_neg h];exact ci _
theorem aVv (hs:fY f) {t t':Int×Int} (d:1<=t.2) (d':1<=t'.2) (le:t.1*t'.2<=t'.1*t.2) {a b:Nat} (ha:a<f.length) (hb:b<f.length) (h1: ¬cR f[a]! f[b]! t) (h2:cR f[a]! f[b]! t'):phi f t'+1<=phi f t:=by
 have fa:=aVu d d' le h1 h2;refine aDp (fun i hi=>W4 fun j hj=>aAu hs d d' le hi hj) ha (aDp (fun j hj=>aAu hs d d' le ha hj) hb ?_)
 rw [if_neg (fun h=>h.2 h2),if_pos ⟨fa,h1⟩]
 exact bq _
theorem aVw {t:Int×Int} (h10:f.length<=10):phi f t<=100:=by
 have b:phi f t<=f.length*10:=aDq fun p _=>eh (aDq (m:=1) fun q _=>by split<;>omega) (by omega)
 omega
end
theorem aAv {c:aO} (ok:aR c) {p:List Int} (pl:zL c.au.aa p) (cp:(c.ax.aq.map fun x=>x.2).Perm (dR p (aY c.au.aa c.ar p))) {k:Nat} (hr:zP c 100 k) (hk:k+63<=999999) {to:Int×Int} (rt:bK to) (r64:nD to) (le: ¬iH to c.ar<0) (az:NW c to):
 ∃x c1 r k',nL c to=some (c1,c.ay.aj[0]!,x,0)/\gT c1 c1.au p=some (⟨r,⟨p,aY c.au.aa r.ar p⟩⟩,0)/\aR r/\r.au=c.au/\(r.ax.aq.map fun x=>x.2).Perm (dR p (aY c.au.aa r.ar p))/\
  zP r 100 k'/\k'<=k+63/\ ¬iH to r.ar<0/\phi c.au.aa r.ar+1<=phi c.au.aa c.ar:=by
 obtain ⟨i0,c',hi0,num,r1,_,ok1,hf,hc,ge⟩:=RG ok az.1;have g:=aE c.ay.aj 0 az.1;rw [show ((0:Nat):Int)=0 from rfl] at g;have hb:=ok.known i0 hi0;obtain ⟨d,hd,hn⟩:=ok.nums _ (bE az.1);obtain ⟨y,hy,y1,y2,y3⟩:=ok.fol.az d hd;have hye:y=c.ax.aq[i0]!:=Up.inj ok.crt_up hy (bE hi0) (by rw [<- y1,hn,num])
 subst hye;have tm:Ev.at c.ay.aj[0]! =(bL c.au.aa (c.ax.aq[i0]!).2 c.ar).1:=by
  obtain ⟨w,hw,he⟩:=aU.1 y3;have hw0:w=0:=ce fun hx=>by
   refine ok.agd.nd 0 w (by omega) hw ?_
   rw [he,<- hn,y1]
  subst hw0;rw [he]
 obtain ⟨x,hx⟩: ∃x,x=(c.ax.aq[i0]!).2:=⟨_,rfl⟩;rw [<- hx] at r1 hb tm y2;have xe:x∈dR p (aY c.au.aa c.ar p):=cp.mem_iff.1 (cz.2 ⟨_,bE hi0,hx.symm⟩);have lead0:=NK ok.fld pl xe;obtain ⟨c1,hc1⟩: ∃c1,c1=atT c' (Ev.at c.ay.aj[0]!):=⟨_,rfl⟩;have ok1:aR c1:=by rw [hc1];exact ok1
 have f1:nL c to=some (c1,c.ay.aj[0]!,x,0):=by
  unfold nL;rw [K7 ok rt r64 le,aB,dW rfl,cond_true,aK az,bv,cond_false,bP rfl,cond_false,g,aB,r1,aB,bP rfl,cond_false,hc1]
 have hfc:c1.au=c.au:=by rw [hc1];exact hf
 have hnow:c1.ar=Ev.at c.ay.aj[0]!:=by rw [hc1]
 have ru:c'.ay.ai.ac=c.ay.ai.ac:=by
  refine NL ok hi0 (c':=c') (x:=x) ?_;rw [num];exact r1
 have hr1:zP c1 100 k:=by
  rw [hc1];refine ⟨?_,?_,?_⟩
  · show c'.ax.aq.length<=100
    rw [hc];show (c.ax.aq.eraseIdx i0).length<=100;rw [cj hi0];have:=hr.l;omega
  · show c'.ax.ao<=_
    rw [hc];exact hr.n
  show∀j,j<c'.ay.ai.ac.length->c'.ay.ai.ac[j]!<=_
  rw [ru];exact hr.u
 have pl1:zL c1.au.aa p:=by rw [hfc];exact pl
 obtain ⟨eok,nd,el⟩:=mS ok1.fld ok1.now64 (t:=c1.ar) pl1;obtain ⟨r,q1,k',q2,q3⟩:=R9 ok1 eok (by omega) hr1 (by omega)
 obtain ⟨S,s1,_,s3⟩:=WM ok1 ok1.fld eok;have es:S=(r,0):=de (s1.symm.trans q1);rw [es] at s3;rcases s3 with ⟨_,q⟩|q
 case inr=>cases q
 have q:K2 c1 c1.au.aa (dR p (aY c1.au.aa c1.ar p)) r:=q;have ee:nR c1.au.aa (dR p (aY c1.au.aa c1.ar p))=0:=by
  unfold nR;rw [if_neg (cy.2 eok.cv),if_neg (cy.2 nd),if_neg (fun h=>h eok.kn)]
 have rn:oV c1 c1.au (dR p (aY c1.au.aa c1.ar p))=_:=GA ok1 ok1.fld (by omega) (fun _=>q1)
 rw [if_pos ee] at rn;have md:iL c1.au c1.ar p=_:=pI ok1.fld ok1.nowv ok1.now64 pl1;have rnow:r.ar=c1.ar:=q.ar;have rf:r.au=c.au:=by
  have:=q.fld
  rw [hfc] at this;cases h1:r.au;cases h2:c.au;rw [h1,h2] at this;simpa using this
 have ct':(r.ax.aq.map fun x=>x.2).Perm (dR p (aY c.au.aa r.ar p)):=by
  rw [rnow,<- hfc];exact GC (wR q.ok.crt) nd (fun z hz=>by obtain ⟨y,hy,rfl⟩:=cz.1 hz;exact q.sub y hy) (fun z hz=>tD.1 (q.has z hz))
 refine ⟨x,c1,r,k',f1,?_,q.ok,rf,ct',⟨?_,q3.n,q3.u⟩,by omega,fun hx=>?_,?_⟩
 · unfold gT
   rw [md,aB,rn,aB,bP rfl,cond_false,rnow,hfc]
 · have:=ct'.length_eq
   rw [bw,rnow,<- hfc] at this;omega
 · have h2:=az.2
   rw [rnow,hnow,tB] at hx
   have: ¬0<iH (Ev.at c.ay.aj[0]!) to:=by omega
   unfold iH at this;rcases eF ((Ev.at c.ay.aj[0]!).1*to.2) (to.1*(Ev.at c.ay.aj[0]!).2) with ⟨a,b⟩|⟨a,b⟩|⟨a,b⟩<;>omega
 obtain ⟨a,ha,ea⟩:=hb.1
 obtain ⟨b,hb',eb⟩:=hb.2;have hpt:=dG ok.fld hb.2;have hpt1:=dG ok.fld hb.1;have ah:cR (fU c.au.aa x.1) (fU c.au.aa x.2) r.ar:=by
  rw [rnow,hnow,tm];exact aAt hpt.1 hpt1.1 (t:=c.ar) y2
 rw [xZ ok.fld.2.2 ha ea,xZ ok.fld.2.2 hb' eb] at ah lead0;exact aVv ok.fld.2.2 ok.nowv.1 q.ok.nowv.1 (by rw [rnow,hnow];exact ge) ha hb' (rV lead0) ah
theorem aBZ {to:Int×Int} (rt:bK to) (r64:nD to) {p:List Int}: ∀(d:Nat) (c:aO) (out:List (Int×Int)) (k:Nat),phi c.au.aa c.ar<=d->aR c->zL c.au.aa p->(c.ax.aq.map fun x=>x.2).Perm (dR p (aY c.au.aa c.ar p))->zP c 100 k->k+63*(d+1)<=999999->out.length+d<=1048000-> ¬iH to c.ar<0->
 ∃R:bX×List (Int×Int)×Int,aH cQ (tP c p (aY c.au.aa c.ar p) to out)=some R/\R.2.2=0:=by
 intro d;have stop: ∀(c:aO) (out:List (Int×Int)),aR c->zL c.au.aa p-> ¬iH to c.ar<0-> ¬NW c to-> ∃R:bX×List (Int×Int)×Int,aH cQ (tP c p (aY c.au.aa c.ar p) to out)=some R/\R.2.2=0:=by
  intro c out ok pl le az;have ceta:(aO.mk (c.ar.1,c.ar.2) (Field.mk c.au.aa) (bM.mk c.ax.ao c.ax.aq) (aP.mk (bA.mk c.ay.ai.ac c.ay.ai.ae c.ay.ai.af) c.ay.aj c.ay.am) c.az)=c:=rfl;have h1:iL c.au to p=_:=pI ok.fld rt r64 pl
  refine ⟨(⟨atT c to,⟨p,aY c.au.aa to p⟩⟩,out,0),aL ?_,rfl⟩;unfold cQ tP;simp only [ceta,show ((to.1,to.2):Int×Int)=to from rfl,aAl ok rt r64 le az,aB,show ((6:Int) !=0)=true from rfl,cond_true,aDn ok rt r64 le az];rw [show iL (atT c to).au to p=_ from h1,aB]
 have step: ∀(c:aO) (out:List (Int×Int)) (k:Nat),aR c->zL c.au.aa p->(c.ax.aq.map fun x=>x.2).Perm (dR p (aY c.au.aa c.ar p))->zP c 100 k->k+63<=999999->out.length+1<=1048576-> ¬iH to c.ar<0->NW c to->
  ∃x r k',cQ (tP c p (aY c.au.aa c.ar p) to out)=some (.next (tP r p (aY r.au.aa r.ar p) to (out++[x])))/\aR r/\zL r.au.aa p/\(r.ax.aq.map fun x=>x.2).Perm (dR p (aY r.au.aa r.ar p))/\zP r 100 k'/\k'<=k+63/\ ¬iH to r.ar<0/\phi r.au.aa r.ar+1<=phi c.au.aa c.ar:=by
  intro c out k ok pl cp hr hk ho le az;have ceta:(aO.mk (c.ar.1,c.ar.2) (Field.mk c.au.aa) (bM.mk c.ax.ao c.ax.aq) (aP.mk (bA.mk c.ay.ai.ac c.ay.ai.ae c.ay.ai.af) c.ay.aj c.ay.am) c.az)=c:=rfl;obtain ⟨x,c1,r,k',e1,e2,h3,h4,h5,h6,h7,h8,h9⟩:=aAv ok pl cp hr hk rt r64 le az
  refine ⟨x,r,k',?_,h3,by rw [h4];exact pl,by rw [h4];exact h5,h6,h7,h8,by rw [h4];exact h9⟩
  have ol:bV out [x]=some (out++[x]):=eU (by rw [bo];omega)
  unfold cQ tP;simp only [ceta,show ((to.1,to.2):Int×Int)=to from rfl,e1,aB,e2,show ((0:Int) !=0)=false from rfl,cond_false,ol];rw [h4]
 induction d with
 |zero=>
  intro c out k ht ok pl cp hr hk ho le
  by_cases az:NW c to
  · obtain ⟨x,r,k',_,_,_,_,_,_,_,h9⟩:=step c out k ok pl cp hr (by omega) (by omega) le az
    omega
  exact stop c out ok pl le az
 |succ d ih=>
  intro c out k ht ok pl cp hr hk ho le
  by_cases az:NW c to
  · obtain ⟨x,r,k',e,h3,h4,h5,h6,h7,h8,h9⟩:=step c out k ok pl cp hr (by omega) (by omega) le az
    rw [aW e];exact ih r (out++[x]) k' (by omega) h3 h4 h5 h6 (by omega) (by rw [cu,bo];omega) h8
  exact stop c out ok pl le az
theorem aOQ {s t:Int×Int} (s64:nD s) (t64:nD t):DM s t=some (if bK s/\bK t then 0 else 8):=by
 unfold DM
 by_cases rs:bK s
 · rw [iQ s64,if_pos rs,aB,bP rfl,cond_false,iQ t64,aB]
   by_cases rt:bK t
   · rw [if_pos rt,if_pos ⟨rs,rt⟩]
   rw [if_neg rt,if_neg fun h=>rt h.2]
 rw [iQ s64,if_neg rs,aB,if_neg fun h=>rs h.1];rfl
def qE (r i:Nat):Nat:=(2*i+r)%16
def pE (f:List Pt) (r:Nat):Nat->List Int
 |0=>bn 16 (-1)
 |i+1=>(pE f r i).set (qE r i) (f[i]!).1
theorem MV (f:List Pt) (r:Nat): ∀i,(pE f r i).length=16
 |0=>bu ..
 |i+1=>by rw [pE,cb,MV f r i]
theorem aDr (r i:Nat):qE r i<16:=by unfold qE;omega
theorem aVx {r i j:Nat} (hi:i<8) (hj:j<8) (h:qE r i=qE r j):i=j:=by unfold qE at h;omega
theorem aHd (f:List Pt) (r:Nat): ∀(i k:Nat),i<=8->k<16->(∃j,j<i/\qE r j=k/\(pE f r i)[k]! =(f[j]!).1)\/((∀j,j<i->qE r j≠k)/\(pE f r i)[k]! = -1)
 |0,k,_,hk=> .inr ⟨fun j hj=>absurd hj (bz j),by unfold pE;exact zM _ hk⟩
 |i+1,k,hi,hk=>by
  have ih:=aHd f r i k (by omega) hk
  rw [pE,bD,MV]
  by_cases h:k=qE r i
  · rw [if_pos ⟨h,aDr r i⟩];exact .inl ⟨i,by omega,h.symm,rfl⟩
  rw [if_neg (fun x=>h x.1)]
  rcases ih with ⟨j,j1,j2,j3⟩|⟨j1,j2⟩
  · exact .inl ⟨j,by omega,j2,j3⟩
  refine .inr ⟨fun j hj e=>?_,j2⟩
  by_cases hji:j=i
  · rw [hji] at e;exact h e.symm
  exact j1 j (by omega) e
section
variable {f : List Pt} (fok : bZ f) (h8 : f.length <= 8) (r : Nat)
include fok h8
theorem aB0 {k:Nat} (hk:k<16):(∃j,j<f.length/\qE r j=k/\(pE f r f.length)[k]! =(f[j]!).1/\0<=(f[j]!).1)\/(pE f r f.length)[k]! = -1:=by
 rcases aHd f r f.length k h8 hk with ⟨j,j1,j2,j3⟩|⟨_,j2⟩
 · have:=fok.2.1 _ (bE j1)
   unfold gJ at this;exact .inl ⟨j,j1,j2,j3,by omega⟩
 exact .inr j2
theorem aPo:zL f (pE f r f.length):=by
 have ln:=MV f r f.length;refine ⟨by omega,by omega,fun i j hij hj e=>?_,fun x hx=>?_⟩
 · rw [ln] at hj
   rcases aB0 fok h8 r (k:=i) (by omega) with ⟨a,a1,a2,a3,a4⟩|h
   · rcases aB0 fok h8 r (k:=j) hj with ⟨b,b1,b2,b3,b4⟩|h
     · have:=qZ fok.2.2 a1 b1 (by rw [<- a3,<- b3,e])
       subst this;omega
     rw [e,h];decide
   rw [h];decide
 obtain ⟨i,hi,rfl⟩:=aU.1 hx
 rw [ln] at hi;rcases aB0 fok h8 r hi with ⟨a,a1,a2,a3,a4⟩|h
 · rw [a3];exact .inr ⟨a4,a,a1,rfl⟩
 exact .inl h
theorem aOR:(nE f).Perm (iC (pE f r f.length)):=by
 have ln:=MV f r f.length;have pl:=aPo fok h8 r;refine (dc (G8 fok.2.2) (R2 pl.once)).2 fun x=>⟨fun h=>?_,fun h=>?_⟩
 · obtain ⟨j,hj,rfl⟩:=A2.1 h
   have p0:=fok.2.1 _ (bE hj);unfold gJ at p0;refine uP.2 ⟨?_,by omega⟩
   rcases aHd f r f.length (qE r j) h8 (aDr r j) with ⟨a,a1,a2,a3⟩|⟨h,_⟩
   · have:=aVx (by omega) (by omega) a2
     subst this;rw [<- a3];exact bE (by rw [ln];exact aDr r a)
   exact absurd rfl (h j hj)
 obtain ⟨h1,h2⟩:=uP.1 h
 exact A2.2 ((pl.ids x h1).has h2)
end
theorem aB1 {f:List Pt} (fok:bZ f) {t:Int×Int} (rt:bK t) (r64:nD t) {p:List Int} (pl:zL f p):
 ∃r:aO,gK (JE ⟨f⟩ t) ⟨f⟩ p=some (⟨r,⟨p,aY f t p⟩⟩,0)/\aR r/\r.au=⟨f⟩/\r.ar=t/\(r.ax.aq.map fun x=>x.2).Perm (dR p (aY f t p))/\zP r 100 63:=by
 have ok:=aEx (f:=⟨f⟩) fok rt r64;obtain ⟨c,hc⟩: ∃c,c=JE ⟨f⟩ t:=⟨_,rfl⟩;have cf:c.au=⟨f⟩:=by rw [hc];rfl
 have cn:c.ar=t:=by rw [hc];rfl
 have hr:zP c 100 0:=by
  obtain ⟨a,b,d⟩:=WY ⟨f⟩ t;rw [hc];exact ⟨by omega,b,d⟩
 rw [<- hc] at ok ⊢;have fok1:bZ c.au.aa:=by rw [cf];exact fok
 obtain ⟨eok,nd,el⟩:=mS fok r64 (t:=t) pl;have eok1:yA c.au.aa (dR p (aY f t p)):=by rw [cf];exact eok
 obtain ⟨r,q1,k',q2,q3⟩:=R9 ok eok1 (by omega) hr (by omega)
 obtain ⟨S,s1,s2,s3⟩:=WM ok fok1 eok1;have es:S=(r,0):=de (s1.symm.trans q1);rw [es] at s2 s3;rcases s3 with ⟨_,q⟩|q
 case inr=>cases q
 have q:K2 c c.au.aa (dR p (aY f t p)) r:=q;have rf:r.au=⟨f⟩:=by
  have:=q.fld
  rw [cf] at this;cases h1:r.au;rw [h1] at this;exact congrArg Field.mk this
 have ct':(r.ax.aq.map fun x=>x.2).Perm (dR p (aY f t p)):=
  GC (wR q.ok.crt) nd (fun z hz=>by obtain ⟨y,hy,rfl⟩:=cz.1 hz;exact q.sub y hy) (fun z hz=>tD.1 (q.has z hz))
 have B:=dQ (f:=f) (t:=t) pl.one;refine ⟨r,?_,q.ok,rf,q.ar.trans cn,ct',?_,by have:=q3.n;omega,fun j hj=>by have:=q3.u j hj;omega⟩
 · unfold gK
   rw [cn,IA fok r64 pl,aB,GD B.1 pl.most,aB];have s2:lP c ⟨f⟩ (dR p (aY f t p))=some (r,0):=by rw [<- cf];exact s2
   rw [s2,aB,bP rfl,cond_false]
 have:=ct'.length_eq
 rw [bw] at this;omega
theorem aB2 {k:bX} (ok:xF k) (n:aEs k.bg) (sh:zN k) (h10:k.bg.au.aa.length<=10) {m:Nat} (hr:zP k.bg 100 m) (hm:m<=100000) {to:Int×Int} (rt:bK to) (r64:nD to) (le: ¬iH to k.bg.ar<0):
 ∃R:bX×List (Int×Int)×Int,fH k to=some R/\R.2.2=0/\MT R/\aOJ k.bg.au.aa k.bi.ba to R.1:=by
 obtain ⟨R,r1,_,r3,r4⟩:=JF n sh r64;have pl:=uQ ok.br ok.perm;obtain ⟨Q,q1,q2⟩:=aBZ rt r64 (p:=k.bi.ba) 100 k.bg [] m (aVw h10) ok.clk pl (by rw [<- ok.right];exact ok.cert) hr (by omega) (by simp) le
 have c1:gU k=some 0:=by rw [qS ok.clk.fit sh.p sh.w,if_pos ok]
 have adv:fH k to=some Q:=by
  unfold fH;rw [c1,aB,bP rfl,cond_false,dF r64,if_pos rt,aB,bP rfl,cond_false,I5 r64 n.ar,if_pos ⟨rt,ok.clk.nowv⟩,aB,dec_f le];rw [<- ok.right] at q1;exact q1
 have e:Q=R:=de (adv.symm.trans r1);subst e;refine ⟨Q,r1,q2,r3,?_⟩;rcases r4 ok rt le with h|⟨_,h⟩
 · rw [q2] at h;cases h
 exact h
theorem aAw {c:aO} (ok:aR c):aEs c:=⟨ok.now64,fun w hw=>(ok.agd.ev w hw).2.1⟩
theorem EA (f:Field) (s t:Int×Int) (turn:Int) (s64:nD s) (t64:nD t) (n64:CQ turn):sY f s t turn=some true:=by
 unfold sY;rw [aB]
 by_cases hm:8<dm f.aa.length
 · rw [aK hm];rfl
 have h8:f.aa.length<=8:=by rw [aF] at hm;omega
 rw [dec_f hm,cond_false,FX f,aB]
 by_cases h:wN f.aa=0
 case neg=>rw [dM h];rfl
 have fok:=lH.1 h;rw [bP h,cond_false,aOQ s64 t64,aB]
 by_cases rr:bK s/\bK t
 case neg=>rw [if_neg rr];rfl
 obtain ⟨rs,rt⟩:=rr;rw [if_pos ⟨rs,rt⟩,bP rfl,cond_false,uH s64 t64,aB]
 by_cases l1:0<iH s t
 · rw [aK l1];rfl
 rw [dec_f l1,cond_false];have le: ¬iH t s<0:=fun h=>l1 (by rw [tB] at h;unfold iH;rcases eF (s.1*t.2) (t.1*s.2) with ⟨a,b⟩|⟨a,b⟩|⟨a,b⟩<;>omega)
 by_cases l2:turn<0
 · rw [aK l2];rfl
 rw [dec_f l2,cond_false,bv,cond_false,show rJ (16:Int) (0:Int)=some (bn 16 0) from KW (n:=16) 0 (by omega),aB]
 obtain ⟨r,hr⟩: ∃r:Nat,Int.tmod turn 16=(r:Int):=⟨(turn%16).toNat,by rw [cm (by omega)];omega⟩
 have r16:r<16:=by rw [cm (by omega)] at hr;omega
 have st2:=dX (body:=lG) (fun i=>(turn,true,(i:Int),f.aa,s.1,s.2,t.1,t.2,bn i (-1)++bn (16-i) 0)) 16 (fun i hi=>by
  unfold lG;have ll:(bn i (-1:Int)++bn (16-i) 0).length=16:=by simp;omega
  simp only [aK (show (i:Int)<16 by omega),cond_true,aE _ i (show i<(bn i (-1:Int)++bn (16-i) 0).length by omega),aB,qH,aV (show i<1000000000 by omega)]
  have e:(bn i (-1:Int)++bn (16-i) 0).set i (-1)=bn (i+1) (-1)++bn (16- (i+1)) 0:=by
   rw [List.set_append_right _ _ (by simp),bu,Nat.sub_self,show 16-i=(16- (i+1))+1 by omega,List.replicate_succ,List.set_cons_zero,List.replicate_succ' (n:=i),dw,List.singleton_append]
  rw [e])
 refine (show _=_ from st2).trans ?_;have st1:=dX (body:=iP) (fun i=>(turn,true,(i:Int),f.aa,s.1,s.2,t.1,t.2,pE f.aa r i)) f.aa.length (fun i hi=>by
  have ln:=MV f.aa r i;have q:Int.tmod (aA .i64 (aA .i64 (2*(i:Int))+(r:Int))) 16=(qE r i:Int):=by
   rw [oG (n:=2*(i:Int)) ⟨by omega,by omega⟩,oG ⟨by omega,by omega⟩,cm (by omega)]
   unfold qE;omega
  unfold iP;simp only [aF,aK (show (i:Int)<(f.aa.length:Int) by omega),cond_true,aE f.aa i hi,aB,hr,q,aE (pE f.aa r i) (qE r i) (by rw [ln];exact aDr r i),qH,aV (show i<1000000000 by omega)]
  rfl)
 refine aL ?_;have pl:=aPo fok h8 r;have fe:(⟨f.aa⟩:Field)=f:=rfl;obtain ⟨c,s1,s2,s3,s4,s5,s6⟩:=aB1 fok rs s64 pl;have b0:=aBP (f:=f) (by omega) s
 obtain ⟨k,hk⟩: ∃k:bX,k=⟨c,⟨pE f.aa r f.aa.length,aY f.aa s (pE f.aa r f.aa.length)⟩⟩:=⟨_,rfl⟩;have kp:k.bi.ba=pE f.aa r f.aa.length:=by rw [hk]
 have kw:k.bi.be=aY f.aa s (pE f.aa r f.aa.length):=by rw [hk]
 have kc:k.bg=c:=by rw [hk]
 have ln:=MV f.aa r f.aa.length;have br:=aAs (t:=s) fok pl;have tok:xF k:=by
  refine ⟨by rw [kc];exact s2,by rw [kp,kw];exact br,⟨4,by omega,by rw [kp,ln]⟩,by rw [kc,s3,kp];exact aOR fok h8 r,by rw [kw,kc,s3,s4,kp],by rw [kc,kp,kw];exact s5⟩
 have bl:=br.len;have sh:zN k:=⟨tok.clk.short,by rw [kp];omega,by rw [kw];omega⟩
 have kf:k.bg.au.aa=f.aa:=by rw [kc,s3]
 have kn:k.bg.ar=s:=by rw [kc,s4]
 obtain ⟨R,r1,r2,r3,adv⟩:=aB2 tok (aAw tok.clk) sh (by rw [kf];omega) (m:=63) (by rw [kc];exact s6) (by omega) rt t64 (by rw [kn];exact le)
 have aok:=adv.ok tok;have fit:=aok.clk.fit;have c1:gU R.1=some 0:=by rw [qS fit r3.h.p r3.h.w,if_pos aok]
 have c2:iO R.1=some 0:=by rw [GE fit r3.h.p r3.h.w,if_pos aok]
 have c0:gU k=some 0:=by rw [qS tok.clk.fit sh.p sh.w,if_pos tok]
 obtain ⟨b,g1,g2⟩:=aBY aok r3.h (by rw [adv.fld,kf];omega) c1 c2
 have rf:R.1.bg.au=f:=by
  have:=adv.fld
  rw [kf] at this;cases h1:R.1.bg.au;cases h2:f;rw [h1,h2] at this;exact congrArg Field.mk this
 rw [rf,adv.ar] at g2;have last:aH iP (turn,true,0,f.aa,s.1,s.2,t.1,t.2,bn 16 (-1))=some (.done true):=by
  refine (show _=_ from st1).trans (aL ?_);unfold iP;simp only [aF,dec_f (show¬(f.aa.length:Int)<(f.aa.length:Int) by omega),cond_false,fe,show ((s.1,s.2):Int×Int)=s from rfl,show ((t.1,t.2):Int×Int)=t from rfl,b0,aB]
  rw [show gK (JE f s) f (pE f.aa r f.aa.length)=_ from s1,aB];simp only [bP (rfl:(0:Int)=0),cond_false];rw [<- hk,c0,aB,bP rfl,cond_false,r1,aB,g1,aB,g2,aB,cond_true,dW r2,cond_true,c2,aB,dW rfl,cond_true,dW rfl,cond_true,dW rfl,cond_true,dW (by rw [adv.br,kp,ln];rfl)]
 unfold lG;simp only [dec_f (show¬((16:Nat):Int)<16 by omega),cond_false]
 exact last
theorem aEs.of {c:aO} (h1:RT.wf [.i .i64,.i .i64] c.ar) (h2: ∀a∈c.ay.aj,RT.wf [.i .i64,.i .i64,.i .i64,.i .i64,.i .i64] a):aEs c where
 ar:=⟨DD h1.1,DD h1.2⟩
 at64 w hw:=by
  have:=h2 (c.ay.aj[w]!) (by rw [getElem!_pos c.ay.aj w hw];exact List.getElem_mem hw)
  exact ⟨DD this.1,DD this.2.1⟩
end Go.Proofs.YtlnclppkepgdmaaGreat
