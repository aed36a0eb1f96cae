/- Plain laws (1). -/
import Derived.Test.YtclphlgnjkajbaaGreatPVm3
import Derived.Test.YtclphlgnjkajbaaGreatPVm1
import Derived.Test.YtclphlgnjkajbaaGreatPQS2
open List renaming length_set->v4,replicate->AC,length_replicate->UV,set_set->adc,mem_map->adR,mem_of_mem_take->adT,length_take->adV,nodup_cons->ae6,length_map->ae7,mem_singleton->aer,getElem?_eq_getElem->aev,mem_append->aey,set_comm->aeD,length_cons->aeI,take_length->aeJ,mem_filter->aeQ,mem_cons->aeV,length->afa
open Int renaming ofNat->v6,mul_le_mul_of_nonneg_right->PP,tdiv->acl,mul_neg_of_neg_of_pos->adZ,eq_ofNat_of_zero_le->ae0,neg_mul->ae5,mul_comm->ae8,mul_lt_mul_of_pos_right->aen,fdiv_eq_ediv_of_nonneg->aeo,mul_le_mul->aep,tdiv_eq_ediv_of_nonneg->aeq,lt_of_mul_lt_mul_right->aes,lt_trichotomy->aet,mul_nonneg->aeA,natCast_mul->aeM,ofNat_tmod->aeR,ofNat_tdiv->aeS,mul_assoc->aeT,toNat->af2
open Classical renaming not_not->ww,not_forall->IR,byContradiction->NE,not_imp->ae2
open Option.some renaming injEq->Do
open Nat renaming gcd->EQ,gcd_comm->ae1,gcd_dvd_right->aeu,gcd_pos_of_pos_right->aew,le_refl->aez,mul_div_cancel'->aeC,gcd_zero_right->aeF,gcd_dvd_left->aeH,strongRecOn->aeK,div_le_self->aeL,le_trans->af3
open Bool renaming not_false->If,not_true->M2,not_eq_true->aex,or_eq_false_iff->aeB,false_or->aeE,false_eq_true->aeG,true->afd,false->afk
open Prod.mk renaming injEq->adM
open Option renaming some->afb,none->afc
open Decidable renaming decide->afl
namespace Go.Vm
instance lpN:LP:=⟨afc⟩
section
variable {σ ρ : Type}
theorem wH {body:σ->Option (Step σ ρ)} {x:σ} {r:ρ}:aE body x=afb r↔ ∃n,mB body n x=afb r:=Bv
theorem aW {body:σ->Option (Step σ ρ)} {x y:σ} (h:body x=afb (.next y)):aE body x=aE body y:=by
 apply Option.ext;intro r;rw [wH,wH];constructor
 · rintro ⟨n,hn⟩
   cases n with
   |zero=>cases hn
   |succ n=>simp only [mB,h] at hn;exact ⟨n,hn⟩
 rintro ⟨n,hn⟩
 exact ⟨n+1,by simp only [mB,h];exact hn⟩
theorem aI {body:σ->Option (Step σ ρ)} {x:σ} {r:ρ} (h:body x=afb (.done r)):aE body x=afb r:=
 wH.2 ⟨1,by simp only [mB,h]⟩
end
end Go.Vm
namespace Go.Proofs.YtclphlgnjkajbaaGreat
open Go.Vm
noncomputable def uD (p0:Field):Option Field:=
 (cD p0.am).bind fun l0=>
 afb (Field.mk l0)
noncomputable def uE (p0:aX):Option aX:=
 (cD p0.ce).bind fun l0=>
 afb (aX.mk p0.ay l0)
noncomputable def qC (p0:aQ):Option aQ:=
 (cD p0.au).bind fun l0=>
 (cD p0.be).bind fun l1=>
 (cD p0.bi).bind fun l2=>
 afb (aQ.mk l0 l1 l2)
noncomputable def nN (p0:aF):Option aF:=
 (qC p0.ae).bind fun r0=>
 (cD p0.bv).bind fun l1=>
 (cD p0.aj).bind fun l2=>
 afb (aF.mk r0 l1 l2)
noncomputable def nO (p0:aG):Option aG:=
 (uD p0.ii).bind fun r0=>
 (uE p0.af).bind fun r1=>
 (nN p0.aa).bind fun r2=>
 (cD p0.io).bind fun l3=>
 afb (aG.mk p0.ci r0 r1 r2 l3)
noncomputable def rE (s:((List (Int×Int))×Int×Int×Int)):Option (Step ((List (Int×Int))×Int×Int×Int) Bool):=
 bif afl (s.2.1<(v6 (afa s.1))) then
  (aK s.1 s.2.1).bind fun a0=>
  bif (a0.1==s.2.2.1)&&(a0.2==s.2.2.2) then
   afb (.done afd)
  else
   afb (.next (s.1,ai .i64 (s.2.1+1),s.2.2))
 else
  afb (.done afk)
noncomputable def DO (p0:List (Int×Int)) (p1:Int×Int):Option Bool:=
 aE rE (p0,0,p1)
noncomputable def iQ (s:(Int×Int×Int×(List (Int×Int×Int))×Int×Int×(List (Int×Int×Int)))):Option (Step (Int×Int×Int×(List (Int×Int×Int))×Int×Int×(List (Int×Int×Int))) aX):=
 bif afl (s.2.1<(v6 (afa s.2.2.2.1))) then
  (aK s.2.2.2.1 s.2.1).bind fun a0=>
  bif a0.1 !=s.1 then
   (aK s.2.2.2.1 s.2.1).bind fun a1=>
   (bu s.2.2.2.2.2.2 [a1]).bind fun l2=>
   afb (.next (s.1,ai .i64 (s.2.1+1),s.2.2.1,s.2.2.2.1,s.2.2.2.2.1,s.2.2.2.2.2.1,l2))
  else
   afb (.next (s.1,ai .i64 (s.2.1+1),s.2.2))
 else
  afb (.done (aX.mk s.2.2.2.2.2.1 s.2.2.2.2.2.2))
noncomputable def sm (p0:aX) (p1:Int):Option aX:=
 aE iQ (p1,0,p0.ay,p0.ce,0,p0.ay,[])
noncomputable def mY (s:(Int×Int×Int×Int×(List (Int×Int×Int))×Int×(List (Int×Int×Int))×(List Int)×(List Bool)×(List Int)×(List (Int×Int×Int×Int×Int))×(List Int)×(List (Int×Int×Int)))):Option (Step (Int×Int×Int×Int×(List (Int×Int×Int))×Int×(List (Int×Int×Int))×(List Int)×(List Bool)×(List Int)×(List (Int×Int×Int×Int×Int))×(List Int)×(List (Int×Int×Int))) Int):=
 bif afl (s.2.1<(v6 (afa s.2.2.2.2.2.2.2.2.2.2.2.2))) then
  (aK s.2.2.2.2.2.2.2.2.2.2.2.2 s.2.1).bind fun a0=>
  bif a0.1==s.1 then
   afb (.done s.2.1)
  else
   afb (.next (s.1,ai .i64 (s.2.1+1),s.2.2))
 else
  afb (.done (-1))
noncomputable def o4 (p0:aG) (p1:Int):Option Int:=
 aE mY (p1,0,p0.ci.1,p0.ci.2,p0.ii.am,p0.af.ay,p0.af.ce,p0.aa.ae.au,p0.aa.ae.be,p0.aa.ae.bi,p0.aa.bv,p0.aa.aj,p0.io)
noncomputable def o5 (p0:aQ) (p1:Int×Int):Option aQ:=
 (qC p0).bind fun r0=>
 (aK r0.be p1.1).bind fun b1=>
 (bu r0.bi [p1.1]).bind fun l2=>
 afb (aQ.mk r0.au (cb r0.be p1.1 afk) l2)
noncomputable def ft (a:(Int×Int×(List Int)×(List Bool)×(List Int)×(List (Int×Int×Int×Int×Int))×(List Int))):Option ((List Int)×(List Bool)×(List Int)×(List (Int×Int×Int×Int×Int))×(List Int)):=
 (aK a.2.2.2.2.2.1 a.2.1).bind fun a0=>
 (aK a.2.2.2.2.2.1 a.1).bind fun a1=>
 (aK a.2.2.2.2.2.1 a.1).bind fun a2=>
 (aK (cb a.2.2.2.2.2.1 a.1 a0) a.2.1).bind fun a3=>
 (aK (cb (cb a.2.2.2.2.2.1 a.1 a0) a.2.1 a1) a.1).bind fun a4=>
 (aK (cb (cb a.2.2.2.2.2.1 a.1 a0) a.2.1 a1) a.2.1).bind fun a5=>
 (aK a.2.2.2.2.2.2 a4.2.2.2.1).bind fun n6=>
 (aK (cb a.2.2.2.2.2.2 a4.2.2.2.1 a.1) a5.2.2.2.1).bind fun n7=>
 bif (afa a.2.2.1)==(afa a.2.2.1) then
  bif (afa a.2.2.2.1)==(afa a.2.2.2.1) then
   bif (afa a.2.2.2.2.1)==(afa a.2.2.2.2.1) then
    bif ((cb (cb a.2.2.2.2.2.1 a.1 a0) a.2.1 a1).length)==(afa a.2.2.2.2.2.1) then
     bif ((cb (cb a.2.2.2.2.2.2 a4.2.2.2.1 a.1) a5.2.2.2.1 a.2.1).length)==(afa a.2.2.2.2.2.2) then
      afb (a.2.2.1,a.2.2.2.1,a.2.2.2.2.1,cb (cb a.2.2.2.2.2.1 a.1 a0) a.2.1 a1,cb (cb a.2.2.2.2.2.2 a4.2.2.2.1 a.1) a5.2.2.2.1 a.2.1)
     else
      afc
    else
     afc
   else
    afc
  else
   afc
 else
  afc
noncomputable def gp (a:((List Int)×(List Bool)×(List Int)×Nat×Nat×Int×Int×(List (Int×Int×Int×Int×Int))×(List Int))):Option ((List (Int×Int×Int×Int×Int))×(List Int)):=
 (aK (a.2.2.2.2.2.2.2.1.take a.2.2.2.1) a.2.2.2.2.2.2.1).bind fun a0=>
 (aK (a.2.2.2.2.2.2.2.1.take a.2.2.2.1) a.2.2.2.2.2.1).bind fun a1=>
 (aK (a.2.2.2.2.2.2.2.1.take a.2.2.2.1) a.2.2.2.2.2.1).bind fun a2=>
 (aK ((cb a.2.2.2.2.2.2.2.1 a.2.2.2.2.2.1 a0).take a.2.2.2.1) a.2.2.2.2.2.2.1).bind fun a3=>
 (aK ((cb (cb a.2.2.2.2.2.2.2.1 a.2.2.2.2.2.1 a0) a.2.2.2.2.2.2.1 a1).take a.2.2.2.1) a.2.2.2.2.2.1).bind fun a4=>
 (aK ((cb (cb a.2.2.2.2.2.2.2.1 a.2.2.2.2.2.1 a0) a.2.2.2.2.2.2.1 a1).take a.2.2.2.1) a.2.2.2.2.2.2.1).bind fun a5=>
 (aK a.2.2.2.2.2.2.2.2 a4.2.2.2.1).bind fun n6=>
 (aK (cb a.2.2.2.2.2.2.2.2 a4.2.2.2.1 a.2.2.2.2.2.1) a5.2.2.2.1).bind fun n7=>
 bif ((cb (cb a.2.2.2.2.2.2.2.1 a.2.2.2.2.2.1 a0) a.2.2.2.2.2.2.1 a1).length)==(afa a.2.2.2.2.2.2.2.1) then
  bif ((cb (cb a.2.2.2.2.2.2.2.2 a4.2.2.2.1 a.2.2.2.2.2.1) a5.2.2.2.1 a.2.2.2.2.2.2.1).length)==(afa a.2.2.2.2.2.2.2.2) then
   afb (cb (cb a.2.2.2.2.2.2.2.1 a.2.2.2.2.2.1 a0) a.2.2.2.2.2.2.1 a1,cb (cb a.2.2.2.2.2.2.2.2 a4.2.2.2.1 a.2.2.2.2.2.1) a5.2.2.2.1 a.2.2.2.2.2.2.1)
  else
   afc
 else
  afc
noncomputable def fL (c0:((List Int)×(List Bool)×(List Int)×Nat×Nat×Int×(List (Int×Int×Int×Int×Int))×(List Int))) (s:(Int×(List (Int×Int×Int×Int×Int))×(List Int)×(List Int)×(List Bool)×(List Int)×Nat×Nat)):Option (Step (Int×(List (Int×Int×Int×Int×Int))×(List Int)×(List Int)×(List Bool)×(List Int)×Nat×Nat) (Int×(List (Int×Int×Int×Int×Int))×(List Int))):=
 bif afl (0<s.1) then
  (aK (s.2.1.take s.2.2.2.2.2.2.1) s.1).bind fun a0=>
  (aK (s.2.1.take s.2.2.2.2.2.2.1) (ai .i64 (acl (ai .i64 (s.1-1)) 2))).bind fun a1=>
  (dE a0 a1).bind fun b2=>
  bif b2 then
   (gp (s.2.2.2.1,s.2.2.2.2.1,s.2.2.2.2.2.1,s.2.2.2.2.2.2.1,s.2.2.2.2.2.2.2,s.1,ai .i64 (acl (ai .i64 (s.1-1)) 2),s.2.1,s.2.2.1)).bind fun a3=>
   afb (.next (ai .i64 (acl (ai .i64 (s.1-1)) 2),a3.1,a3.2,s.2.2.2))
  else
   bif (afa s.2.1)==(afa c0.2.2.2.2.2.2.1) then
    bif (afa s.2.2.1)==(afa c0.2.2.2.2.2.2.2) then
     afb (.done (s.1,s.2.1,s.2.2.1))
    else
     afc
   else
    afc
 else
  bif (afa s.2.1)==(afa c0.2.2.2.2.2.2.1) then
   bif (afa s.2.2.1)==(afa c0.2.2.2.2.2.2.2) then
    afb (.done (s.1,s.2.1,s.2.2.1))
   else
    afc
  else
   afc
noncomputable def mZ (a:((List Int)×(List Bool)×(List Int)×Nat×Nat×Int×(List (Int×Int×Int×Int×Int))×(List Int))):Option (Int×(List (Int×Int×Int×Int×Int))×(List Int)):=
 aE (fL a) (a.2.2.2.2.2.1,a.2.2.2.2.2.2.1,a.2.2.2.2.2.2.2,a.1,a.2.1,a.2.2.1,a.2.2.2.1,a.2.2.2.2.1)
noncomputable def iy (c0:((List Int)×(List Bool)×(List Int)×Nat×Nat×Int×(List (Int×Int×Int×Int×Int))×(List Int))) (s:(Int×(List (Int×Int×Int×Int×Int))×(List Int)×(List Int)×(List Bool)×(List Int)×Nat×Nat)):Option (Step (Int×(List (Int×Int×Int×Int×Int))×(List Int)×(List Int)×(List Bool)×(List Int)×Nat×Nat) ((List (Int×Int×Int×Int×Int))×(List Int))):=
 match s with
 |(a,b,d,e,f,g,h,i)=>
  bif afl ((v6 h)<=(ai .i64 ((ai .i64 (2*a))+1))) then
   bif (afa b)==(afa c0.2.2.2.2.2.2.1) then
    bif (afa d)==(afa c0.2.2.2.2.2.2.2) then
     afb (.done (b,d))
    else
     afc
   else
    afc
  else
   bif afl ((ai .i64 ((ai .i64 ((ai .i64 (2*a))+1))+1))<(v6 h)) then
    (aK (b.take h) (ai .i64 ((ai .i64 ((ai .i64 (2*a))+1))+1))).bind fun a0=>
    (aK (b.take h) (ai .i64 ((ai .i64 (2*a))+1))).bind fun a1=>
    (dE a0 a1).bind fun b2=>
    bif b2 then
     (aK (b.take h) (ai .i64 ((ai .i64 ((ai .i64 (2*a))+1))+1))).bind fun a3=>
     (aK (b.take h) a).bind fun a4=>
     (dE a3 a4).bind fun b5=>
     bif !b5 then
      bif (afa b)==(afa c0.2.2.2.2.2.2.1) then
       bif (afa d)==(afa c0.2.2.2.2.2.2.2) then
        afb (.done (b,d))
       else
        afc
      else
       afc
     else
      (gp (e,f,g,h,i,a,ai .i64 ((ai .i64 ((ai .i64 (2*a))+1))+1),b,d)).bind fun a6=>
      afb (.next (ai .i64 ((ai .i64 ((ai .i64 (2*a))+1))+1),a6.1,a6.2,(e,f,g,h,i)))
    else
     (aK (b.take h) (ai .i64 ((ai .i64 (2*a))+1))).bind fun a7=>
     (aK (b.take h) a).bind fun a8=>
     (dE a7 a8).bind fun b9=>
     bif !b9 then
      bif (afa b)==(afa c0.2.2.2.2.2.2.1) then
       bif (afa d)==(afa c0.2.2.2.2.2.2.2) then
        afb (.done (b,d))
       else
        afc
      else
       afc
     else
      (gp (e,f,g,h,i,a,ai .i64 ((ai .i64 (2*a))+1),b,d)).bind fun x3=>
      afb (.next (ai .i64 ((ai .i64 (2*a))+1),x3.1,x3.2,(e,f,g,h,i)))
   else
    (aK (b.take h) (ai .i64 ((ai .i64 (2*a))+1))).bind fun Ap=>
    (aK (b.take h) a).bind fun IE=>
    (dE Ap IE).bind fun b13=>
    bif !b13 then
     bif (afa b)==(afa c0.2.2.2.2.2.2.1) then
      bif (afa d)==(afa c0.2.2.2.2.2.2.2) then
       afb (.done (b,d))
      else
       afc
     else
      afc
    else
     (gp (e,f,g,h,i,a,ai .i64 ((ai .i64 (2*a))+1),b,d)).bind fun Ow=>
     afb (.next (ai .i64 ((ai .i64 (2*a))+1),Ow.1,Ow.2,(e,f,g,h,i)))
noncomputable def kL (a:((List Int)×(List Bool)×(List Int)×Nat×Nat×Int×(List (Int×Int×Int×Int×Int))×(List Int))):Option ((List (Int×Int×Int×Int×Int))×(List Int)):=
 aE (iy a) (a.2.2.2.2.2.1,a.2.2.2.2.2.2.1,a.2.2.2.2.2.2.2,a.1,a.2.1,a.2.2.1,a.2.2.2.1,a.2.2.2.2.1)
noncomputable def jJ (p0:aF) (p1:Int×Int):Option aF:=
 (nN p0).bind fun r0=>
 (aK r0.aj p1.1).bind fun n1=>
 bif n1 !=(ai .i64 ((v6 (afa r0.bv)) -1)) then
  (ft (n1,ai .i64 ((v6 (afa r0.bv)) -1),r0.ae.au,r0.ae.be,r0.ae.bi,r0.bv,r0.aj)).bind fun a2=>
  (hM a2.2.2.2.1 0 (ai .i64 ((v6 (afa r0.bv)) -1))).bind fun l3=>
  (aK a2.2.2.2.2 p1.1).bind fun n4=>
  (o5 (aQ.mk a2.1 a2.2.1 a2.2.2.1) p1).bind fun r5=>
  bif n1 !=(ai .i64 ((v6 (afa r0.bv)) -1)) then
   (mZ (r5.au,r5.be,r5.bi,(ai .i64 ((v6 (afa r0.bv)) -1)).toNat,afa a2.2.2.2.1,n1,a2.2.2.2.1,cb a2.2.2.2.2 p1.1 (-1))).bind fun a6=>
   (kL (r5.au,r5.be,r5.bi,(ai .i64 ((v6 (afa r0.bv)) -1)).toNat,afa a2.2.2.2.1,a6)).bind fun a7=>
   afb (aF.mk r5 (a7.1.take ((ai .i64 ((v6 (afa r0.bv)) -1)).toNat)) a7.2)
  else
   afb (aF.mk r5 (a2.2.2.2.1.take ((ai .i64 ((v6 (afa r0.bv)) -1)).toNat)) (cb a2.2.2.2.2 p1.1 (-1)))
 else
  (hM r0.bv 0 (ai .i64 ((v6 (afa r0.bv)) -1))).bind fun l8=>
  (aK r0.aj p1.1).bind fun n9=>
  (o5 r0.ae p1).bind fun Y0=>
  bif n1 !=(ai .i64 ((v6 (afa r0.bv)) -1)) then
   (mZ (Y0.au,Y0.be,Y0.bi,(ai .i64 ((v6 (afa r0.bv)) -1)).toNat,afa r0.bv,n1,r0.bv,cb r0.aj p1.1 (-1))).bind fun Ap=>
   (kL (Y0.au,Y0.be,Y0.bi,(ai .i64 ((v6 (afa r0.bv)) -1)).toNat,afa r0.bv,Ap)).bind fun IE=>
   afb (aF.mk Y0 (IE.1.take ((ai .i64 ((v6 (afa r0.bv)) -1)).toNat)) IE.2)
  else
   afb (aF.mk Y0 (r0.bv.take ((ai .i64 ((v6 (afa r0.bv)) -1)).toNat)) (cb r0.aj p1.1 (-1)))
noncomputable def nP (p0:aG) (p1:Int):Option aG:=
 (nO p0).bind fun r0=>
 (sm p0.af p1).bind fun r1=>
 (o4 p0 p1).bind fun n2=>
 bif afl (0<=n2) then
  (aK p0.io n2).bind fun a3=>
  (jJ p0.aa a3.2).bind fun r4=>
  (hM p0.io 0 n2).bind fun l5=>
  (cD l5).bind fun l6=>
  (hM p0.io (ai .i64 (n2+1)) (v6 (afa p0.io))).bind fun l7=>
  bif l7.isEmpty then
   afb (aG.mk r0.ci r0.ii r1 r4 l6)
  else
   (bu l6 l7).bind fun l8=>
   afb (aG.mk r0.ci r0.ii r1 r4 l8)
 else
  afb (aG.mk r0.ci r0.ii r1 r0.aa r0.io)
noncomputable def fM (c0:(Int×(List Int)×(List Bool)×(List Int)×(List (Int×Int×Int×Int×Int))×(List Int))) (s:(Int×(List Int)×(List Bool)×(List Int)×(List (Int×Int×Int×Int×Int))×(List Int))):Option (Step (Int×(List Int)×(List Bool)×(List Int)×(List (Int×Int×Int×Int×Int))×(List Int)) (Int×(List Int)×(List Bool)×(List Int)×(List (Int×Int×Int×Int×Int))×(List Int))):=
 bif afl (0<s.1) then
  (aK s.2.2.2.2.1 s.1).bind fun a0=>
  (aK s.2.2.2.2.1 (ai .i64 (acl (ai .i64 (s.1-1)) 2))).bind fun a1=>
  (dE a0 a1).bind fun b2=>
  bif b2 then
   (ft (s.1,ai .i64 (acl (ai .i64 (s.1-1)) 2),s.2)).bind fun a3=>
   afb (.next (ai .i64 (acl (ai .i64 (s.1-1)) 2),a3))
  else
   bif (afa s.2.1)==(afa c0.2.1) then
    bif (afa s.2.2.1)==(afa c0.2.2.1) then
     bif (afa s.2.2.2.1)==(afa c0.2.2.2.1) then
      bif (afa s.2.2.2.2.1)==(afa c0.2.2.2.2.1) then
       bif (afa s.2.2.2.2.2)==(afa c0.2.2.2.2.2) then
        afb (.done s)
       else
        afc
      else
       afc
     else
      afc
    else
     afc
   else
    afc
 else
  bif (afa s.2.1)==(afa c0.2.1) then
   bif (afa s.2.2.1)==(afa c0.2.2.1) then
    bif (afa s.2.2.2.1)==(afa c0.2.2.2.1) then
     bif (afa s.2.2.2.2.1)==(afa c0.2.2.2.2.1) then
      bif (afa s.2.2.2.2.2)==(afa c0.2.2.2.2.2) then
       afb (.done s)
      else
       afc
     else
      afc
    else
     afc
   else
    afc
  else
   afc
noncomputable def qD (a:(Int×(List Int)×(List Bool)×(List Int)×(List (Int×Int×Int×Int×Int))×(List Int))):Option (Int×(List Int)×(List Bool)×(List Int)×(List (Int×Int×Int×Int×Int))×(List Int)):=
 aE (fM a) a
noncomputable def iz (c0:(Int×(List Int)×(List Bool)×(List Int)×(List (Int×Int×Int×Int×Int))×(List Int))) (s:(Int×(List Int)×(List Bool)×(List Int)×(List (Int×Int×Int×Int×Int))×(List Int))):Option (Step (Int×(List Int)×(List Bool)×(List Int)×(List (Int×Int×Int×Int×Int))×(List Int)) ((List Int)×(List Bool)×(List Int)×(List (Int×Int×Int×Int×Int))×(List Int))):=
 bif afl ((v6 (afa s.2.2.2.2.1))<=(ai .i64 ((ai .i64 (2*s.1))+1))) then
  bif (afa s.2.1)==(afa c0.2.1) then
   bif (afa s.2.2.1)==(afa c0.2.2.1) then
    bif (afa s.2.2.2.1)==(afa c0.2.2.2.1) then
     bif (afa s.2.2.2.2.1)==(afa c0.2.2.2.2.1) then
      bif (afa s.2.2.2.2.2)==(afa c0.2.2.2.2.2) then
       afb (.done s.2)
      else
       afc
     else
      afc
    else
     afc
   else
    afc
  else
   afc
 else
  bif afl ((ai .i64 ((ai .i64 ((ai .i64 (2*s.1))+1))+1))<(v6 (afa s.2.2.2.2.1))) then
   (aK s.2.2.2.2.1 (ai .i64 ((ai .i64 ((ai .i64 (2*s.1))+1))+1))).bind fun a0=>
   (aK s.2.2.2.2.1 (ai .i64 ((ai .i64 (2*s.1))+1))).bind fun a1=>
   (dE a0 a1).bind fun b2=>
   bif b2 then
    (aK s.2.2.2.2.1 (ai .i64 ((ai .i64 ((ai .i64 (2*s.1))+1))+1))).bind fun a3=>
    (aK s.2.2.2.2.1 s.1).bind fun a4=>
    (dE a3 a4).bind fun b5=>
    bif !b5 then
     bif (afa s.2.1)==(afa c0.2.1) then
      bif (afa s.2.2.1)==(afa c0.2.2.1) then
       bif (afa s.2.2.2.1)==(afa c0.2.2.2.1) then
        bif (afa s.2.2.2.2.1)==(afa c0.2.2.2.2.1) then
         bif (afa s.2.2.2.2.2)==(afa c0.2.2.2.2.2) then
          afb (.done s.2)
         else
          afc
        else
         afc
       else
        afc
      else
       afc
     else
      afc
    else
     (ft (s.1,ai .i64 ((ai .i64 ((ai .i64 (2*s.1))+1))+1),s.2)).bind fun a6=>
     afb (.next (ai .i64 ((ai .i64 ((ai .i64 (2*s.1))+1))+1),a6))
   else
    (aK s.2.2.2.2.1 (ai .i64 ((ai .i64 (2*s.1))+1))).bind fun a7=>
    (aK s.2.2.2.2.1 s.1).bind fun a8=>
    (dE a7 a8).bind fun b9=>
    bif !b9 then
     bif (afa s.2.1)==(afa c0.2.1) then
      bif (afa s.2.2.1)==(afa c0.2.2.1) then
       bif (afa s.2.2.2.1)==(afa c0.2.2.2.1) then
        bif (afa s.2.2.2.2.1)==(afa c0.2.2.2.2.1) then
         bif (afa s.2.2.2.2.2)==(afa c0.2.2.2.2.2) then
          afb (.done s.2)
         else
          afc
        else
         afc
       else
        afc
      else
       afc
     else
      afc
    else
     (ft (s.1,ai .i64 ((ai .i64 (2*s.1))+1),s.2)).bind fun x3=>
     afb (.next (ai .i64 ((ai .i64 (2*s.1))+1),x3))
  else
   (aK s.2.2.2.2.1 (ai .i64 ((ai .i64 (2*s.1))+1))).bind fun Ap=>
   (aK s.2.2.2.2.1 s.1).bind fun IE=>
   (dE Ap IE).bind fun b13=>
   bif !b13 then
    bif (afa s.2.1)==(afa c0.2.1) then
     bif (afa s.2.2.1)==(afa c0.2.2.1) then
      bif (afa s.2.2.2.1)==(afa c0.2.2.2.1) then
       bif (afa s.2.2.2.2.1)==(afa c0.2.2.2.2.1) then
        bif (afa s.2.2.2.2.2)==(afa c0.2.2.2.2.2) then
         afb (.done s.2)
        else
         afc
       else
        afc
      else
       afc
     else
      afc
    else
     afc
   else
    (ft (s.1,ai .i64 ((ai .i64 (2*s.1))+1),s.2)).bind fun Ow=>
    afb (.next (ai .i64 ((ai .i64 (2*s.1))+1),Ow))
noncomputable def nQ (a:(Int×(List Int)×(List Bool)×(List Int)×(List (Int×Int×Int×Int×Int))×(List Int))):Option ((List Int)×(List Bool)×(List Int)×(List (Int×Int×Int×Int×Int))×(List Int)):=
 aE (iz a) a
noncomputable def sq (p0:aF) (p1:Int×Int) (p2:Int×Int):Option aF:=
 (nN p0).bind fun r0=>
 (aK r0.aj p1.1).bind fun n1=>
 (aK r0.bv n1).bind fun a2=>
 (qD (n1,r0.ae.au,r0.ae.be,r0.ae.bi,cb r0.bv n1 (p2.1,p2.2,a2.2.2),r0.aj)).bind fun a3=>
 (nQ a3).bind fun a4=>
 afb (aF.mk (aQ.mk a4.1 a4.2.1 a4.2.2.1) a4.2.2.2.1 a4.2.2.2.2)
noncomputable def fU (p0:aQ):Option Bool:=
 bif afl (0<(v6 (afa p0.bi))) then
  (aK p0.bi (ai .i64 ((v6 (afa p0.bi)) -1))).bind fun n0=>
  (aK p0.au n0).bind fun n1=>
  afb (afl (n1<1000000))
 else
  afb afk
noncomputable def wI (p0:aQ):Option (aQ×(Int×Int)):=
 (qC p0).bind fun r0=>
 (aK r0.bi (ai .i64 ((v6 (afa r0.bi)) -1))).bind fun n1=>
 (hM r0.bi 0 (ai .i64 ((v6 (afa r0.bi)) -1))).bind fun l2=>
 (aK r0.au n1).bind fun n3=>
 (aK r0.au n1).bind fun n4=>
 (aK r0.be n1).bind fun b5=>
 (aK (cb r0.au n1 (ai .i64 (n3+1))) n1).bind fun n6=>
 afb (aQ.mk (cb r0.au n1 (ai .i64 (n3+1))) (cb r0.be n1 afd) (r0.bi.take ((ai .i64 ((v6 (afa r0.bi)) -1)).toNat)),n1,n6)
noncomputable def nR (a:((List Int)×(List Bool)×(List Int)×Int×Int×(List (Int×Int×Int×Int×Int))×(List Int))):Option ((List (Int×Int×Int×Int×Int))×(List Int)):=
 (aK a.2.2.2.2.2.1 a.2.2.2.2.1).bind fun a0=>
 (aK a.2.2.2.2.2.1 a.2.2.2.1).bind fun a1=>
 (aK a.2.2.2.2.2.1 a.2.2.2.1).bind fun a2=>
 (aK (cb a.2.2.2.2.2.1 a.2.2.2.1 a0) a.2.2.2.2.1).bind fun a3=>
 (aK (cb (cb a.2.2.2.2.2.1 a.2.2.2.1 a0) a.2.2.2.2.1 a1) a.2.2.2.1).bind fun a4=>
 (aK (cb (cb a.2.2.2.2.2.1 a.2.2.2.1 a0) a.2.2.2.2.1 a1) a.2.2.2.2.1).bind fun a5=>
 (aK a.2.2.2.2.2.2 a4.2.2.2.1).bind fun n6=>
 (aK (cb a.2.2.2.2.2.2 a4.2.2.2.1 a.2.2.2.1) a5.2.2.2.1).bind fun n7=>
 bif ((cb (cb a.2.2.2.2.2.1 a.2.2.2.1 a0) a.2.2.2.2.1 a1).length)==(afa a.2.2.2.2.2.1) then
  bif ((cb (cb a.2.2.2.2.2.2 a4.2.2.2.1 a.2.2.2.1) a5.2.2.2.1 a.2.2.2.2.1).length)==(afa a.2.2.2.2.2.2) then
   afb (cb (cb a.2.2.2.2.2.1 a.2.2.2.1 a0) a.2.2.2.2.1 a1,cb (cb a.2.2.2.2.2.2 a4.2.2.2.1 a.2.2.2.1) a5.2.2.2.1 a.2.2.2.2.1)
  else
   afc
 else
  afc
noncomputable def fN (c0:((List Int)×(List Bool)×(List Int)×Int×(List (Int×Int×Int×Int×Int))×(List Int))) (s:(Int×(List (Int×Int×Int×Int×Int))×(List Int)×(List Int)×(List Bool)×(List Int))):Option (Step (Int×(List (Int×Int×Int×Int×Int))×(List Int)×(List Int)×(List Bool)×(List Int)) (Int×(List (Int×Int×Int×Int×Int))×(List Int))):=
 bif afl (0<s.1) then
  (aK s.2.1 s.1).bind fun a0=>
  (aK s.2.1 (ai .i64 (acl (ai .i64 (s.1-1)) 2))).bind fun a1=>
  (dE a0 a1).bind fun b2=>
  bif b2 then
   (nR (s.2.2.2.1,s.2.2.2.2.1,s.2.2.2.2.2,s.1,ai .i64 (acl (ai .i64 (s.1-1)) 2),s.2.1,s.2.2.1)).bind fun a3=>
   afb (.next (ai .i64 (acl (ai .i64 (s.1-1)) 2),a3.1,a3.2,s.2.2.2))
  else
   bif (afa s.2.1)==(afa c0.2.2.2.2.1) then
    bif (afa s.2.2.1)==(afa c0.2.2.2.2.2) then
     afb (.done (s.1,s.2.1,s.2.2.1))
    else
     afc
   else
    afc
 else
  bif (afa s.2.1)==(afa c0.2.2.2.2.1) then
   bif (afa s.2.2.1)==(afa c0.2.2.2.2.2) then
    afb (.done (s.1,s.2.1,s.2.2.1))
   else
    afc
  else
   afc
noncomputable def qE (a:((List Int)×(List Bool)×(List Int)×Int×(List (Int×Int×Int×Int×Int))×(List Int))):Option (Int×(List (Int×Int×Int×Int×Int))×(List Int)):=
 aE (fN a) (a.2.2.2.1,a.2.2.2.2.1,a.2.2.2.2.2,a.1,a.2.1,a.2.2.1)
noncomputable def ee (p0:aF) (p1:Int×Int) (p2:Int):Option (aF×(Int×Int)):=
 (nN p0).bind fun r0=>
 (wI r0.ae).bind fun a1=>
 (bu r0.bv [(p1.1,p1.2,p2,a1.2)]).bind fun l2=>
 (aK r0.aj a1.2.1).bind fun n3=>
 (qE (a1.1.au,a1.1.be,a1.1.bi,ai .i64 ((v6 (afa l2)) -1),l2,cb r0.aj a1.2.1 (ai .i64 ((v6 (afa l2)) -1)))).bind fun a4=>
 afb (aF.mk a1.1 a4.2.1 a4.2.2,a1.2)
noncomputable def cm (s:(Int×Int×Int×(List (Int×Int×Int))×Int×(List (Int×Int×Int))×(List Int)×(List Bool)×(List Int)×(List (Int×Int×Int×Int×Int))×(List Int)×(List (Int×Int×Int))×(List (Int×Int×Int))×Int×Int×Int×Int×Int×(List (Int×Int×Int))×Int×(List (Int×Int×Int))×(List Int)×(List Bool)×(List Int)×(List (Int×Int×Int×Int×Int))×(List Int)×(List (Int×Int×Int)))):Option (Step (Int×Int×Int×(List (Int×Int×Int))×Int×(List (Int×Int×Int))×(List Int)×(List Bool)×(List Int)×(List (Int×Int×Int×Int×Int))×(List Int)×(List (Int×Int×Int))×(List (Int×Int×Int))×Int×Int×Int×Int×Int×(List (Int×Int×Int))×Int×(List (Int×Int×Int))×(List Int)×(List Bool)×(List Int)×(List (Int×Int×Int×Int×Int))×(List Int)×(List (Int×Int×Int))) (aG×Int)):=
 match s with
 |(a,b,d,e,f,g,h,i,j,k,l,m,n,o,q,r,t,u,v,w,x,y,z,A,B,C,D)=>
  bif afl (a<(v6 (afa g))) then
   (aK g a).bind fun a0=>
   (o4 (aG.mk (b,d) (Field.mk e) (aX.mk f g) (aF.mk (aQ.mk h i j) k l) m) a0.1).bind fun n1=>
   (nG (Field.mk n) a0.2 (b,d)).bind fun a2=>
   bif a2.2 then
    bif afl (0<=n1) then
     (aK m n1).bind fun a3=>
     (sq (aF.mk (aQ.mk y z A) B C) a3.2 a2.1).bind fun r4=>
     (aK m n1).bind fun a5=>
     (bu D [a5]).bind fun l6=>
     bif !a2.2 then
      bif afl (0<=n1) then
       (aK m n1).bind fun a7=>
       (jJ r4 a7.2).bind fun r8=>
       bif !a2.2 then
        afb (.next (ai .i64 (a+1),b,d,e,f,g,h,i,j,k,l,m,n,o,q,r,t,u,v,w,x,r8.ae.au,r8.ae.be,r8.ae.bi,r8.bv,r8.aj,l6))
       else
        bif afl (0<=n1) then
         afb (.next (ai .i64 (a+1),b,d,e,f,g,h,i,j,k,l,m,n,o,q,r,t,u,v,w,x,r8.ae.au,r8.ae.be,r8.ae.bi,r8.bv,r8.aj,l6))
        else
         (fU r8.ae).bind fun b9=>
         bif !b9 then
          afb (.done (aG.mk (0,0) (Field.mk []) (aX.mk 0 []) (aF.mk (aQ.mk [] [] []) [] []) [],18))
         else
          (ee r8 a2.1 a0.1).bind fun x3=>
          (bu l6 [(a0.1,x3.2)]).bind fun l11=>
          afb (.next (ai .i64 (a+1),b,d,e,f,g,h,i,j,k,l,m,n,o,q,r,t,u,v,w,x,x3.1.ae.au,x3.1.ae.be,x3.1.ae.bi,x3.1.bv,x3.1.aj,l11))
      else
       bif !a2.2 then
        afb (.next (ai .i64 (a+1),b,d,e,f,g,h,i,j,k,l,m,n,o,q,r,t,u,v,w,x,r4.ae.au,r4.ae.be,r4.ae.bi,r4.bv,r4.aj,l6))
       else
        bif afl (0<=n1) then
         afb (.next (ai .i64 (a+1),b,d,e,f,g,h,i,j,k,l,m,n,o,q,r,t,u,v,w,x,r4.ae.au,r4.ae.be,r4.ae.bi,r4.bv,r4.aj,l6))
        else
         (fU r4.ae).bind fun b12=>
         bif !b12 then
          afb (.done (aG.mk (0,0) (Field.mk []) (aX.mk 0 []) (aF.mk (aQ.mk [] [] []) [] []) [],18))
         else
          (ee r4 a2.1 a0.1).bind fun Mx=>
          (bu l6 [(a0.1,Mx.2)]).bind fun l14=>
          afb (.next (ai .i64 (a+1),b,d,e,f,g,h,i,j,k,l,m,n,o,q,r,t,u,v,w,x,Mx.1.ae.au,Mx.1.ae.be,Mx.1.ae.bi,Mx.1.bv,Mx.1.aj,l14))
     else
      bif !a2.2 then
       afb (.next (ai .i64 (a+1),b,d,e,f,g,h,i,j,k,l,m,n,o,q,r,t,u,v,w,x,r4.ae.au,r4.ae.be,r4.ae.bi,r4.bv,r4.aj,l6))
      else
       bif afl (0<=n1) then
        afb (.next (ai .i64 (a+1),b,d,e,f,g,h,i,j,k,l,m,n,o,q,r,t,u,v,w,x,r4.ae.au,r4.ae.be,r4.ae.bi,r4.bv,r4.aj,l6))
       else
        (fU r4.ae).bind fun b15=>
        bif !b15 then
         afb (.done (aG.mk (0,0) (Field.mk []) (aX.mk 0 []) (aF.mk (aQ.mk [] [] []) [] []) [],18))
        else
         (ee r4 a2.1 a0.1).bind fun Hb=>
         (bu l6 [(a0.1,Hb.2)]).bind fun l17=>
         afb (.next (ai .i64 (a+1),b,d,e,f,g,h,i,j,k,l,m,n,o,q,r,t,u,v,w,x,Hb.1.ae.au,Hb.1.ae.be,Hb.1.ae.bi,Hb.1.bv,Hb.1.aj,l17))
    else
     bif !a2.2 then
      bif afl (0<=n1) then
       (aK m n1).bind fun XD=>
       (jJ (aF.mk (aQ.mk y z A) B C) XD.2).bind fun Ox=>
       bif !a2.2 then
        afb (.next (ai .i64 (a+1),b,d,e,f,g,h,i,j,k,l,m,n,o,q,r,t,u,v,w,x,Ox.ae.au,Ox.ae.be,Ox.ae.bi,Ox.bv,Ox.aj,D))
       else
        bif afl (0<=n1) then
         afb (.next (ai .i64 (a+1),b,d,e,f,g,h,i,j,k,l,m,n,o,q,r,t,u,v,w,x,Ox.ae.au,Ox.ae.be,Ox.ae.bi,Ox.bv,Ox.aj,D))
        else
         (fU Ox.ae).bind fun b20=>
         bif !b20 then
          afb (.done (aG.mk (0,0) (Field.mk []) (aX.mk 0 []) (aF.mk (aQ.mk [] [] []) [] []) [],18))
         else
          (ee Ox a2.1 a0.1).bind fun a21=>
          (bu D [(a0.1,a21.2)]).bind fun l22=>
          afb (.next (ai .i64 (a+1),b,d,e,f,g,h,i,j,k,l,m,n,o,q,r,t,u,v,w,x,a21.1.ae.au,a21.1.ae.be,a21.1.ae.bi,a21.1.bv,a21.1.aj,l22))
      else
       bif !a2.2 then
        afb (.next (ai .i64 (a+1),(b,d,e,f,g,h,i,j,k,l,m,n,o,q,r,t,u,v,w,x,y,z,A,B,C,D)))
       else
        bif afl (0<=n1) then
         afb (.next (ai .i64 (a+1),(b,d,e,f,g,h,i,j,k,l,m,n,o,q,r,t,u,v,w,x,y,z,A,B,C,D)))
        else
         (fU (aQ.mk y z A)).bind fun b23=>
         bif !b23 then
          afb (.done (aG.mk (0,0) (Field.mk []) (aX.mk 0 []) (aF.mk (aQ.mk [] [] []) [] []) [],18))
         else
          (ee (aF.mk (aQ.mk y z A) B C) a2.1 a0.1).bind fun a24=>
          (bu D [(a0.1,a24.2)]).bind fun l25=>
          afb (.next (ai .i64 (a+1),b,d,e,f,g,h,i,j,k,l,m,n,o,q,r,t,u,v,w,x,a24.1.ae.au,a24.1.ae.be,a24.1.ae.bi,a24.1.bv,a24.1.aj,l25))
     else
      bif !a2.2 then
       afb (.next (ai .i64 (a+1),(b,d,e,f,g,h,i,j,k,l,m,n,o,q,r,t,u,v,w,x,y,z,A,B,C,D)))
      else
       bif afl (0<=n1) then
        afb (.next (ai .i64 (a+1),(b,d,e,f,g,h,i,j,k,l,m,n,o,q,r,t,u,v,w,x,y,z,A,B,C,D)))
       else
        (fU (aQ.mk y z A)).bind fun b26=>
        bif !b26 then
         afb (.done (aG.mk (0,0) (Field.mk []) (aX.mk 0 []) (aF.mk (aQ.mk [] [] []) [] []) [],18))
        else
         (ee (aF.mk (aQ.mk y z A) B C) a2.1 a0.1).bind fun a27=>
         (bu D [(a0.1,a27.2)]).bind fun l28=>
         afb (.next (ai .i64 (a+1),b,d,e,f,g,h,i,j,k,l,m,n,o,q,r,t,u,v,w,x,a27.1.ae.au,a27.1.ae.be,a27.1.ae.bi,a27.1.bv,a27.1.aj,l28))
   else
    bif !a2.2 then
     bif afl (0<=n1) then
      (aK m n1).bind fun a29=>
      (jJ (aF.mk (aQ.mk y z A) B C) a29.2).bind fun Mw=>
      bif !a2.2 then
       afb (.next (ai .i64 (a+1),b,d,e,f,g,h,i,j,k,l,m,n,o,q,r,t,u,v,w,x,Mw.ae.au,Mw.ae.be,Mw.ae.bi,Mw.bv,Mw.aj,D))
      else
       bif afl (0<=n1) then
        afb (.next (ai .i64 (a+1),b,d,e,f,g,h,i,j,k,l,m,n,o,q,r,t,u,v,w,x,Mw.ae.au,Mw.ae.be,Mw.ae.bi,Mw.bv,Mw.aj,D))
       else
        (fU Mw.ae).bind fun b31=>
        bif !b31 then
         afb (.done (aG.mk (0,0) (Field.mk []) (aX.mk 0 []) (aF.mk (aQ.mk [] [] []) [] []) [],18))
        else
         (ee Mw a2.1 a0.1).bind fun a32=>
         (bu D [(a0.1,a32.2)]).bind fun l33=>
         afb (.next (ai .i64 (a+1),b,d,e,f,g,h,i,j,k,l,m,n,o,q,r,t,u,v,w,x,a32.1.ae.au,a32.1.ae.be,a32.1.ae.bi,a32.1.bv,a32.1.aj,l33))
     else
      bif !a2.2 then
       afb (.next (ai .i64 (a+1),(b,d,e,f,g,h,i,j,k,l,m,n,o,q,r,t,u,v,w,x,y,z,A,B,C,D)))
      else
       bif afl (0<=n1) then
        afb (.next (ai .i64 (a+1),(b,d,e,f,g,h,i,j,k,l,m,n,o,q,r,t,u,v,w,x,y,z,A,B,C,D)))
       else
        (fU (aQ.mk y z A)).bind fun b34=>
        bif !b34 then
         afb (.done (aG.mk (0,0) (Field.mk []) (aX.mk 0 []) (aF.mk (aQ.mk [] [] []) [] []) [],18))
        else
         (ee (aF.mk (aQ.mk y z A) B C) a2.1 a0.1).bind fun a35=>
         (bu D [(a0.1,a35.2)]).bind fun l36=>
         afb (.next (ai .i64 (a+1),b,d,e,f,g,h,i,j,k,l,m,n,o,q,r,t,u,v,w,x,a35.1.ae.au,a35.1.ae.be,a35.1.ae.bi,a35.1.bv,a35.1.aj,l36))
    else
     bif !a2.2 then
      afb (.next (ai .i64 (a+1),(b,d,e,f,g,h,i,j,k,l,m,n,o,q,r,t,u,v,w,x,y,z,A,B,C,D)))
     else
      bif afl (0<=n1) then
       afb (.next (ai .i64 (a+1),(b,d,e,f,g,h,i,j,k,l,m,n,o,q,r,t,u,v,w,x,y,z,A,B,C,D)))
      else
       (fU (aQ.mk y z A)).bind fun b37=>
       bif !b37 then
        afb (.done (aG.mk (0,0) (Field.mk []) (aX.mk 0 []) (aF.mk (aQ.mk [] [] []) [] []) [],18))
       else
        (ee (aF.mk (aQ.mk y z A) B C) a2.1 a0.1).bind fun a38=>
        (bu D [(a0.1,a38.2)]).bind fun l39=>
        afb (.next (ai .i64 (a+1),b,d,e,f,g,h,i,j,k,l,m,n,o,q,r,t,u,v,w,x,a38.1.ae.au,a38.1.ae.be,a38.1.ae.bi,a38.1.bv,a38.1.aj,l39))
  else
   afb (.done (aG.mk (t,u) (Field.mk v) (aX.mk w x) (aF.mk (aQ.mk y z A) B C) D,0))
noncomputable def k8 (p0:aG) (p1:Field):Option (aG×Int):=
 (nO p0).bind fun r0=>
 (uD p1).bind fun r1=>
 aE cm (0,p0.ci.1,p0.ci.2,p0.ii.am,p0.af.ay,p0.af.ce,p0.aa.ae.au,p0.aa.ae.be,p0.aa.ae.bi,p0.aa.bv,p0.aa.aj,p0.io,p1.am,0,0,0,r0.ci.1,r0.ci.2,r1.am,r0.af.ay,r0.af.ce,r0.aa.ae.au,r0.aa.ae.be,r0.aa.ae.bi,r0.aa.bv,r0.aa.aj,[])
noncomputable def A9 (p0:aX) (p1:Int×Int):Option (aX×Int×Int):=
 (oS p0).bind fun n0=>
 bif n0 !=0 then
  afb (aX.mk 0 [],0,8)
 else
  (qu p1).bind fun b1=>
  bif !b1 then
   afb (aX.mk 0 [],0,8)
  else
   (qe p0 p1).bind fun b2=>
   bif b2 then
    afb (aX.mk 0 [],0,14)
   else
    bif (v6 (afa p0.ce))==200 then
     afb (aX.mk 0 [],0,18)
    else
     bif p0.ay==1000000 then
      afb (aX.mk 0 [],0,18)
     else
      (uE p0).bind fun r3=>
      (bu r3.ce [(p0.ay,p1)]).bind fun l4=>
      afb (aX.mk (ai .i64 (r3.ay+1)) l4,p0.ay,0)
noncomputable def ky (p0:aG) (p1:Int×Int):Option (aG×Int×Int):=
 (A9 p0.af p1).bind fun a0=>
 bif a0.2.2 !=0 then
  afb (aG.mk (0,0) (Field.mk []) (aX.mk 0 []) (aF.mk (aQ.mk [] [] []) [] []) [],0,a0.2.2)
 else
  (nO p0).bind fun r1=>
  (nG p0.ii p1 p0.ci).bind fun a2=>
  bif !a2.2 then
   afb (aG.mk r1.ci r1.ii a0.1 r1.aa r1.io,a0.2.1,0)
  else
   (fU p0.aa.ae).bind fun b3=>
   bif !b3 then
    afb (aG.mk (0,0) (Field.mk []) (aX.mk 0 []) (aF.mk (aQ.mk [] [] []) [] []) [],0,18)
   else
    (ee p0.aa a2.1 a0.2.1).bind fun a4=>
    (bu r1.io [(a0.2.1,a4.2)]).bind fun l5=>
    afb (aG.mk r1.ci r1.ii a0.1 a4.1 l5,a0.2.1,0)
noncomputable def dm (s:((List (Int×Int))×Int×Int×Int×Int×Int×Int×(List (Int×Int×Int))×Int×(List (Int×Int×Int))×(List Int)×(List Bool)×(List Int)×(List (Int×Int×Int×Int×Int))×(List Int)×(List (Int×Int×Int)))):Option (Step ((List (Int×Int))×Int×Int×Int×Int×Int×Int×(List (Int×Int×Int))×Int×(List (Int×Int×Int))×(List Int)×(List Bool)×(List Int)×(List (Int×Int×Int×Int×Int))×(List Int)×(List (Int×Int×Int))) (Step ((List (Int×Int))×Int×Int×Int×(List (Int×Int×Int))×Int×(List (Int×Int×Int))×(List Int)×(List Bool)×(List Int)×(List (Int×Int×Int×Int×Int))×(List Int)×(List (Int×Int×Int))×(List (Int×Int×Int))×Int×Int×Int×Int×Int×(List (Int×Int×Int))×Int×(List (Int×Int×Int))×(List Int)×(List Bool)×(List Int)×(List (Int×Int×Int×Int×Int))×(List Int)×(List (Int×Int×Int))) (aG×Int))):=
 match s with
 |(a,b,d,e,f,g,h,i,j,k,l,m,n,o,q,r)=>
  bif afl (b<(v6 (afa a))) then
   (aK a b).bind fun a0=>
   (qe (aX.mk j k) a0).bind fun b1=>
   bif b1 then
    afb (.next (a,ai .i64 (b+1),(d,e,f,g,h,i,j,k,l,m,n,o,q,r)))
   else
    (aK a b).bind fun a2=>
    (ky (aG.mk (g,h) (Field.mk i) (aX.mk j k) (aF.mk (aQ.mk l m n) o q) r) a2).bind fun a3=>
    bif a3.2.2 !=0 then
     afb (.done (.done (aG.mk (0,0) (Field.mk []) (aX.mk 0 []) (aF.mk (aQ.mk [] [] []) [] []) [],a3.2.2)))
    else
     afb (.next (a,ai .i64 (b+1),d,e,f,a3.1.ci.1,a3.1.ci.2,a3.1.ii.am,a3.1.af.ay,a3.1.af.ce,a3.1.aa.ae.au,a3.1.aa.ae.be,a3.1.aa.ae.bi,a3.1.aa.bv,a3.1.aa.aj,a3.1.io))
  else
   afb (.done (.done (aG.mk (g,h) (Field.mk i) (aX.mk j k) (aF.mk (aQ.mk l m n) o q) r,0)))
noncomputable def cZ (s:((List (Int×Int))×Int×Int×Int×(List (Int×Int×Int))×Int×(List (Int×Int×Int))×(List Int)×(List Bool)×(List Int)×(List (Int×Int×Int×Int×Int))×(List Int)×(List (Int×Int×Int))×(List (Int×Int×Int))×Int×Int×Int×Int×Int×(List (Int×Int×Int))×Int×(List (Int×Int×Int))×(List Int)×(List Bool)×(List Int)×(List (Int×Int×Int×Int×Int))×(List Int)×(List (Int×Int×Int)))):Option (Step ((List (Int×Int))×Int×Int×Int×(List (Int×Int×Int))×Int×(List (Int×Int×Int))×(List Int)×(List Bool)×(List Int)×(List (Int×Int×Int×Int×Int))×(List Int)×(List (Int×Int×Int))×(List (Int×Int×Int))×Int×Int×Int×Int×Int×(List (Int×Int×Int))×Int×(List (Int×Int×Int))×(List Int)×(List Bool)×(List Int)×(List (Int×Int×Int×Int×Int))×(List Int)×(List (Int×Int×Int))) (aG×Int)):=
 match s with
 |(a,b,d,e,f,g,h,i,j,k,l,m,n,o,q,r,t,u,v,w,x,y,z,A,B,C,D,E)=>
  bif afl (b<(v6 (afa h))) then
   (aK h b).bind fun a0=>
   (DO a a0.2).bind fun b1=>
   bif !b1 then
    (aK h b).bind fun a2=>
    (nP (aG.mk (u,v) (Field.mk w) (aX.mk x y) (aF.mk (aQ.mk z A B) C D) E) a2.1).bind fun r3=>
    afb (.next (a,ai .i64 (b+1),d,e,f,g,h,i,j,k,l,m,n,o,q,r,t,r3.ci.1,r3.ci.2,r3.ii.am,r3.af.ay,r3.af.ce,r3.aa.ae.au,r3.aa.ae.be,r3.aa.ae.bi,r3.aa.bv,r3.aa.aj,r3.io))
   else
    afb (.next (a,ai .i64 (b+1),(d,e,f,g,h,i,j,k,l,m,n,o,q,r,t,u,v,w,x,y,z,A,B,C,D,E)))
  else
   (hO (Field.mk w) (Field.mk o)).bind fun b4=>
   bif !b4 then
    (k8 (aG.mk (u,v) (Field.mk w) (aX.mk x y) (aF.mk (aQ.mk z A B) C D) E) (Field.mk o)).bind fun a5=>
    bif a5.2 !=0 then
     afb (.done (aG.mk (0,0) (Field.mk []) (aX.mk 0 []) (aF.mk (aQ.mk [] [] []) [] []) [],a5.2))
    else
     aE dm (a,0,q,r,t,a5.1.ci.1,a5.1.ci.2,a5.1.ii.am,a5.1.af.ay,a5.1.af.ce,a5.1.aa.ae.au,a5.1.aa.ae.be,a5.1.aa.ae.bi,a5.1.aa.bv,a5.1.aa.aj,a5.1.io)
   else
    aE dm (a,0,(q,r,t,u,v,w,x,y,z,A,B,C,D,E))
noncomputable def ss (p0:aG) (p1:Field) (p2:List (Int×Int)):Option (aG×Int):=
 (nO p0).bind fun r0=>
 aE cZ (p2,0,p0.ci.1,p0.ci.2,p0.ii.am,p0.af.ay,p0.af.ce,p0.aa.ae.au,p0.aa.ae.be,p0.aa.ae.bi,p0.aa.bv,p0.aa.aj,p0.io,p1.am,0,0,0,r0.ci.1,r0.ci.2,r0.ii.am,r0.af.ay,r0.af.ce,r0.aa.ae.au,r0.aa.ae.be,r0.aa.ae.bi,r0.aa.bv,r0.aa.aj,r0.io)
noncomputable def rF (s:(Int×Int×Int×(List (Int×Int×Int)))):Option (Step (Int×Int×Int×(List (Int×Int×Int))) Int):=
 bif afl (s.2.1<(v6 (afa s.2.2.2))) then
  (aK s.2.2.2 s.2.1).bind fun a0=>
  bif a0.1==s.1 then
   afb (.done s.2.1)
  else
   afb (.next (s.1,ai .i64 (s.2.1+1),s.2.2))
 else
  afb (.done (-1))
noncomputable def IG (p0:aX) (p1:Int):Option Int:=
 aE rF (p1,0,p0.ay,p0.ce)
noncomputable def z4 (p0:aG):Option (aG×(Int×Int×Int×Int×Int)×(Int×Int)):=
 (aK p0.aa.bv 0).bind fun a0=>
 (IG p0.af a0.2.2.1).bind fun n1=>
 (aK p0.af.ce n1).bind fun a2=>
 (nP p0 a0.2.2.1).bind fun r3=>
 afb (aG.mk (a0.1,a0.2.1) r3.ii r3.af r3.aa r3.io,a0,a2.2)
noncomputable def m7 (s:((List Int)×Int×Int)):Option (Step ((List Int)×Int×Int) Int):=
 bif afl (s.2.2<(v6 (afa s.1))) then
  (aK s.1 s.2.2).bind fun n0=>
  bif n0==s.2.1 then
   afb (.done s.2.2)
  else
   afb (.next (s.1,s.2.1,ai .i64 (s.2.2+1)))
 else
  afb (.done (-1))
noncomputable def IH (p0:List Int) (p1:Int):Option Int:=
 aE m7 (p0,p1,0)
abbrev uF (n:Int):Prop:= -9223372036854775808<=n/\n<9223372036854775808
abbrev QB (n:Int):Prop:=0<=n/\n<18446744073709551616
theorem wi (n:Int):ai .i64 n=(n+9223372036854775808)%18446744073709551616-9223372036854775808:=by
 rw [qk];simp only [IntKind.wrap,IntKind.bits,IntKind.signed,Bool.true_and];have e1:(2:Int)^64=18446744073709551616:=by decide
 have e2:(2:Int)^(64-1)=9223372036854775808:=by decide
 simp only [e1,e2,decide_eq_true_eq];split<;>omega
theorem wu (n:Int):ai .u64 n=n%18446744073709551616:=by
 rw [qk];simp only [IntKind.wrap,IntKind.bits,IntKind.signed,Bool.false_and];have e1:(2:Int)^64=18446744073709551616:=by decide
 simp only [e1];simp
theorem u7 {n:Int} (h:uF n):ai .i64 n=n:=by rw [wi];omega
theorem dK {a b:Int} (h:a≠b):(a !=b)=afd:=by simpa using h
theorem bz {a b:Int} (h:a=b):(a !=b)=afk:=by simpa using h
theorem fb {a b:Int} (h:a=b):(a==b)=afd:=by simpa using h
theorem eY {a b:Int} (h:a≠b):(a==b)=afk:=by simpa using h
theorem My (a b:Int):(a==b)=afl (a=b):=by
 by_cases h:a=b
 · rw [fb h,decide_eq_true h]
 rw [eY h,decide_eq_false h]
theorem lt_or_ge (a b:Int):a<b\/b<=a:=by omega
theorem adO (a:Int):oN .u64 a 32=a / 4294967296:=by unfold oN;rw [show (min (32:Int).toNat (IntKind.bits .u64))=32 from by decide,show (2:Int)^32=4294967296 from by decide];exact aeo _ (by decide)
theorem KP {a:Int} (h:QB a):B0 .u64 a 4294967295=a%4294967296:=by
 obtain ⟨n,rfl⟩:=ae0 h.1;unfold B0;have e:(BitVec.ofInt (IntKind.bits .u64) (n:Int)&&&BitVec.ofInt (IntKind.bits .u64) 4294967295).toNat=n%4294967296:=by
  rw [BitVec.toNat_and];have e1:(BitVec.ofInt (IntKind.bits .u64) (n:Int)).toNat=n:=by
   rw [BitVec.toNat_ofInt];have:((2^(IntKind.bits .u64):Nat):Int)=18446744073709551616:=by decide
   rw [this];omega
  have e2:(BitVec.ofInt (IntKind.bits .u64) (4294967295:Int)).toNat=2^32-1:=by decide
  rw [e1,e2,Nat.and_two_pow_sub_one_eq_mod]
 rw [e];have:=wu ((n%4294967296:Nat):Int);rw [qk] at this;rw [this];omega
theorem XE {a b:Nat} (ha:a<1000000000) (hb:b<1000000000):ai .i64 (oN .u64 (ai .u64 (ai .i64 ((a:Int)+(b:Int)))) 1)=(((a+b) / 2:Nat):Int):=by unfold oN;rw [show (min (1:Int).toNat (IntKind.bits .u64))=1 from by decide,show (2:Int)^1=2 from by decide,aeo _ (by decide),wi (_+_),wu,wi];omega
section
variable {σ ρ : Type} {body : σ -> Option (Step σ ρ)}
theorem eC (st:Nat->σ) (n:Nat) (h: ∀i,i<n->body (st i)=afb (.next (st (i+1)))):aE body (st 0)=aE body (st n):=by
 induction n with
 |zero=>rfl
 |succ n ih=>rw [ih fun i hi=>h i (by omega)];exact aW (h n (by omega))
theorem c7 (st:Nat->σ) (n:Nat) (c:Nat->Prop) {r e:ρ} (h: ∀i,i<n->(c i->body (st i)=afb (.done r))/\(¬c i->body (st i)=afb (.next (st (i+1)))))
 (QC:body (st n)=afb (.done e)):((∃i,i<n/\c i)->aE body (st 0)=afb r)/\((∀i,i<n-> ¬c i)->aE body (st 0)=afb e):=by
 constructor
 · rintro ⟨i,hi,hc⟩
   have key: ∀k,k<=n->(∃i,i<n/\n-k<=i/\c i)->aE body (st (n-k))=afb r:=by
    intro k
    induction k with
    |zero=>rintro _ ⟨i,h1,h2,_⟩;omega
    |succ k ih=>
     rintro hk ⟨i,h1,h2,h3⟩
     by_cases hc:c (n- (k+1))
     · exact aI ((h _ (by omega)).1 hc)
     rw [aW ((h _ (by omega)).2 hc),show n- (k+1)+1=n-k by omega]
     refine ih (by omega) ⟨i,h1,?_,h3⟩
     by_cases he:i=n- (k+1)
     · subst he;exact absurd h3 hc
     omega
   have:=key n (aez n) ⟨i,hi,by omega,hc⟩
   rwa [Nat.sub_self] at this
 intro hn
 rw [eC st n fun i hi=>(h i hi).2 (hn i hi)];exact aI QC
theorem least {c:Nat->Prop}: ∀{n:Nat},(∃i,i<n/\c i)-> ∃k,k<n/\c k/\ ∀j,j<k-> ¬c j
 |0,h=>by obtain ⟨i,hi,_⟩:=h;omega
 |n+1,h=>by
  by_cases hx: ∃i,i<n/\c i
  · obtain ⟨k,h1,h2,h3⟩:=least hx
    exact ⟨k,by omega,h2,h3⟩
  obtain ⟨i,hi,hc⟩:=h
  refine ⟨i,hi,hc,fun j hj hcj=>hx ⟨j,by omega,hcj⟩⟩
theorem gZ (st:Nat->σ) (n:Nat) (c:Nat->Prop) (r:Nat->ρ) {e:ρ} (h: ∀i,i<n->(c i->body (st i)=afb (.done (r i)))/\(¬c i->body (st i)=afb (.next (st (i+1)))))
 (QC:body (st n)=afb (.done e)):(∀k,k<n->c k->(∀j,j<k-> ¬c j)->aE body (st 0)=afb (r k))/\((∀i,i<n-> ¬c i)->aE body (st 0)=afb e):=by
 constructor
 · intro k hk hc hj
   rw [eC st k fun i hi=>(h i (by omega)).2 (hj i hi)];exact aI ((h k hk).1 hc)
 intro hn
 rw [eC st n fun i hi=>(h i hi).2 (hn i hi)];exact aI QC
theorem A' (st:Nat->Nat->σ) (n m:Nat) (c:Nat->Prop)
 (h: ∀lo hi,lo<hi->hi<=n->(c ((lo+hi) / 2)->body (st lo hi)=afb (.next (st ((lo+hi) / 2+1) hi)))/\(¬c ((lo+hi) / 2)->body (st lo hi)=afb (.next (st lo ((lo+hi) / 2)))))
 (h1: ∀i,i<m->c i) (h2: ∀i,m<=i->i<n-> ¬c i): ∀d lo hi,hi-lo<=d->lo<=m->m<=hi->hi<=n->aE body (st lo hi)=aE body (st m m)
 |0,lo,hi,hd,a,b,_=>by
  have e1:lo=m:=by omega
  have e2:hi=m:=by omega
  rw [e1,e2]
 |d+1,lo,hi,hd,a,b,e=>by
  by_cases hl:lo<hi
  · by_cases hc:c ((lo+hi) / 2)
    · rw [aW ((h lo hi hl e).1 hc)]
      refine A' st n m c h h1 h2 d _ _ (by omega) ?_ b e;refine NE fun hx=>?_
      exact h2 ((lo+hi) / 2) (by omega) (by omega) hc
    rw [aW ((h lo hi hl e).2 hc)]
    refine A' st n m c h h1 h2 d _ _ (by omega) a ?_ (by omega);refine NE fun hx=>?_
    exact hc (h1 ((lo+hi) / 2) (by omega))
  have e1:lo=m:=by omega
  have e2:hi=m:=by omega
  rw [e1,e2]
end
section
variable {α : Type} [Inhabited α]
theorem az (l:List α) (n:Nat) (h:n<afa l):aK l (n:Int)=afb l[n]!:=by show l[n]? =afb l[n]!;rw [aev h,getElem!_pos l n h]
theorem df {l:List α} {i:Int} (h0:0<=i) (h:i<afa l):aK l i=afb l[i.toNat]!:=by obtain ⟨n,rfl⟩:=ae0 h0;exact az l n (by omega)
theorem k9 {β:Type} (l:List β) (n:Nat) (a:β):cb l (n:Int) a=l.set n a:=rfl
theorem bg (l:List α) (n m:Nat) (a:α):(l.set n a)[m]! =if m=n/\n<(afa l) then a else l[m]!:=by
 by_cases hm:m<afa l
 · rw [getElem!_pos (l.set n a) m (by simpa using hm),getElem!_pos l m hm,List.getElem_set]
   split
   · rw [rc (by omega)]
   rw [ut (by omega)]
 rw [getElem!_neg (l.set n a) m (by simpa using hm),getElem!_neg l m hm]
 split
 · omega
 rfl
theorem aS {l:List α} {x:α}:x∈l↔ ∃i,i<afa l/\l[i]! =x:=by
 rw [List.mem_iff_getElem];constructor
 · rintro ⟨i,h,rfl⟩;exact ⟨i,h,getElem!_pos l i h⟩
 rintro ⟨i,h,rfl⟩;exact ⟨i,h,(getElem!_pos l i h).symm⟩
theorem bj {l:List α} {i:Nat} (h:i<afa l):l[i]!∈l:=aS.2 ⟨i,h,rfl⟩
theorem gj {l m:List α} {i:Nat} (h:i<afa l):(l++m)[i]! =l[i]!:=by rw [getElem!_pos (l++m) i (by simp;omega),getElem!_pos l i h,List.getElem_append_left h]
theorem iR {l m:List α} {i:Nat} (h:(afa l)<=i):(l++m)[i]! =m[i-(afa l)]!:=by
 by_cases hi:i<afa l+afa m
 · rw [getElem!_pos (l++m) i (by simp;omega),getElem!_pos m (i-(afa l)) (by omega),List.getElem_append_right h]
 rw [getElem!_neg (l++m) i (by simp;omega),getElem!_neg m (i-(afa l)) (by omega)]
theorem jK {l:List α} {n i:Nat} (h:i<n):(l.take n)[i]! =l[i]!:=by
 by_cases hi:i<afa l
 · rw [getElem!_pos (l.take n) i (by simp;omega),getElem!_pos l i hi,List.getElem_take]
 rw [getElem!_neg (l.take n) i (by simp;omega),getElem!_neg l i hi]
theorem nS {l:List α} {n i:Nat}:(l.drop n)[i]! =l[n+i]!:=by
 by_cases hi:n+i<afa l
 · rw [getElem!_pos (l.drop n) i (by simp;omega),getElem!_pos l (n+i) hi,List.getElem_drop]
 rw [getElem!_neg (l.drop n) i (by simp;omega),getElem!_neg l (n+i) hi]
theorem wJ {l m:List α} (hl:(afa l)=afa m) (h: ∀i,i<afa l->l[i]! =m[i]!):l=m:=by
 apply List.ext_getElem hl;intro i h1 h2;have:=h i h1
 rwa [getElem!_pos l i h1,getElem!_pos m i h2] at this
theorem QD {l:List α} {i:Nat} (h:i<afa l):l=l.take i++l[i]!::l.drop (i+1):=by rw [getElem!_pos l i h,List.getElem_cons_drop,List.take_append_drop]
end
theorem bo {α:Type} {l:List α} (h:(afa l)<=1048576):cD l=afb l:=by unfold cD;rw [rc h]
theorem eZ {α:Type} {l m:List α} (h:(afa l)+afa m<=1048576):bu l m=afb (l++m):=by unfold bu;rw [rc h]
@[simp] theorem ax {α β:Type} (a:α) (f:α->Option β):(afb a).bind f=f a:=rfl
end Go.Proofs.YtclphlgnjkajbaaGreat
namespace Go.Proofs.YtclphlgnjkajbaaGreat
open Go.Vm Classical
theorem ic {n:Int} (h:uF n):fT n=afb (n.natAbs:Int):=by
 unfold fT;simp only [wi,wu]
 by_cases hn:n<0
 · simp only [hn,decide_true,pi,Do];omega
 simp only [hn,decide_false,pp,Do];omega
theorem jq {n:Int} (h:uF n):iL n=afb (n.natAbs:Int):=by
 unfold iL;simp only [wu]
 by_cases hn:n<0
 · simp only [hn,decide_true,pi,Do];omega
 simp only [hn,decide_false,pp,Do];omega
theorem nT (m n:Nat):mI m n=afb (EQ m n:Int):=by
 unfold mI
 induction n using aeK generalizing m with
 |ind n ih=>
  by_cases h0:n=0
  · subst h0
    rw [aeF];exact aI (by simp [lh])
  have e:lh ((m:Int),(n:Int))=afb (.next ((n:Int),((m%n:Nat):Int))):=by
   have h1:((n:Int) !=0)=afd:=by simp;omega
   have h2:((n:Int)==0)=afk:=by simp;omega
   simp only [lh,h1,h2,pi,pp,aeR]
  rw [aW e,ih (m%n) (Nat.mod_lt _ (by omega)) n,ae1 m n,Nat.gcd_rec n m,ae1]
theorem x5 (m n:Nat):tc m n=afb (EQ m n:Int):=by
 unfold tc
 induction n using aeK generalizing m with
 |ind n ih=>
  by_cases h0:n=0
  · subst h0
    rw [aeF];exact aI (by simp [pX])
  have e:pX ((m:Int),(n:Int))=afb (.next ((n:Int),((m%n:Nat):Int))):=by
   have h1:afl (0<(n:Int))=afd:=by simp;omega
   have h2:((n:Int)==0)=afk:=by simp;omega
   simp only [pX,h1,h2,pi,pp,aeR]
  rw [aW e,ih (m%n) (Nat.mod_lt _ (by omega)) n,ae1 m n,Nat.gcd_rec n m,ae1]
def bm (r:Int×Int):Prop:=1<=r.2/\r.1≠ -9223372036854775808/\EQ r.2.natAbs r.1.natAbs=1
abbrev jw (r:Int×Int):Prop:=uF r.1/\uF r.2
theorem cw {r:Int×Int} (h:jw r):dV r=afb (if bm r then 0 else 8):=by
 obtain ⟨a,b⟩:=r;obtain ⟨ha,hb⟩:=h;unfold dV bm;dsimp only at ha hb ⊢
 by_cases h1:b<1
 · rw [ut (by omega)];simp [h1]
 by_cases h2:a= -9223372036854775808
 · rw [ut (by omega)];simp [h1,h2]
 have e2:(a== -9223372036854775808)=afk:=by simpa using h2
 have e3:ai .u64 b=(b.natAbs:Int):=by rw [wu];omega
 simp only [h1,decide_false,pp,e2,jq ha,ax,e3,x5];have hp:0<EQ b.natAbs a.natAbs:=Nat.gcd_pos_of_pos_left _ (by omega)
 by_cases h3:EQ b.natAbs a.natAbs=1
 · rw [rc ⟨by omega,h2,h3⟩,h3];rfl
 rw [ut (fun h=>h3 h.2.2)]
 have:afl (1<(EQ b.natAbs a.natAbs:Int))=afd:=by simp;omega
 rw [this];rfl
theorem qF {r:Int×Int} (h:jw r):kf r=afb (if bm r then 0 else 8):=by
 obtain ⟨a,b⟩:=r;obtain ⟨ha,hb⟩:=h;unfold kf bm;dsimp only at ha hb ⊢
 by_cases h1:b<1
 · rw [ut (by omega)];simp [h1]
 by_cases h2:a= -9223372036854775808
 · rw [ut (by omega)];simp [h1,h2]
 have e2:(a== -9223372036854775808)=afk:=by simpa using h2
 have e3:ai .u64 b=(b.natAbs:Int):=by rw [wu];omega
 simp only [h1,decide_false,pp,e2,ic ha,ax,e3,nT];rw [ae1]
 by_cases h3:EQ b.natAbs a.natAbs=1
 · rw [rc ⟨by omega,h2,h3⟩,h3];rfl
 rw [ut (fun h=>h3 h.2.2)]
 have:((EQ b.natAbs a.natAbs:Int) !=1)=afd:=by simp;omega
 rw [this];rfl
theorem QE (x y:Int) (hx:QB x) (hy:QB y): ∃p q r s:Int,0<=p/\p<=18446744065119617025/\0<=q/\q<=18446744065119617025/\0<=r/\r<=18446744065119617025/\0<=s/\s<=18446744065119617025/\
 x / 4294967296*(y / 4294967296)=p/\x / 4294967296*(y%4294967296)=q/\x%4294967296*(y / 4294967296)=r/\x%4294967296*(y%4294967296)=s/\
 x*y=p*18446744073709551616+(q+r)*4294967296+s:=by
 have Oo:0<=x / 4294967296/\x / 4294967296<=4294967295:=by omega
 have Ez:0<=x%4294967296/\x%4294967296<=4294967295:=by omega
 have hy1:0<=y / 4294967296/\y / 4294967296<=4294967295:=by omega
 have NM:0<=y%4294967296/\y%4294967296<=4294967295:=by omega
 have ex:x=x / 4294967296*4294967296+x%4294967296:=by omega
 have ey:y=y / 4294967296*4294967296+y%4294967296:=by omega
 generalize x / 4294967296=a at*;generalize x%4294967296=b at*;generalize y / 4294967296=c at*;generalize y%4294967296=d at*;have bd: ∀{u v:Int},0<=u/\u<=4294967295->0<=v/\v<=4294967295->0<=u*v/\u*v<=18446744065119617025:=by
  intro u v hu hv;refine ⟨aeA hu.1 hv.1,?_⟩
  calc u*v<=4294967295*4294967295:=aep hu.2 hv.2 hv.1 (by decide)
   _=_:=by decide
 refine ⟨a*c,a*d,b*c,b*d,(bd Oo hy1).1,(bd Oo hy1).2,(bd Oo NM).1,(bd Oo NM).2,(bd Ez hy1).1,(bd Ez hy1).2,(bd Ez NM).1,(bd Ez NM).2,rfl,rfl,rfl,rfl,?_⟩;rw [ex,ey]
 grind
theorem DP {x y:Int} (hx:QB x) (hy:QB y):gM x y=afb (x*y / 18446744073709551616,x*y%18446744073709551616):=by
 unfold gM;obtain ⟨p,q,r,s,p0,p1,q0,q1,r0,r1,s0,s1,ep,eq,er,es,exy⟩:=QE x y hx hy;have key: ∀z:Int,B0 .u64 (z%18446744073709551616) 4294967295=z%18446744073709551616%4294967296:=fun z=>KP (by constructor<;>omega)
 simp only [adO,KP hx,KP hy,wu,key,ep,eq,er,es,exy,Do,adM,and_true];clear ep eq er es exy key hx hy;have e1:s%18446744073709551616=s:=by omega
 have e2:(q+s / 4294967296)%18446744073709551616=q+s / 4294967296:=by omega
 have ep:p%18446744073709551616=p:=by omega
 have eq:q%18446744073709551616=q:=by omega
 have er:r%18446744073709551616=r:=by omega
 rw [e1,ep,eq,er,e2];have e3:s=s / 4294967296*4294967296+s%4294967296:=by omega
 have e4:q+s / 4294967296=(q+s / 4294967296) / 4294967296*4294967296+(q+s / 4294967296)%4294967296:=by omega
 have b1:0<=s%4294967296/\s%4294967296<4294967296:=by omega
 have b2:0<=(q+s / 4294967296)%4294967296/\(q+s / 4294967296)%4294967296<4294967296:=by omega
 have b3:0<=(q+s / 4294967296) / 4294967296/\(q+s / 4294967296) / 4294967296<=4294967295:=by omega
 have b4:0<=s / 4294967296/\s / 4294967296<=4294967295:=by omega
 generalize (q+s / 4294967296) / 4294967296=t1 at*;generalize (q+s / 4294967296)%4294967296=t0 at*;generalize s / 4294967296=c1 at*;generalize s%4294967296=c0 at*;clear e1 e2;have e5:(t0+r)%18446744073709551616=t0+r:=by omega
 rw [e5];have e6:t0+r=(t0+r) / 4294967296*4294967296+(t0+r)%4294967296:=by omega
 have b5:0<=(t0+r)%4294967296/\(t0+r)%4294967296<4294967296:=by omega
 have b6:0<=(t0+r) / 4294967296/\(t0+r) / 4294967296<=4294967295:=by omega
 generalize (t0+r) / 4294967296=u1 at*;generalize (t0+r)%4294967296=u0 at*;omega
theorem KQ {x y:Int} (hx:QB x) (hy:QB y):om x y=afb (afk,x*y / 18446744073709551616,x*y%18446744073709551616):=by
 unfold om;obtain ⟨p,q,r,s,p0,p1,q0,q1,r0,r1,s0,s1,ep,eq,er,es,exy⟩:=QE x y hx hy;have t1: ∀a:Int,0<=a->acl a 4294967296=a / 4294967296:=fun a h=>aeq h
 have t2: ∀a:Int,0<=a->Int.tmod a 4294967296=a%4294967296:=fun a h=>Int.tmod_eq_emod_of_nonneg h
 simp only [wu];rw [t1 x hx.1,t1 y hy.1,t2 x hx.1,t2 y hy.1];have f1:x / 4294967296%18446744073709551616=x / 4294967296:=by omega
 have f2:y / 4294967296%18446744073709551616=y / 4294967296:=by omega
 simp only [f1,f2,ep,eq,er,es];have g: ∀a:Int,acl (a%18446744073709551616) 4294967296=a%18446744073709551616 / 4294967296:=fun a=>t1 _ (by omega)
 have g2: ∀a:Int,Int.tmod (a%18446744073709551616) 4294967296=a%18446744073709551616%4294967296:=fun a=>t2 _ (by omega)
 simp only [g,g2,exy,Do,adM,true_and];constructor<;>omega
abbrev B64 (a:Bool×Int×Int):Prop:=QB a.2.1/\QB a.2.2
theorem xp {n:Int} (h:uF n):QB (n.natAbs:Int):=by constructor<;>omega
theorem xq {n:Int} (h:uF n):(n.natAbs:Int)<=9223372036854775808:=by omega
theorem z5 (a b:Int):((a.natAbs:Int)*(b.natAbs:Int))=((a*b).natAbs:Int):=by rw [Int.natAbs_mul];rfl
theorem qG {a b:Int} (ha:uF a) (hb:uF b):((a*b).natAbs:Int)<=85070591730234615865843651857942052864:=by
 rw [<- z5]
 calc (a.natAbs:Int)*(b.natAbs:Int)<=9223372036854775808*9223372036854775808:=aep (xq ha) (xq hb) (by omega) (by decide)
  _=_:=by decide
theorem uG {a b:Int} (ha:uF a) (hb:uF b):
 hY a b=afb (afl (a*b<0),((a*b).natAbs:Int) / 18446744073709551616,((a*b).natAbs:Int)%18446744073709551616):=by
 unfold hY;simp only [ic ha,ic hb,ax,KQ (xp ha) (xp hb),z5];have hs:(a*b<0)↔((a<0/\0<b)\/(0<a/\b<0)):=by
  constructor
  · intro h
    rcases aet a 0 with h1|h1|h1
    · rcases aet b 0 with h2|h2|h2
      · have:=Int.mul_pos_of_neg_of_neg h1 h2;omega
      · subst h2;simp at h
      exact .inl ⟨h1,h2⟩
    · subst h1;simp at h
    rcases aet b 0 with h2|h2|h2
    · exact .inr ⟨h1,h2⟩
    · subst h2;simp at h
    have:=Int.mul_pos h1 h2;omega
  rintro (⟨h1,h2⟩|⟨h1,h2⟩)
  · exact adZ h1 h2
  exact Int.mul_neg_of_pos_of_neg h1 h2
 have hd:afl (a*b<0)=afl ((a<0/\0<b)\/(0<a/\b<0)):=by simp only [hs]
 rw [hd];clear hd hs;generalize ((a*b).natAbs:Int)=z
 by_cases h1:a<0
 · have Ot: ¬0<a:=by omega
   have ahs:(a !=0)=afd:=dK (by omega)
   by_cases h2:b<0
   · have ZP: ¬0<b:=by omega
     simp [h1,h2,Ot,ZP]
   by_cases h3:b=0
   · simp [h1,h3,ahs]
   have h3':0<b:=by omega
   simp [h1,h2,h3',ahs,dK h3]
 by_cases h0:a=0
 · subst h0
   by_cases h2:b<0<;>simp [h2]
 have Ot:0<a:=by omega
 by_cases h2:b<0
 · have ZP:(b !=0)=afd:=dK (by omega)
   simp [h1,h2,Ot,dK h0,ZP]
 simp [h1,h2,Ot]
theorem II {a b:Int} (ha:uF a) (hb:uF b):
 oY a b=afb (!(afl (a<0)==afl (b<0)),((a*b).natAbs:Int) / 18446744073709551616,((a*b).natAbs:Int)%18446744073709551616):=by
 unfold oY;simp only [jq ha,jq hb,ax,DP (xp ha) (xp hb),z5]
def ir (a b:Int):Int:=if a<b then -1 else if b<a then 1 else 0
theorem x7 (a b:Int):gU a b=afb (ir a b):=by
 unfold gU lr ir
 by_cases h1:a<b<;>by_cases h2:b<a<;>simp [h1,h2]
theorem EN (a b:Int):gD a b=afb (ir a b):=by
 unfold gD kJ ir
 by_cases h1:a<b<;>by_cases h2:b<a<;>simp [h1,h2]
theorem iS (a b:Int):ed a b=afb (ir a b):=by
 unfold ed oy ir
 by_cases h1:a<b<;>by_cases h2:b<a<;>simp [h1,h2]
theorem dH (a b:Int):(a<b/\ir a b= -1)\/(a=b/\ir a b=0)\/(b<a/\ir a b=1):=by
 unfold ir
 by_cases h1:a<b
 · exact .inl ⟨h1,by rw [rc h1]⟩
 by_cases h2:b<a
 · exact .inr (.inr ⟨h2,by rw [ut h1,rc h2]⟩)
 exact .inr (.inl ⟨by omega,by rw [ut h1,ut h2]⟩)
theorem GL (a b:Bool×Int×Int) (ha:B64 a) (hb:B64 b):nE a b=afb (ir (a.2.1*18446744073709551616+a.2.2) (b.2.1*18446744073709551616+b.2.2)):=by
 obtain ⟨s,ah,al⟩:=a;obtain ⟨t,bh,bl⟩:=b;obtain ⟨⟨a1,a2⟩,a3,a4⟩:=ha;obtain ⟨⟨b1,b2⟩,b3,b4⟩:=hb;dsimp only at*;unfold nE ir;dsimp only
 by_cases h1:ah=bh
 · subst h1
   by_cases h2:al=bl
   · subst h2;simp
   by_cases h3:al<bl
   · simp [dK h2,h3]
   rw [ut (by omega),rc (by omega)];simp [dK h2,h3]
 by_cases h3:ah<bh
 · rw [rc (by omega)];simp [dK h1,h3]
 rw [ut (by omega),rc (by omega)];simp [dK h1,h3]
theorem KR (a b:Bool×Int×Int) (ha:B64 a) (hb:B64 b):ox a b=afb (ir (a.2.1*18446744073709551616+a.2.2) (b.2.1*18446744073709551616+b.2.2)):=by
 obtain ⟨s,ah,al⟩:=a;obtain ⟨t,bh,bl⟩:=b;obtain ⟨⟨a1,a2⟩,a3,a4⟩:=ha;obtain ⟨⟨b1,b2⟩,b3,b4⟩:=hb;dsimp only at*;unfold ox;simp only [EN,ax];unfold ir
 by_cases h1:ah=bh
 · subst h1
   by_cases h3:al<bl
   · simp [h3]
   by_cases h2:bl<al
   · rw [ut (show¬(ah*18446744073709551616+al<ah*18446744073709551616+bl) by omega),rc (show ah*18446744073709551616+bl<ah*18446744073709551616+al by omega)];simp [h2,h3]
   have:al=bl:=by omega
   subst this;simp
 by_cases h3:ah<bh
 · rw [rc (show ah*18446744073709551616+al<bh*18446744073709551616+bl by omega)];simp [h3]
 rw [ut (show¬(ah*18446744073709551616+al<bh*18446744073709551616+bl) by omega),rc (show bh*18446744073709551616+bl<ah*18446744073709551616+al by omega)];simp [h3,show bh<ah by omega]
theorem rG (a:Bool) {n:Int} (h0:0<=n) (h:n<=85070591730234615865843651857942052864):B64 (a,n / 18446744073709551616,n%18446744073709551616):=by constructor<;>constructor<;>dsimp only<;>omega
theorem GM {n:Int} (h:(n.natAbs:Int)<=85070591730234615865843651857942052864):jl (afl (n<0),(n.natAbs:Int) / 18446744073709551616,(n.natAbs:Int)%18446744073709551616)=afb (ir n 0):=by
 unfold jl ir;dsimp only
 by_cases h0:n=0
 · subst h0;simp
 by_cases h1:n<0
 · rw [rc h1]
   by_cases h2:(n.natAbs:Int) / 18446744073709551616=0
   · have h3: ¬((n.natAbs:Int)%18446744073709551616=0):=by omega
     simp [h1,h2,eY h3]
   simp [h1,eY h2]
 rw [ut h1,rc (by omega)]
 by_cases h2:(n.natAbs:Int) / 18446744073709551616=0
 · have h3: ¬((n.natAbs:Int)%18446744073709551616=0):=by omega
   simp [h1,h2,eY h3]
 simp [h1,eY h2]
def gq (a b:Int×Int):Int:=ir (a.1*b.2) (b.1*a.2)
theorem DQ {a b:Int×Int} (ha:jw a) (hb:jw b):oo a b=afb (gq a b):=by
 unfold oo gq;have n1:=qG ha.1 hb.2;have n2:=qG hb.1 ha.2;simp only [uG ha.1 hb.2,uG hb.1 ha.2,ax,GM n1,GM n2];generalize a.1*b.2=x at*;generalize b.1*a.2=y at*;rw [GL _ _ (rG _ (by omega) n1) (rG _ (by omega) n2),GL _ _ (rG _ (by omega) n2) (rG _ (by omega) n1)];have ex:((x.natAbs:Int) / 18446744073709551616)*18446744073709551616+(x.natAbs:Int)%18446744073709551616=(x.natAbs:Int):=by omega
 have ey:((y.natAbs:Int) / 18446744073709551616)*18446744073709551616+(y.natAbs:Int)%18446744073709551616=(y.natAbs:Int):=by omega
 simp only [ex,ey,ax];rcases dH x 0 with ⟨h1,e1⟩|⟨h1,e1⟩|⟨h1,e1⟩<;>rcases dH y 0 with ⟨h2,e2⟩|⟨h2,e2⟩|⟨h2,e2⟩<;>rw [e1,e2]<;>simp<;>
  unfold ir<;>(repeat' split)<;>first|rfl|omega
theorem XF {a b:Int×Int} (ha:jw a) (hb:jw b):uw a b=afb (if bm a/\bm b then 0 else 8):=by
 unfold uw;simp only [cw ha,cw hb,ax]
 by_cases h1:bm a<;>by_cases h2:bm b<;>simp [h1,h2]
theorem Ba {a b:Int×Int} (ha:jw a) (hb:jw b):nJ a b=afb (if bm a/\bm b then (gq a b,0) else (0,8)):=by
 unfold nJ;rw [XF ha hb]
 by_cases h:bm a/\bm b
 · rw [rc h,rc h]
   obtain ⟨⟨a1,a2,a3⟩,b1,b2,b3⟩:=h;have n1:=qG ha.1 hb.2;have n2:=qG hb.1 ha.2;simp only [ax,x7,II ha.1 hb.2,II hb.1 ha.2];rw [KR _ _ (rG _ (by omega) n1) (rG _ (by omega) n2)];have ex:((a.1*b.2).natAbs:Int) / 18446744073709551616*18446744073709551616+((a.1*b.2).natAbs:Int)%18446744073709551616=((a.1*b.2).natAbs:Int):=by omega
   have ey:((b.1*a.2).natAbs:Int) / 18446744073709551616*18446744073709551616+((b.1*a.2).natAbs:Int)%18446744073709551616=((b.1*a.2).natAbs:Int):=by omega
   simp only [ex,ey,ax];unfold gq;have s1:(a.1<0↔a.1*b.2<0):=by
    constructor
    · intro h;exact adZ h (by omega)
    intro h;rcases lt_or_ge a.1 0 with h1|h1
    · exact h1
    have:=aeA h1 (show 0<=b.2 by omega);omega
   have s2:(b.1<0↔b.1*a.2<0):=by
    constructor
    · intro h;exact adZ h (by omega)
    intro h;rcases lt_or_ge b.1 0 with h1|h1
    · exact h1
    have:=aeA h1 (show 0<=a.2 by omega);omega
   generalize a.1*b.2=x at*;generalize b.1*a.2=y at*
   by_cases h1:a.1<0<;>by_cases h2:b.1<0
   · have h3:=s1.1 h1;have h4:=s2.1 h2
     have:ai .i64 (-ir (x.natAbs:Int) (y.natAbs:Int))=ir x y:=by rw [wi];unfold ir;(repeat' split)<;>omega
     simp [h1,h2,this]
   · have h3:=s1.1 h1;have h4: ¬y<0:=fun h=>h2 (s2.2 h)
     have:ir a.1 b.1=ir x y:=by unfold ir;(repeat' split)<;>omega
     simp [h1,h2,this]
   · have h3: ¬x<0:=fun h=>h1 (s1.2 h);have h4:=s2.1 h2
     have:ir a.1 b.1=ir x y:=by unfold ir;(repeat' split)<;>omega
     simp [h1,h2,this]
   have h3: ¬x<0:=fun h=>h1 (s1.2 h);have h4: ¬y<0:=fun h=>h2 (s2.2 h)
   have:ir (x.natAbs:Int) (y.natAbs:Int)=ir x y:=by unfold ir;(repeat' split)<;>omega
   simp [h1,h2,this]
 rw [ut h,ut h];rfl
abbrev Pt:=Int×Int×Int
def ff (p:Pt):Prop:=0<=p.1/\p.1<=65535/\ -1048576<=p.2.1/\p.2.1<=1048576/\ -1048576<=p.2.2/\p.2.2<=1048576
theorem u9 (p:Pt):kI p=afb (if ff p then 0 else 8):=by
 obtain ⟨i,a,b⟩:=p;unfold kI mO ff;dsimp only
 by_cases h1:i<0
 · rw [ut (by omega)];simp [h1]
 by_cases h2:65535<i
 · rw [ut (by omega)];simp [h1,h2]
 by_cases h3:a< -1048576
 · rw [ut (by omega)];simp [h1,h2,h3]
 by_cases h4:1048576<a
 · rw [ut (by omega)];simp [h1,h2,h3,h4]
 by_cases h5:b< -1048576
 · rw [ut (by omega)];simp [h1,h2,h3,h4,h5]
 by_cases h6:1048576<b
 · rw [ut (by omega)];simp [h1,h2,h3,h4,h5,h6]
 rw [rc (by omega)];simp [h1,h2,h3,h4,h5,h6]
theorem DR (p:Pt):ru p=afb (if ff p then 0 else 8):=by
 obtain ⟨i,a,b⟩:=p;unfold ru ff;dsimp only
 by_cases h1:i<0
 · rw [ut (by omega)];simp [h1]
 by_cases h2:65535<i
 · rw [ut (by omega)];simp [h1,h2]
 by_cases h3:a< -1048576
 · rw [ut (by omega)];simp [h1,h2,h3]
 by_cases h4:1048576<a
 · rw [ut (by omega)];simp [h1,h2,h3,h4]
 by_cases h5:b< -1048576
 · rw [ut (by omega)];simp [h1,h2,h3,h4,h5]
 by_cases h6:1048576<b
 · rw [ut (by omega)];simp [h1,h2,h3,h4,h5,h6]
 rw [rc (by omega)];simp [h1,h2,h3,h4,h5,h6]
theorem te {x y:Int} (hx:uF x) (hy:uF y): -85070591730234615865843651857942052864<=x*y/\x*y<=85070591730234615865843651857942052864:=by have:=qG hx hy;omega
theorem Y1 {x y:Int} (hx:uF x) (hy:uF y):(x%18446744073709551616)*(y%18446744073709551616)=x*y+(if x<0 then y else 0)*18446744073709551616+(if y<0 then x else 0)*18446744073709551616+(if x<0/\y<0 then 340282366920938463463374607431768211456 else 0):=by
 by_cases h1:x<0<;>by_cases h2:y<0
 · have e1:x%18446744073709551616=x+18446744073709551616:=by omega
   have e2:y%18446744073709551616=y+18446744073709551616:=by omega
   rw [e1,e2,rc h1,rc h2,rc ⟨h1,h2⟩];grind
 · have e1:x%18446744073709551616=x+18446744073709551616:=by omega
   have e2:y%18446744073709551616=y:=by omega
   rw [e1,e2,rc h1,ut h2,ut (fun h=>h2 h.2)];grind
 · have e1:x%18446744073709551616=x:=by omega
   have e2:y%18446744073709551616=y+18446744073709551616:=by omega
   rw [e1,e2,ut h1,rc h2,ut (fun h=>h1 h.1)];grind
 have e1:x%18446744073709551616=x:=by omega
 have e2:y%18446744073709551616=y:=by omega
 rw [e1,e2,ut h1,ut h2,ut (fun h=>h1 h.1)];grind
theorem IJ {a b:Int} (ha:0<=a) (hb:0<=b):nA a b 0=afb ((a+b)%18446744073709551616,(a+b) / 18446744073709551616):=by unfold nA;simp [ha,hb]
theorem QF {a b c d u v:Int} (ha:uF a) (hb:uF b):k7 (a,b,c,d,0,u,v,0,0)=afb (.next (a,b,c,d,1,u,v,a*b / 18446744073709551616,a*b%18446744073709551616)):=by
 unfold k7;have hm:=DP (x:=ai .u64 a) (y:=ai .u64 b) (by rw [wu];constructor<;>omega) (by rw [wu];constructor<;>omega);have Rx:=te ha hb;have hu:=Y1 ha hb;simp only [hm,ax];simp only [wu,hu];generalize a*b=x at*
 by_cases h1:a<0<;>by_cases h2:b<0
 all_goals
  simp only [h1,h2,decide_true,decide_false,pi,pp,if_true,if_false,and_self,and_false,false_and];rw [IJ (by omega) (by omega)];simp only [wi,ax,show afl ((0:Int)<2)=afd from rfl,pi,show ((0:Int)==0)=afd from rfl,Do,Step.next.injEq,adM,true_and];refine ⟨by omega,?_,?_⟩<;>omega
theorem QG {a b c d u v h l:Int} (hc:uF c) (hd:uF d) (hl:QB l)
 (_hh: -9223372036854775808<=h/\h<9223372036854775808) (hs: -170141183460469231731687303715884105728<=h*18446744073709551616+l+c*d/\h*18446744073709551616+l+c*d<170141183460469231731687303715884105728):
 k7 (a,b,c,d,1,u,v,h,l)=afb (.next (a,b,c,d,2,u,v,(h*18446744073709551616+l+c*d) / 18446744073709551616,(h*18446744073709551616+l+c*d)%18446744073709551616)):=by
 unfold k7;have hm:=DP (x:=ai .u64 c) (y:=ai .u64 d) (by rw [wu];constructor<;>omega) (by rw [wu];constructor<;>omega);have Rx:=te hc hd;have hu:=Y1 hc hd;simp only [hm,ax];simp only [wu,hu];generalize c*d=x at*
 by_cases h1:c<0<;>by_cases h2:d<0
 all_goals
  simp only [h1,h2,decide_true,decide_false,pi,pp,if_true,if_false,and_self,and_false,false_and];rw [IJ (by omega) (by omega)];simp only [wi,ax,show afl ((1:Int)<2)=afd from rfl,pi,pp,show ((1:Int)==0)=afk from rfl,show ((1:Int)==1)=afd from rfl,Do,Step.next.injEq,adM,true_and];refine ⟨by omega,?_,?_⟩<;>omega
theorem EO {a b c d:Int} (ha:uF a) (hb:uF b) (hc:uF c) (hd:uF d) (hs: -170141183460469231731687303715884105728<=a*b+c*d/\a*b+c*d<170141183460469231731687303715884105728):
 uy (a,b,c,d)=afb ((a*b+c*d) / 18446744073709551616,(a*b+c*d)%18446744073709551616):=by
 unfold uy;dsimp only;have Rx:=te ha hb;have e:a*b / 18446744073709551616*18446744073709551616+a*b%18446744073709551616+c*d=a*b+c*d:=by omega
 rw [aW (QF ha hb),aW (QG hc hd (by constructor<;>omega) (by constructor<;>omega) (by rw [e];exact hs)),e];exact aI rfl
def xH (p q:Pt) (t:Int×Int):Int:=(p.2.1-q.2.1)*t.2+(p.2.2-q.2.2)*t.1
def leads (p q:Pt) (t:Int×Int):Prop:=0<xH p q t\/(xH p q t=0/\(q.2.2<p.2.2\/(p.2.2=q.2.2/\p.1<q.1)))
def KS (p q:Pt) (t:Int×Int):Int:=if xH p q t<0 then -1 else if 0<xH p q t then 1 else if p.2.2<q.2.2 then -1 else if q.2.2<p.2.2 then 1 else ir q.1 p.1
theorem DS (p q:Pt) (t:Int×Int):0<KS p q t↔leads p q t:=by
 unfold KS leads
 by_cases h1:xH p q t<0
 · rw [rc h1];omega
 by_cases h2:0<xH p q t
 · rw [ut h1,rc h2];simp [h2]
 rw [ut h1,ut h2]
 by_cases h3:p.2.2<q.2.2
 · rw [rc h3];omega
 by_cases h4:q.2.2<p.2.2
 · rw [ut h3,rc h4];omega
 rw [ut h3,ut h4]
 rcases dH q.1 p.1 with ⟨h,e⟩|⟨h,e⟩|⟨h,e⟩<;>rw [e]<;>omega
theorem xt (a b:Int):qy [a,b]=afb (if a≠0 then a else b):=by
 unfold qy
 by_cases h1:a=0
 · subst h1
   rw [aW (y:=(0,[0,b],2,1)) (by rfl)]
   by_cases h2:b=0
   · subst h2
     rw [aW (y:=(0,[0,0],2,2)) (by rfl)];exact aI rfl
   refine (aI (r:=b) ?_).trans (by simp)
   have e:sf (0,[0,b],2,1)=(bif b !=0 then afb (.done b) else afb (.next (0,[0,b],2,ai .i64 (1+1)))):=rfl;rw [e,dK h2];rfl
 refine (aI (r:=a) ?_).trans (by simp [h1])
 have e:sf (0,[a,b],v6 [a,b].length,0)=(bif a !=0 then afb (.done a) else afb (.next (0,[a,b],v6 [a,b].length,ai .i64 (0+1)))):=rfl;rw [e,dK h1];rfl
theorem QH {p q:Pt} {t:Int×Int} (hp:ff p) (hq:ff q) (ht:jw t):uF (p.2.1-q.2.1)/\uF (p.2.2-q.2.2)/\ -170141183460469231731687303715884105728<=xH p q t/\xH p q t<170141183460469231731687303715884105728:=by
 obtain ⟨a1,a2,a3,a4,a5,a6⟩:=hp;obtain ⟨b1,b2,b3,b4,b5,b6⟩:=hq;have h1:uF (p.2.1-q.2.1):=by constructor<;>omega
 have h2:uF (p.2.2-q.2.2):=by constructor<;>omega
 refine ⟨h1,h2,?_⟩;have k: ∀{x y:Int},-2097152<=x/\x<=2097152->uF y-> -19342813113834066795298816<=x*y/\x*y<=19342813113834066795298816:=by
  intro x y hx hy;have:((x*y).natAbs:Int)<=2097152*9223372036854775808:=by rw [<- z5];exact aep (by omega) (xq hy) (by omega) (by decide)
  omega
 have k1:=k (x:=p.2.1-q.2.1) (by omega) ht.2;have k2:=k (x:=p.2.2-q.2.2) (by omega) ht.1;unfold xH;omega
theorem rH {p q:Pt} {t:Int×Int} (hp:ff p) (hq:ff q) (ht:jw t):kv p q t=afb (KS p q t):=by
 obtain ⟨g1,g2,g3⟩:=QH hp hq ht;unfold kv;rw [u7 g1,u7 g2,EO g1 ht.2 g2 ht.1 g3];simp only [ax,x7,iS,xt];rw [show (p.2.1-q.2.1)*t.2+(p.2.2-q.2.2)*t.1=xH p q t from rfl];unfold KS;generalize xH p q t=n at*
 by_cases h1:n<0
 · have e1:(n / 18446744073709551616==0)=afk:=by simp;omega
   have e2:afl (n / 18446744073709551616<0)=afd:=by simp;omega
   rw [rc h1];simp [e1,e2]
 by_cases h2:0<n
 · have e1:((n / 18446744073709551616==0)&&(n%18446744073709551616==0))=afk:=by simp;omega
   have e2:afl (n / 18446744073709551616<0)=afk:=by simp;omega
   rw [ut h1,rc h2];simp only [e1,e2,If,pi,pp]
 have:n=0:=by omega
 subst this;rw [ut h1,ut h2];unfold ir
 by_cases h3:p.2.2<q.2.2
 · simp [h3]
 by_cases h4:q.2.2<p.2.2
 · simp [h3,h4]
 simp [h3,h4]
theorem XG {x y:Int} (hx: -85070591730234615865843651857942052864<=x/\x<=85070591730234615865843651857942052864) (hy: -85070591730234615865843651857942052864<=y/\y<=85070591730234615865843651857942052864):
 ur (afl (x<0),(x.natAbs:Int) / 18446744073709551616,(x.natAbs:Int)%18446744073709551616) (afl (y<0),(y.natAbs:Int) / 18446744073709551616,(y.natAbs:Int)%18446744073709551616)=
  afb (afl (x+y<0),((x+y).natAbs:Int) / 18446744073709551616,((x+y).natAbs:Int)%18446744073709551616):=by
 have n1:(x.natAbs:Int)<=85070591730234615865843651857942052864:=by omega
 have n2:(y.natAbs:Int)<=85070591730234615865843651857942052864:=by omega
 unfold ur;rw [GL _ _ (rG _ (by omega) n1) (rG _ (by omega) n2)];have ex:((x.natAbs:Int) / 18446744073709551616)*18446744073709551616+(x.natAbs:Int)%18446744073709551616=(x.natAbs:Int):=by omega
 have ey:((y.natAbs:Int) / 18446744073709551616)*18446744073709551616+(y.natAbs:Int)%18446744073709551616=(y.natAbs:Int):=by omega
 simp only [ex,ey,ax];have same: ∀{X Y Z:Int},0<=X->0<=Y->X<=85070591730234615865843651857942052864->Y<=85070591730234615865843651857942052864->Z=X+Y-> ∀b:Bool,
  (bif afl (ai .u64 (X%18446744073709551616+Y%18446744073709551616)<X%18446744073709551616) then afb (b,ai .u64 (ai .u64 (X / 18446744073709551616+Y / 18446744073709551616)+1),ai .u64 (X%18446744073709551616+Y%18446744073709551616))
   else afb (b,ai .u64 (X / 18446744073709551616+Y / 18446744073709551616),ai .u64 (X%18446744073709551616+Y%18446744073709551616)))=afb (b,Z / 18446744073709551616,Z%18446744073709551616):=by
  intro X Y Z h1 h2 h3 h4 h5 b;subst h5;simp only [wu]
  by_cases h:(X%18446744073709551616+Y%18446744073709551616)%18446744073709551616<X%18446744073709551616
  · simp only [h,decide_true,pi,Do,adM,true_and];constructor<;>omega
  simp only [h,decide_false,pp,Do,adM,true_and];constructor<;>omega
 have minus: ∀{X Y Z:Int} (b c:Bool),0<=X->0<=Y->X<=85070591730234615865843651857942052864->Y<=X->Z=X-Y->oV (b,X / 18446744073709551616,X%18446744073709551616) (c,Y / 18446744073709551616,Y%18446744073709551616)=afb (afk,Z / 18446744073709551616,Z%18446744073709551616):=by
  intro X Y Z b c h1 h2 h3 h4 h5;subst h5;unfold oV;simp only [wu]
  by_cases h:X%18446744073709551616<Y%18446744073709551616
  · simp only [h,decide_true,pi,Do,adM,true_and];constructor<;>omega
  simp only [h,decide_false,pp,Do,adM,true_and];constructor<;>omega
 by_cases h1:x<0<;>by_cases h2:y<0
 · have h3:x+y<0:=by omega
   simp only [h1,h2,h3,decide_true,beq_self_eq_true,pi];exact same (by omega) (by omega) n1 n2 (by omega) afd
 · simp only [h1,h2,decide_true,decide_false,show (afd==afk)=afk from rfl,pp,pi]
   by_cases h3:(y.natAbs:Int)<=(x.natAbs:Int)
   · have e:afl (0<=ir (x.natAbs:Int) (y.natAbs:Int))=afd:=by
      rcases dH (x.natAbs:Int) (y.natAbs:Int) with ⟨h,e⟩|⟨h,e⟩|⟨h,e⟩<;>rw [e]<;>first|rfl|omega
     rw [e,minus (Z:=((x+y).natAbs:Int)) _ _ (by omega) (by omega) n1 h3 (by omega)];simp only [pi,ax]
     by_cases h4:x+y=0
     · rw [h4];rfl
     have h5:x+y<0:=by omega
     by_cases h6:0<((x+y).natAbs:Int) / 18446744073709551616
     · simp [h5,h6]
     have h7:0<((x+y).natAbs:Int)%18446744073709551616:=by omega
     simp only [h5,h6,h7,decide_true,decide_false,pp]
   have e:afl (0<=ir (x.natAbs:Int) (y.natAbs:Int))=afk:=by
    rcases dH (x.natAbs:Int) (y.natAbs:Int) with ⟨h,e⟩|⟨h,e⟩|⟨h,e⟩<;>rw [e]<;>first|rfl|omega
   rw [e,minus (Z:=((x+y).natAbs:Int)) _ _ (by omega) (by omega) n2 (by omega) (by omega)];have h5: ¬(x+y<0):=by omega
   simp [h5]
 · simp only [h1,h2,decide_true,decide_false,show (afk==afd)=afk from rfl,pp]
   by_cases h3:(y.natAbs:Int)<=(x.natAbs:Int)
   · have e:afl (0<=ir (x.natAbs:Int) (y.natAbs:Int))=afd:=by
      rcases dH (x.natAbs:Int) (y.natAbs:Int) with ⟨h,e⟩|⟨h,e⟩|⟨h,e⟩<;>rw [e]<;>first|rfl|omega
     rw [e,minus (Z:=((x+y).natAbs:Int)) _ _ (by omega) (by omega) n1 h3 (by omega)];have h5: ¬(x+y<0):=by omega
     simp [h5]
   have e:afl (0<=ir (x.natAbs:Int) (y.natAbs:Int))=afk:=by
    rcases dH (x.natAbs:Int) (y.natAbs:Int) with ⟨h,e⟩|⟨h,e⟩|⟨h,e⟩<;>rw [e]<;>first|rfl|omega
   rw [e,minus (Z:=((x+y).natAbs:Int)) _ _ (by omega) (by omega) n2 (by omega) (by omega)];have h5:x+y<0:=by omega
   simp [h5]
 have h3: ¬(x+y<0):=by omega
 simp only [h1,h2,h3,decide_false,beq_self_eq_true,pi];exact same (by omega) (by omega) n1 n2 (by omega) afk
theorem adP {p q:Pt} {t:Int×Int} (hp:ff p) (hq:ff q) (ht:jw t):xk p q t=afb (ir (xH p q t) 0):=by
 obtain ⟨g1,g2,g3⟩:=QH hp hq ht;unfold xk;rw [u7 g1,u7 g2,uG g1 ht.2,uG g2 ht.1];simp only [ax];rw [XG (te g1 ht.2) (te g2 ht.1)];simp only [ax];rw [show (p.2.1-q.2.1)*t.2+(p.2.2-q.2.2)*t.1=xH p q t from rfl];obtain ⟨a1,a2,a3,a4,a5,a6⟩:=hp;obtain ⟨b1,b2,b3,b4,b5,b6⟩:=hq;have k: ∀{x y:Int},-2097152<=x/\x<=2097152->uF y-> -19342813113834066795298816<=x*y/\x*y<=19342813113834066795298816:=by
  intro x y hx hy;have:((x*y).natAbs:Int)<=2097152*9223372036854775808:=by rw [<- z5];exact aep (by omega) (xq hy) (by omega) (by decide)
  omega
 have k1:=k (x:=p.2.1-q.2.1) (by omega) ht.2;have k2:=k (x:=p.2.2-q.2.2) (by omega) ht.1;have:((xH p q t).natAbs:Int)<=85070591730234615865843651857942052864:=by unfold xH;omega
 rw [GM this];rfl
theorem IK {p q:Pt} {t:Int×Int} (hp:ff p) (hq:ff q) (ht:jw t):oW p q t=afb (afl (leads p q t)):=by
 unfold oW leads;rw [adP hp hq ht];simp only [ax];rcases dH (xH p q t) 0 with ⟨h,e⟩|⟨h,e⟩|⟨h,e⟩<;>rw [e]
 · have h1: ¬(0<xH p q t):=by omega
   have h2: ¬(xH p q t=0):=by omega
   simp [h1,h2]
 · rw [h]
   by_cases h3:p.2.2=q.2.2
   · simp [h3]
   simp [h3,dK h3]
 simp [h]
theorem sx {p q:Pt} {t:Int×Int} (ht:jw t):nK p q t=afb (if ff p/\ff q/\bm t then (if p.1=q.1 then 2 else 0) else 8):=by
 unfold nK;simp only [u9,cw ht,ax]
 by_cases h4:p.1=q.1
 · by_cases h1:ff p<;>by_cases h2:ff q<;>by_cases h3:bm t<;>simp [h1,h2,h3,h4]
 have h5:=eY h4
 by_cases h1:ff p<;>by_cases h2:ff q<;>by_cases h3:bm t<;>simp [h1,h2,h3,h4,h5]
theorem XH {n d:Int} (hn:uF n) (hd:uF d):uz n d=kq n d:=by
 unfold uz kq
 by_cases h0:d=0
 · subst h0;rfl
 have e0:(d==0)=afk:=by simpa using h0
 simp only [e0,pp,jq hn,jq hd,ic hn,ic hd,ax,x5,nT];have hp:0<EQ n.natAbs d.natAbs:=aew _ (by omega);have e1:((EQ n.natAbs d.natAbs:Int)==0)=afk:=by simp;omega
 simp only [e1,pp];unfold wD nF;simp only [show afl ((0:Int)<0)=afk from rfl,pp]
 by_cases h3:n=0
 · subst h3
   have z: ∀k:Int,ai .u64 (acl (((0:Int).natAbs:Nat):Int) k)=0:=fun k=>by rw [show (((0:Int).natAbs:Nat):Int)=0 from rfl,Int.zero_tdiv];rfl
   have z2:ai .i64 0=0:=rfl;have z3:ai .i64 (0-0)=0:=rfl;simp only [z,z2,z3,show ((0:Int) !=0)=afk from rfl,pp,show afl ((0:Int)<0)=afk from rfl];cases (!(afk==afl (d<0)))<;>simp
 simp only [dK h3]
 cases (!(afl (n<0)==afl (d<0)))<;>rfl
noncomputable def met (p q:Pt):Int×Int:=((kq (p.2.1-q.2.1) (q.2.2-p.2.2)).getD ((0,0),0)).1
theorem KT {n d:Int} (hn: -2097152<=n/\n<=2097152) (hd: -2097152<=d/\d<=2097152) (h0:d≠0): ∃r,kq n d=afb (r,0)/\bm r/\jw r/\r.1*d=n*r.2:=by
 have hn':uF n:=by constructor<;>omega
 have hd':uF d:=by constructor<;>omega
 unfold kq;have e0:(d==0)=afk:=by simpa using h0
 have hp:0<EQ n.natAbs d.natAbs:=aew _ (by omega);have e1:((EQ n.natAbs d.natAbs:Int)==0)=afk:=by simp;omega
 simp only [e0,pp,ic hn',ic hd',ax,nT,e1];have q1:acl (n.natAbs:Int) (EQ n.natAbs d.natAbs:Int)=((n.natAbs / EQ n.natAbs d.natAbs:Nat):Int):=by rw [aeS]
 have q2:acl (d.natAbs:Int) (EQ n.natAbs d.natAbs:Int)=((d.natAbs / EQ n.natAbs d.natAbs:Nat):Int):=by rw [aeS]
 rw [q1,q2];have l1:n.natAbs / EQ n.natAbs d.natAbs<=2097152:=af3 (aeL _ _) (by omega);have l2:d.natAbs / EQ n.natAbs d.natAbs<=2097152:=af3 (aeL _ _) (by omega);have l3:1<=d.natAbs / EQ n.natAbs d.natAbs:=Nat.div_pos (Nat.le_of_dvd (by omega) (aeu _ _)) hp;have co:EQ (d.natAbs / EQ n.natAbs d.natAbs) (n.natAbs / EQ n.natAbs d.natAbs)=1:=by rw [ae1,Nat.gcd_div (aeH _ _) (aeu _ _)];exact Nat.div_self hp
 have v1:n.natAbs=EQ n.natAbs d.natAbs*(n.natAbs / EQ n.natAbs d.natAbs):=(aeC (aeH _ _)).symm;have v2:d.natAbs=EQ n.natAbs d.natAbs*(d.natAbs / EQ n.natAbs d.natAbs):=(aeC (aeu _ _)).symm;have val:(n.natAbs:Int)*((d.natAbs / EQ n.natAbs d.natAbs:Nat):Int)=(d.natAbs:Int)*((n.natAbs / EQ n.natAbs d.natAbs:Nat):Int):=by
  generalize n.natAbs / EQ n.natAbs d.natAbs=a at*;generalize d.natAbs / EQ n.natAbs d.natAbs=b at*;generalize EQ n.natAbs d.natAbs=g at*;rw [v1,v2,aeM,aeM,aeT,aeT,ae8 (a:Int) (b:Int)]
 clear v1 v2;generalize n.natAbs / EQ n.natAbs d.natAbs=a at*;generalize d.natAbs / EQ n.natAbs d.natAbs=b at*;have w1:ai .u64 (a:Int)=a:=by rw [wu];omega
 have w2:ai .u64 (b:Int)=b:=by rw [wu];omega
 have made: ∀s:Bool,nF s (afk,0,(a:Int)) (afk,0,(b:Int))=afb ((if s=afd then -(a:Int) else a,(b:Int)),0):=by
  intro s;unfold nF;have d1:afl (9223372036854775807<(a:Int))=afk:=by simp;omega
  have d2:afl (9223372036854775807<(b:Int))=afk:=by simp;omega
  have v1:ai .i64 (a:Int)=a:=by rw [wi];omega
  have v2:ai .i64 (b:Int)=b:=by rw [wi];omega
  have v3:ai .i64 (0- (a:Int))= -(a:Int):=by rw [wi];omega
  simp only [show afl ((0:Int)<0)=afk from rfl,pp,d1,d2,v1,v2,v3];cases s<;>simp
 have fin: ∀s:Bool,(if s=afd then -(a:Int) else a)*d=n*b-> ∃r,(afb ((if s=afd then -(a:Int) else a,(b:Int)),(0:Int)):Option ((Int×Int)×Int))=afb (r,0)/\bm r/\jw r/\r.1*d=n*r.2:=by
  intro s hv;refine ⟨_,rfl,?_,?_,hv⟩
  · unfold bm
    dsimp only;refine ⟨by omega,?_,?_⟩
    · cases s
      · simp only [aeG,if_false];omega
      simp only [if_true];omega
    rw [show (if s=afd then -(a:Int) else (a:Int)).natAbs=a by cases s<;>simp,show ((b:Int)).natAbs=b by omega];exact co
  constructor
  · dsimp only;cases s
    · simp only [aeG,if_false];constructor<;>omega
    simp only [if_true];constructor<;>omega
  dsimp only;constructor<;>omega
 simp only [w1,w2,made,ax]
 by_cases h1:(!(afl (n<0)==afl (d<0)))=afd
 · rw [h1]
   refine fin (n !=0) ?_
   by_cases RK:n=0
   · subst RK
     have a0:(a:Int)=0:=by
      have:((d.natAbs:Nat):Int)*(a:Int)=0:=by rw [<- val];simp
      rcases Int.mul_eq_zero.1 this with h|h
      · omega
      exact h
     simp [a0]
   have e:(n !=0)=afd:=by simpa using RK
   rw [e,rc rfl]
   by_cases QI:n<0
   · have hd0: ¬d<0:=fun k=>by simp [QI,k] at h1
     have x1:(n.natAbs:Int)= -n:=by omega
     have x2:(d.natAbs:Int)=d:=by omega
     rw [x1,x2,ae5] at val;rw [ae5,ae8];omega
   have hd0:d<0:=by
    by_cases k:d<0
    · exact k
    simp [QI,k] at h1
   have x1:(n.natAbs:Int)=n:=by omega
   have x2:(d.natAbs:Int)= -d:=by omega
   rw [x1,x2,ae5] at val;rw [ae5,ae8];omega
 rw [aex] at h1;rw [h1]
 refine fin afk ?_;rw [ut (by simp)]
 by_cases QI:n<0
 · have hd0:d<0:=by
    by_cases k:d<0
    · exact k
    simp [QI,k] at h1
   have x1:(n.natAbs:Int)= -n:=by omega
   have x2:(d.natAbs:Int)= -d:=by omega
   rw [x1,x2,ae5,ae5] at val;rw [ae8];omega
 have hd0: ¬d<0:=fun k=>by simp [QI,k] at h1
 have x1:(n.natAbs:Int)=n:=by omega
 have x2:(d.natAbs:Int)=d:=by omega
 rw [x1,x2] at val;rw [ae8];omega
theorem Bb {p q:Pt} (hp:ff p) (hq:ff q) (h:p.2.2≠q.2.2):kq (p.2.1-q.2.1) (q.2.2-p.2.2)=afb (met p q,0)/\bm (met p q)/\jw (met p q)/\(met p q).1*(q.2.2-p.2.2)=(p.2.1-q.2.1)*(met p q).2:=by
 obtain ⟨a1,a2,a3,a4,a5,a6⟩:=hp;obtain ⟨b1,b2,b3,b4,b5,b6⟩:=hq;obtain ⟨r,h1,h2,h3⟩:=KT (n:=p.2.1-q.2.1) (d:=q.2.2-p.2.2) (by omega) (by omega) (by omega);have:met p q=r:=by unfold met;rw [h1];rfl
 rw [this];exact ⟨h1,h2,h3⟩
theorem Fy {p q:Pt} (hp:ff p) (hq:ff q):ai .i64 (p.2.1-q.2.1)=p.2.1-q.2.1/\ai .i64 (q.2.2-p.2.2)=q.2.2-p.2.2/\uF (p.2.1-q.2.1)/\uF (q.2.2-p.2.2):=by
 obtain ⟨a1,a2,a3,a4,a5,a6⟩:=hp;obtain ⟨b1,b2,b3,b4,b5,b6⟩:=hq;have h1:uF (p.2.1-q.2.1):=by constructor<;>omega
 have h2:uF (q.2.2-p.2.2):=by constructor<;>omega
 exact ⟨u7 h1,u7 h2,h1,h2⟩
noncomputable def iT (h l:Pt) (t:Int×Int):(Int×Int)×Bool:=if leads l h t then (t,afd) else if h.2.2<l.2.2 then (met h l,afd) else ((0,0),afk)
theorem adQ {p q:Pt} (hp:ff p) (hq:ff q) (h:p.2.2≠q.2.2):xl p q=afb (met p q):=by obtain ⟨w1,w2,_,_⟩:=Fy hp hq;unfold xl;rw [w1,w2,(Bb hp hq h).1];rfl
theorem KU {h l:Pt} {t:Int×Int} (hh:ff h) (hl:ff l) (ht:jw t):oq h l t=afb (iT h l t):=by
 unfold oq iT;rw [IK hl hh ht];simp only [ax]
 by_cases h1:leads l h t
 · simp [h1]
 simp only [h1,decide_false,pp,if_false]
 by_cases h2:h.2.2<l.2.2
 · simp [h2,adQ hh hl (by omega)]
 simp [h2]
theorem QJ:bm (0,1):=by unfold bm;decide
theorem B5 {h l:Pt} {t:Int×Int} (ht:jw t):
 pY h l t=afb (if ff h/\ff l/\bm t/\h.1≠l.1 then ((iT h l t).1,(iT h l t).2,0) else ((0,0),afk,if ff h/\ff l/\bm t then 2 else 8)):=by
 unfold pY;rw [sx ht]
 by_cases h1:ff h/\ff l/\bm t
 · rw [rc h1]
   by_cases h2:h.1=l.1
   · simp [h1,h2]
   obtain ⟨hh,hl,hr⟩:=h1
   rw [ut h2,rc ⟨hh,hl,hr,h2⟩];simp only [ax,show ((0:Int) !=0)=afk from rfl,pp,rH hl hh ht];unfold iT
   by_cases h3:leads l h t
   · have:afl (0<KS l h t)=afd:=by simpa using (DS l h t).2 h3
     rw [this];simp [h3]
   have:afl (0<KS l h t)=afk:=decide_eq_false fun k=>h3 ((DS l h t).1 k)
   rw [this,ut h3];simp only [pp]
   by_cases h4:h.2.2<l.2.2
   · have e:afl (l.2.2<=h.2.2)=afk:=by simp;omega
     rw [e,rc h4];unfold wE;obtain ⟨w1,w2,i1,i2⟩:=Fy hh hl;have e2:(h.2.2==l.2.2)=afk:=by simp;omega
     rw [sx (by constructor<;>constructor<;>decide),rc ⟨hh,hl,QJ⟩,ut h2];simp only [ax,show ((0:Int) !=0)=afk from rfl,pp,e2,w1,w2,XH i1 i2,(Bb hh hl (by omega)).1];rfl
   have e:afl (l.2.2<=h.2.2)=afd:=by simp;omega
   rw [e,ut h4];rfl
 rw [ut h1,ut (fun h=>h1 ⟨h.1,h.2.1,h.2.2.1⟩),ut h1];rfl
theorem z6 {h l:Pt} {t:Int×Int} (hh:ff h) (hl:ff l) (ht:jw t) (hr:bm t) (h2:(iT h l t).2=afd):bm (iT h l t).1/\jw (iT h l t).1:=by
 unfold iT at*
 by_cases h3:leads l h t
 · rw [rc h3];exact ⟨hr,ht⟩
 rw [ut h3] at h2 ⊢
 by_cases h4:h.2.2<l.2.2
 · rw [rc h4];have:=(Bb hh hl (by omega)).2;exact ⟨this.1,this.2.1⟩
 rw [ut h4] at h2;cases h2
theorem KV: ∀(n:Nat) (l:List Nat),l.Nodup->(∀x∈l,x<n)->afa l<=n
 |0,l,_,h=>by
  cases l with
  |nil=>simp
  |cons a l=>exact absurd (h a (by simp)) (by omega)
 |n+1,l,hd,h=>by
  have h1:=KV n (l.filter (fun x=>x≠n)) (hd.filter _) (by
   intro x hx;rw [aeQ] at hx;have:=h x hx.1;have h2:x≠n:=by simpa using hx.2
   omega)
  have h2:(afa l)<=(l.filter (fun x=>x≠n)).length+1:=by
   clear h1 h
   induction l with
   |nil=>simp
   |cons a l ih=>
    rw [ae6] at hd;have:=ih hd.2
    by_cases ha:a=n
    · subst ha
      have e:l.filter (fun x=>decide (x≠a))=l:=by rw [List.filter_eq_self];intro x hx;simp only [ne_eq,decide_eq_true_eq];rintro rfl;exact hd.1 hx
      rw [List.filter_cons_of_neg (by simp),e];simp
    rw [List.filter_cons_of_pos (by simpa using ha)]
    simp only [aeI];omega
  omega
theorem BH {n:Nat} {l:List Nat} (hd:l.Nodup) (h: ∀x∈l,x<n) (hn:n<=afa l): ∀x,x<n->x∈l:=by
 intro x hx;refine NE fun hc=>?_
 have:=KV n (x::l) (by rw [ae6];exact ⟨hc,hd⟩) (by
  intro y hy;rcases aeV.1 hy with rfl|hy
  · exact hx
  exact h y hy)
 simp only [aeI] at this;omega
def jr (l:List Pt):Prop:= ∀i,i+1<afa l->(l[i]!).1<(l[i+1]!).1
def dQ (l:List Pt):Prop:=afa l<=64/\(∀p∈l,ff p)/\jr l
noncomputable def qH (l:List Pt):Int:=if 64<(afa l) then 4 else if¬(∀p∈l,ff p) then 8 else if¬jr l then 32 else 0
theorem o6 {l:List Pt}:qH l=0↔dQ l:=by
 unfold qH dQ
 by_cases h1:64<afa l
 · rw [rc h1];simp;omega
 rw [ut h1]
 by_cases h2: ∀p∈l,ff p
 · rw [ut (ww.2 h2)]
   by_cases h3:jr l
   · rw [ut (ww.2 h3)]
     exact ⟨fun _=>⟨by omega,h2,h3⟩,fun _=>rfl⟩
   rw [rc h3]
   exact ⟨fun h=>(by cases h),fun h=>absurd h.2.2 h3⟩
 rw [rc h2]
 constructor
 · intro h;cases h
 intro h;exact absurd h.2.1 h2
theorem ba {n:Nat} (h:n<1000000000):ai .i64 ((n:Int)+1)=((n+1:Nat):Int):=by rw [wi];omega
theorem uH {n:Nat} (h:n<1000000000) (h1:1<=n):ai .i64 ((n:Int) -1)=((n-1:Nat):Int):=by rw [wi];omega
theorem aB (n:Nat):v6 n=(n:Int):=rfl
theorem IL (l:List Pt) (h:(afa l)<=64):aE gz (1,l)=afb (.done (if jr l then 0 else 32)):=by
 by_cases hl:(afa l)<=1
 · have:jr l:=fun i hi=>by omega
   rw [rc this];refine aI ?_;unfold gz;rw [aB];have:afl ((1:Int)<((afa l):Int))=afk:=by simp;omega
   simp [this]
 have key:=c7 (body:=gz) (fun i=>(((i+1:Nat):Int),l)) (afa l-1) (fun i=>(l[i+1]!).1<=(l[i]!).1) (r:= .done 32) (e:= .done 0) (by
  intro i hi;have e1:afl (((i+1:Nat):Int)<((afa l):Int))=afd:=by simp;omega
  have e2:ai .i64 (((i+1:Nat):Int) -1)=(i:Int):=by rw [wi];omega
  have hb:gz (((i+1:Nat):Int),l)=bif afl ((l[i+1]!).1<=(l[i]!).1) then afb (.done (.done 32)) else afb (.next (((i+1+1:Nat):Int),l)):=by unfold gz;simp only [aB,e1,pi,e2,az l i (by omega),az l (i+1) (by omega),ax,ba (show i+1<1000000000 by omega)]
  constructor
  · intro hc;rw [hb,decide_eq_true hc];rfl
  · intro hc;rw [hb,decide_eq_false hc];rfl) (by
  unfold gz;have:afl (((afa l-1+1:Nat):Int)<v6 (afa l))=afk:=by rw [aB];simp;omega
  simp only [this,pp])
 by_cases hs:jr l
 · rw [rc hs]
   refine key.2 fun i hi=>?_
   have:=hs i (by omega);omega
 rw [ut hs]
 refine key.1 ?_;unfold jr at hs;simp only [IR] at hs;obtain ⟨i,hi,h2⟩:=hs;exact ⟨i,by omega,by omega⟩
theorem DT (f:Field):ry f=afb (qH f.am):=by
 unfold ry qH;rw [aB]
 by_cases h:64<afa f.am
 · have:afl ((64:Int)<((afa f.am):Int))=afd:=by simp;omega
   rw [this,rc h];rfl
 have:afl ((64:Int)<((afa f.am):Int))=afk:=by simp;omega
 rw [this,ut h];simp only [pp];generalize f.am=l at*;have key:=c7 (body:=kg) (fun i=>((i:Int),l)) (afa l) (fun i=> ¬ff l[i]!) (r:=8) (e:=if jr l then 0 else 32) (by
  intro i hi;have e1:afl ((i:Int)<((afa l):Int))=afd:=by simp;omega
  have hb:kg ((i:Int),l)=bif (if ff l[i]! then (0:Int) else 8) !=0 then afb (.done 8) else afb (.next (((i+1:Nat):Int),l)):=by unfold kg;simp only [aB,e1,pi,az l i (by omega),ax,DR,ba (show i<1000000000 by omega)]
  constructor
  · intro hc;rw [hb,ut hc];rfl
  · intro hc;rw [hb,rc (ww.1 hc)];rfl) (by
  unfold kg;have:afl (((afa l):Int)<v6 (afa l))=afk:=by rw [aB];simp
  simp only [this,pp];exact IL l (by omega))
 by_cases hp: ∀p∈l,ff p
 · rw [ut (ww.2 hp)]
   refine (key.2 fun i hi=>?_).trans ?_
   · exact ww.2 (hp _ (bj hi))
   by_cases hs:jr l
   · simp [hs]
   simp [hs]
 rw [rc hp]
 refine key.1 ?_;obtain ⟨p,hp⟩:=IR.1 hp;obtain ⟨hm,h2⟩:=ae2.1 hp;obtain ⟨i,hi,rfl⟩:=aS.1 hm;exact ⟨i,hi,h2⟩
theorem IM (l:List Pt) (h:(afa l)<=64):aE gC (l,((afa l):Int),0,l)=afb (.done (if jr l then 0 else 32)):=by
 have key:=c7 (body:=gC) (fun i=>(l,((afa l):Int),(i:Int),l)) (afa l) (fun i=>0<i/\(l[i]!).1<=(l[i-1]!).1) (r:= .done 32) (e:= .done 0) (by
  intro i hi;have e1:afl ((i:Int)<((afa l):Int))=afd:=by simp;omega
  by_cases h0:0<i
  · have e3:afl ((0:Int)<(i:Int))=afd:=by simp;omega
    have hb:gC (l,((afa l):Int),(i:Int),l)=bif afl ((l[i]!).1<=(l[i-1]!).1) then afb (.done (.done 32)) else afb (.next (l,((afa l):Int),((i+1:Nat):Int),l)):=by unfold gC;simp only [e1,e3,pi,az l i (by omega),uH (show i<1000000000 by omega) h0,az l (i-1) (by omega),ax,ba (show i<1000000000 by omega)]
    constructor
    · intro hc;rw [hb,decide_eq_true hc.2];rfl
    intro hc
    have: ¬(l[i]!).1<=(l[i-1]!).1:=fun h=>hc ⟨h0,h⟩
    rw [hb,decide_eq_false this];rfl
  · have e3:afl ((0:Int)<(i:Int))=afk:=by simp;omega
    constructor
    · intro hc;exact absurd hc.1 h0
    intro _
    unfold gC;simp only [e1,e3,pi,pp,az l i (by omega),ax,ba (show i<1000000000 by omega)]) (by
  unfold gC;have:afl (((afa l):Int)<((afa l):Int))=afk:=by simp
  simp only [this,pp])
 by_cases hs:jr l
 · rw [rc hs]
   refine key.2 fun i hi=>?_
   rintro ⟨h0,h1⟩;have:=hs (i-1) (by omega);rw [show i-1+1=i by omega] at this;omega
 rw [ut hs]
 refine key.1 ?_;unfold jr at hs;simp only [IR] at hs;obtain ⟨i,hi,h2⟩:=hs;exact ⟨i+1,by omega,by omega,by rw [show i+1-1=i by omega];omega⟩
theorem qI (f:Field):jd f=afb (qH f.am):=by
 unfold jd qH;rw [aB]
 by_cases h:64<afa f.am
 · have:afl ((64:Int)<((afa f.am):Int))=afd:=by simp;omega
   rw [this,rc h];rfl
 have:afl ((64:Int)<((afa f.am):Int))=afk:=by simp;omega
 rw [this,ut h];simp only [pp];generalize f.am=l at*;have key:=c7 (body:=kr) (fun i=>(l,((afa l):Int),(i:Int),l)) (afa l) (fun i=> ¬ff l[i]!) (r:=8) (e:=if jr l then 0 else 32) (by
  intro i hi;have e1:afl ((i:Int)<((afa l):Int))=afd:=by simp;omega
  have hb:kr (l,((afa l):Int),(i:Int),l)=bif (if ff l[i]! then (0:Int) else 8) !=0 then afb (.done (if ff l[i]! then (0:Int) else 8)) else afb (.next (l,((afa l):Int),((i+1:Nat):Int),l)):=by unfold kr;simp only [e1,pi,az l i (by omega),ax,u9,ba (show i<1000000000 by omega)]
  constructor
  · intro hc;rw [hb,ut hc];rfl
  · intro hc;rw [hb,rc (ww.1 hc)];rfl) (by
  unfold kr;have:afl (((afa l):Int)<((afa l):Int))=afk:=by simp
  simp only [this,pp];exact IM l (by omega))
 by_cases hp: ∀p∈l,ff p
 · rw [ut (ww.2 hp)]
   refine (key.2 fun i hi=>?_).trans ?_
   · exact ww.2 (hp _ (bj hi))
   by_cases hs:jr l
   · simp [hs]
   simp [hs]
 rw [rc hp]
 refine key.1 ?_;obtain ⟨p,hp⟩:=IR.1 hp;obtain ⟨hm,h2⟩:=ae2.1 hp;obtain ⟨i,hi,rfl⟩:=aS.1 hm;exact ⟨i,hi,h2⟩
theorem qf {l:List Pt} (h:jr l) {i j:Nat} (mf:i<j) (hj:j<afa l):(l[i]!).1<(l[j]!).1:=by
 induction j with
 |zero=>omega
 |succ j ih=>
  have h1:=h j hj
  by_cases he:i=j
  · subst he;exact h1
  have:=ih (by omega) (by omega);omega
theorem DU {l:List Pt} (h:jr l) {i j:Nat} (hi:i<afa l) (hj:j<afa l) (he:(l[i]!).1=(l[j]!).1):i=j:=by
 rcases Nat.lt_trichotomy i j with h1|h1|h1
 · have:=qf h h1 hj;omega
 · exact h1
 have:=qf h h1 hi;omega
theorem BI (l:List Pt) (id:Int) (hl:(afa l)<=1000000):(∀k,k<afa l->(l[k]!).1=id->(∀j,j<k->(l[j]!).1≠id)->gA ⟨l⟩ id=afb (k:Int))/\((∀k,k<afa l->(l[k]!).1≠id)->gA ⟨l⟩ id=afb (-1)):=by
 unfold gA;refine gZ (body:=oT) (fun i=>(id,(i:Int),l)) (afa l) (fun i=>(l[i]!).1=id) (fun i=>(i:Int)) (fun i hi=>?_) ?_
 · have e1:afl ((i:Int)<((afa l):Int))=afd:=by simp;omega
   have hb:oT (id,(i:Int),l)=bif (l[i]!).1==id then afb (.done (i:Int)) else afb (.next (id,((i+1:Nat):Int),l)):=by unfold oT;simp only [aB,e1,pi,az l i hi,ax,ba (show i<1000000000 by omega)]
   constructor
   · intro hc;rw [hb,fb hc];rfl
   intro hc;rw [hb,eY hc];rfl
 unfold oT
 have:afl (((afa l):Int)<((afa l):Int))=afk:=by simp
 simp only [aB,this,pp]
theorem N1 {l:List Pt} (hs:jr l) (hl:(afa l)<=1000000) {k:Nat} (hk:k<afa l) {id:Int} (he:(l[k]!).1=id):gA ⟨l⟩ id=afb (k:Int):=by
 refine (BI l id hl).1 k hk he fun j hj hc=>?_
 have:=qf hs hj hk;omega
theorem XI {l:List Pt} (hl:(afa l)<=1000000) {id:Int} (h: ∀k,k<afa l->(l[k]!).1≠id):gA ⟨l⟩ id=afb (-1):=(BI l id hl).2 h
theorem IN (f:Nat->Int) (id:Int): ∀(n:Nat),(∀i j,i<j->j<n->f i<f j)-> ∃m,m<=n/\(∀i,i<m->f i<id)/\(∀i,m<=i->i<n->id<=f i)
 |0,_=>⟨0,aez _,fun i h=>by omega,fun i _ h=>by omega⟩
 |n+1,h=>by
  obtain ⟨m,h1,h2,h3⟩:=IN f id n fun i j a b=>h i j a (by omega)
  by_cases hm:m=n
  · by_cases hf:f n<id
    · refine ⟨n+1,aez _,fun i hi=>?_,fun i a b=>by omega⟩
      by_cases he:i=n
      · subst he;exact hf
      exact h2 i (by omega)
    refine ⟨n,by omega,fun i hi=>h2 i (by omega),fun i a b=>?_⟩
    have:i=n:=by omega
    subst this;omega
  refine ⟨m,by omega,h2,fun i a b=>?_⟩
  by_cases he:i=n
  · subst he
    have:=h m i (by omega) (by omega);have:=h3 m (aez _) (by omega);omega
  exact h3 i a (by omega)
theorem db {α:Type} [Inhabited α] {l:List α}:l.Nodup↔ ∀i j,i<j->j<afa l->l[i]!≠l[j]!:=by
 unfold List.Nodup;rw [List.pairwise_iff_getElem];constructor
 · intro h i j mf hj
   rw [getElem!_pos l i (by omega),getElem!_pos l j hj];exact h i j (by omega) hj mf
 intro h i j hi hj mf
 have:=h i j mf hj
 rwa [getElem!_pos l i hi,getElem!_pos l j hj] at this
theorem cN {α:Type} [Inhabited α] {l:List α} {k:Nat} {x:α}:x∈l.take k↔ ∃i,i<k/\i<afa l/\l[i]! =x:=by
 rw [aS];constructor
 · rintro ⟨i,hi,rfl⟩
   rw [adV] at hi;exact ⟨i,by omega,by omega,(jK (by omega)).symm⟩
 rintro ⟨i,h1,h2,rfl⟩
 exact ⟨i,by rw [adV];omega,jK h1⟩
theorem iU {α:Type} [Inhabited α] {l:List α} {k:Nat} (h:k<afa l):l.take (k+1)=l.take k++[l[k]!]:=by rw [List.take_add_one,aev h,getElem!_pos l k h];rfl
def marks (l:List Bool):List Int->List Bool
 | []=>l
 |x::r=>marks (cb l x afd) r
theorem kM: ∀(r:List Int) (l:List Bool),(marks l r).length=afa l
 | [],_=>rfl
 |x::r,l=>by rw [marks,kM r,vU]
theorem yT: ∀(r:List Int) (l:List Bool) (x:Int),marks l (r++[x])=cb (marks l r) x afd
 | [],_,_=>rfl
 |y::r,l,x=>by show marks (cb l y afd) (r++[x])=_;rw [yT r];rfl
theorem lX : ∀ (r : List Int) (l : List Bool) (i : Nat), (∀ x ∈ r, 0 <= x) -> i < (afa l) -> (marks l r)[i]! = (l[i]! || afl ((i : Int) ∈ r))
  | [], l, i, _, _ => by simp [marks]
  | x :: r, l, i, h, hi => by
    rw [marks, lX r _ i (fun y hy => h y (by simp [hy])) (by rw [vU]; exact hi)]
    obtain ⟨k, rfl⟩ := ae0 (h x (by simp))
    rw [k9, bg]
    by_cases e : i = k
    · subst e; rw [rc ⟨rfl, hi⟩]; simp
    rw [ut (fun h => e h.1)]
    have : ((i : Int) ∈ (k : Int) :: r) ↔ (i : Int) ∈ r := by
      rw [aeV]
      constructor
      · rintro (h | h)
        · omega
        exact h
      exact .inr
    simp only [this]
theorem DV (l:List Bool) (h:(afa l)<=1000000):dF l afk=afb (afl (afk∈l)):=by
 unfold dF mP;have key:=gZ (body:=fD) (fun i=>(l,afk,((afa l):Int),(i:Int))) (afa l) (fun i=>l[i]! =afk) (fun i=>(i:Int)) (e:= -1) (fun i hi=>by
  have e1:afl ((i:Int)<((afa l):Int))=afd:=by simp;omega
  have hb:fD (l,afk,((afa l):Int),(i:Int))=bif afk==l[i]! then afb (.done (i:Int)) else afb (.next (l,afk,((afa l):Int),((i+1:Nat):Int))):=by unfold fD;simp only [e1,pi,az l i hi,ax,ba (show i<1000000000 by omega)]
  constructor
  · intro hc;rw [hb,hc];rfl
  · intro hc
    have:l[i]! =afd:=by simpa using hc
    rw [hb,this];rfl) (by
  unfold fD;have:afl (((afa l):Int)<((afa l):Int))=afk:=by simp
  simp only [this,pp])
 rw [aB]
 by_cases hx:afk∈l
 · obtain ⟨i,hi,he⟩:=aS.1 hx
   obtain ⟨k,h1,h2,h3⟩:=least (c:=fun i=>l[i]! =afk) ⟨i,hi,he⟩;have:=key.1 k h1 h2 h3;rw [show ((0:Nat):Int)=0 from rfl] at this;rw [this];have e:afl ((0:Int)<=(k:Int))=afd:=by simp
   simp [hx]
 have:=key.2 fun i hi he=>hx (aS.2 ⟨i,hi,he⟩)
 rw [show ((0:Nat):Int)=0 from rfl] at this;rw [this];simp [hx]
structure dW (s:aQ):Prop where
 n1:1<=afa s.au
 n2:(afa s.au)<=200
 ul:(afa s.be)=afa s.au
 fr: ∀x∈s.bi,0<=x/\x<afa s.au
 fd:s.bi.Nodup
 uf: ∀i,i<afa s.au->(s.be[i]! =afd↔(i:Int)∉s.bi)
 us: ∀i,i<afa s.au->0<=s.au[i]!/\s.au[i]!<=1000000/\(s.be[i]! =afd->1<=s.au[i]!)
theorem KW (au:List Int) (be:List Bool) (fr:List Int) (h1:(afa au)<=200) (h2:(afa be)=afa au):
 aE fy (au,((afa au):Int),0,au,be,fr)=afb (.done (if∀i,i<afa au->0<=au[i]!/\au[i]!<=1000000/\(be[i]! =afd->1<=au[i]!) then 0 else 8)):=by
 have key:=c7 (body:=fy) (fun i=>(au,((afa au):Int),(i:Int),au,be,fr)) (afa au) (fun i=> ¬(0<=au[i]!/\au[i]!<=1000000/\(be[i]! =afd->1<=au[i]!))) (r:= .done 8) (e:= .done 0) (fun i hi=>by
  have e1:afl ((i:Int)<((afa au):Int))=afd:=by simp;omega
  have hb:fy (au,((afa au):Int),(i:Int),au,be,fr)=bif afl (au[i]!<0) then afb (.done (.done 8)) else bif afl (1000000<au[i]!) then afb (.done (.done 8)) else bif au[i]! ==0 then (bif be[i]! then afb (.done (.done 8)) else afb (.next (au,((afa au):Int),((i+1:Nat):Int),au,be,fr))) else afb (.next (au,((afa au):Int),((i+1:Nat):Int),au,be,fr)):=by unfold fy;simp only [e1,pi,az au i hi,az be i (by omega),ax,ba (show i<1000000000 by omega)]
  rw [hb];generalize au[i]! =u at*
  by_cases a1:u<0
  · simp [a1];omega
  · by_cases a2:1000000<u
    · simp [a1,a2];omega
    by_cases a3:u=0
    · subst a3
      cases be[i]!<;>simp
    have a4:1<=u:=by omega
    have a5:0<=u:=by omega
    have a6:u<=1000000:=by omega
    simp [a1,a2,eY a3,a4,a5,a6]) (by
  unfold fy;have:afl (((afa au):Int)<((afa au):Int))=afk:=by simp
  simp only [this,pp])
 by_cases hc: ∀i,i<afa au->0<=au[i]!/\au[i]!<=1000000/\(be[i]! =afd->1<=au[i]!)
 · rw [rc hc]
   exact key.2 fun i hi=>ww.2 (hc i hi)
 rw [ut hc]
 simp only [IR] at hc;obtain ⟨i,hi,hx⟩:=hc;exact key.1 ⟨i,hi,by simpa only [IR] using hx⟩
theorem sy (s:aQ) (hf:(afa s.bi)<=1000000):nI s=afb (if dW s then 0 else 8):=by
 obtain ⟨au,be,fr⟩:=s;dsimp only at hf;unfold nI;simp only [aB]
 by_cases a1:(afa au)<1
 · have e:afl (((afa au):Int)<1)=afd:=by simp;omega
   rw [e,ut (fun h=>by have:=h.n1;dsimp only at this;omega)];rfl
 have e1:afl (((afa au):Int)<1)=afk:=by simp;omega
 by_cases a2:200<afa au
 · have e:afl (200<((afa au):Int))=afd:=by simp;omega
   rw [e1,e,ut (fun h=>by have:=h.n2;dsimp only at this;omega)];rfl
 have e2:afl (200<((afa au):Int))=afk:=by simp;omega
 by_cases a3:(afa be)=afa au
 case neg=>
  have e:(((afa be):Int) !=((afa au):Int))=afd:=by simp;omega
  rw [e1,e2,e,ut (fun h=>a3 h.ul)];rfl
 have e3:(((afa be):Int) !=((afa au):Int))=afk:=by simp;omega
 simp only [e1,e2,e3,pp,bo (show (afa be)<=1048576 by omega),ax];have wK:=KW au be fr (by omega) a3;have key:=c7 (body:=ov be) (fun k=>(fr,((afa fr):Int),(k:Int),au,be,fr,((afa au):Int),marks be (fr.take k))) (afa fr)
  (fun k=>fr[k]!<0\/((afa au):Int)<=fr[k]!\/(marks be (fr.take k))[(fr[k]!).toNat]! =afd) (r:=8)
  (e:=if afk∈marks be fr then 8 else if∀i,i<afa au->0<=au[i]!/\au[i]!<=1000000/\(be[i]! =afd->1<=au[i]!) then 0 else 8) (fun k hk=>by
   have f1:afl ((k:Int)<((afa fr):Int))=afd:=by simp;omega
   have f2:((marks be (fr.take k)).length==afa be)=afd:=by rw [kM];simp
   have f3:afl ((0:Int)<=(k:Int))=afd:=by simp
   have f4: ∀x:Int,((cb (marks be (fr.take k)) x afd).length==(marks be (fr.take k)).length)=afd:=by intro x;rw [vU];simp
   have f5:marks be (fr.take (k+1))=cb (marks be (fr.take k)) fr[k]! afd:=by rw [iU hk,yT]
   unfold ov;simp only [f1,f2,f3,f4,pi,beq_self_eq_true,az fr k hk,ax,ba (show k<1000000000 by omega),f5];clear f5;generalize fr[k]! =x
   by_cases b1:x<0
   · simp [b1]
   · by_cases b2:((afa au):Int)<=x
     · simp [b1,b2]
     simp only [b1,b2,decide_false,pp,false_or]
     rw [df (l:=marks be (fr.take k)) (i:=x) (by omega) (by rw [kM];omega)];simp only [ax];cases (marks be (fr.take k))[x.toNat]!<;>simp) (by
   have f1:afl (((afa fr):Int)<((afa fr):Int))=afk:=by simp
   unfold ov;simp only [f1,pp,aeJ];rw [DV _ (by rw [kM];omega)];have f2:((marks be fr).length==afa be)=afd:=by rw [kM];simp
   simp only [f2,pi,ax,aB,wK]
   by_cases hx:afk∈marks be fr
   · simp [hx]
   simp [hx])
 have h0:marks be (fr.take 0)=be:=rfl;rw [show ((0:Nat):Int)=0 from rfl,h0] at key
 by_cases bad: ∃k,k<afa fr/\(fr[k]!<0\/((afa au):Int)<=fr[k]!\/(marks be (fr.take k))[(fr[k]!).toNat]! =afd)
 · rw [key.1 bad,ut]
   intro ok;obtain ⟨k,hk,hb⟩:=bad;have hr:=ok.fr fr[k]! (bj hk);dsimp only at hr;rcases hb with hb|hb|hb
   · omega
   · omega
   rw [lX _ _ _ (fun x hx=>(ok.fr x (adT hx)).1) (by omega)] at hb
   have hi:((fr[k]!).toNat:Int)=fr[k]!:=by omega
   rw [hi,Bool.or_eq_true] at hb;rcases hb with hb|hb
   · have:=(ok.uf (fr[k]!).toNat (by show _<afa au;omega)).1 hb
     rw [hi] at this;exact this (bj hk)
   have hm:fr[k]!∈fr.take k:=by simpa using hb
   obtain ⟨j,h1,h2,h3⟩:=cN.1 hm;exact db.1 ok.fd j k h1 hk h3
 have KX: ∀k,k<afa fr->0<=fr[k]!/\fr[k]!<afa au/\(marks be (fr.take k))[(fr[k]!).toNat]! =afk:=by
  intro k hk;refine ⟨?_,?_,?_⟩
  · exact Int.not_lt.1 fun h=>bad ⟨k,hk,.inl h⟩
  · exact Int.not_le.1 fun h=>bad ⟨k,hk,.inr (.inl h)⟩
  exact aex _▸fun h=>bad ⟨k,hk,.inr (.inr h)⟩
 rw [key.2 fun k hk hb=>bad ⟨k,hk,hb⟩];have XJ: ∀x∈fr,0<=x/\x<((afa au):Int):=by intro x hx;obtain ⟨k,hk,rfl⟩:=aS.1 hx;exact ⟨(KX k hk).1,(KX k hk).2.1⟩
 have g2: ∀k,k<afa fr->be[(fr[k]!).toNat]! =afk/\fr[k]!∉fr.take k:=by intro k hk;obtain ⟨c1,c2,c3⟩:=KX k hk;rw [lX _ _ _ (fun x hx=>(XJ x (adT hx)).1) (by omega),show ((fr[k]!).toNat:Int)=fr[k]! by omega,aeB] at c3;exact ⟨c3.1,by simpa using c3.2⟩
 have nd:fr.Nodup:=db.2 fun i j mf hj he=>(g2 j hj).2 (cN.2 ⟨i,mf,by omega,he⟩)
 by_cases hx:afk∈marks be fr
 · rw [rc hx,ut]
   intro ok;obtain ⟨i,hi,he⟩:=aS.1 hx;rw [kM] at hi;rw [lX _ _ _ (fun x hx=>(XJ x hx).1) hi,aeB] at he;have h3:(i:Int)∉fr:=by simpa using he.2
   have:=(ok.uf i (by show _<afa au;omega)).2 h3;rw [show be[i]! =afk from he.1] at this;cases this
 rw [ut hx]
 by_cases hu: ∀i,i<afa au->0<=au[i]!/\au[i]!<=1000000/\(be[i]! =afd->1<=au[i]!)
 · rw [rc hu,rc]
   refine ⟨by show 1<=afa au;omega,by show (afa au)<=200;omega,a3,XJ,nd,fun i hi=>?_,hu⟩;dsimp only at hi ⊢;constructor
   · intro h1 h2
     obtain ⟨k,hk,he⟩:=aS.1 h2;have:=(g2 k hk).1;rw [he,show ((i:Int)).toNat=i by omega,h1] at this;cases this
   intro h1
   refine NE fun h2=>hx ?_
   refine aS.2 ⟨i,by rw [kM];omega,?_⟩;rw [lX _ _ _ (fun x hx=>(XJ x hx).1) (by omega)];have:be[i]! =afk:=by simpa using h2
   rw [this];simpa using h1
 rw [ut hu,ut]
 intro ok;exact hu ok.us
theorem dW.fl {s:aQ} (ok:dW s):(afa s.bi)<=(afa s.au):=by
 have h:=KV (afa s.au) (s.bi.map af2) (by
  rw [db];intro i j mf hj he;rw [ae7] at hj;have e: ∀k,k<afa s.bi->(s.bi.map af2)[k]! =(s.bi[k]!).toNat:=by intro k hk;rw [getElem!_pos _ k (by simpa using hk),List.getElem_map,getElem!_pos s.bi k hk]
  rw [e i (by omega),e j hj] at he;have h1:=(ok.fr _ (bj (show i<(afa s.bi) by omega))).1;have h2:=(ok.fr _ (bj hj)).1;exact db.1 ok.fd i j mf hj (by omega)) (by
  intro x hx;obtain ⟨y,hy,rfl⟩:=adR.1 hx;have:=ok.fr y hy;omega)
 rwa [ae7] at h
def rI (s:aQ) (h:Int×Int):Prop:=0<=h.1/\h.1<afa s.au/\s.be[h.1.toNat]! =afd/\s.au[h.1.toNat]! =h.2
def eG (s:aQ) (h:Int×Int):aQ:=⟨s.au,s.be.set h.1.toNat afk,s.bi++[h.1]⟩
def cH (s:aQ):Nat:=(s.bi[afa s.bi-1]!).toNat
def vd (s:aQ):Prop:=0<afa s.bi/\s.au[cH s]!<1000000
def fF (s:aQ):aQ:=⟨s.au.set (cH s) (s.au[cH s]!+1),s.be.set (cH s) afd,s.bi.take (afa s.bi-1)⟩
def js (s:aQ):Int×Int:=((cH s:Int),s.au[cH s]!+1)
theorem BJ {s:aQ} (ok:dW s) (h:Int×Int):wG s h=afb (afl (rI s h),0):=by
 have hl:=ok.fl;have hn:=ok.n2;have hu:=ok.ul;unfold wG rI;rw [sy s (by omega),rc ok];simp only [ax,show ((0:Int) !=0)=afk from rfl,pp,aB]
 by_cases a1:0<=h.1
 · by_cases a2:h.1<afa s.au
   · have e2:afl (h.1<((afa s.be):Int))=afd:=by simp;omega
     simp only [a1,a2,e2,decide_true,pi,df (l:=s.be) a1 (by omega),df (l:=s.au) a1 a2,ax,true_and];generalize s.au[h.1.toNat]! =u;cases s.be[h.1.toNat]!<;>simp [My]
   have e2:afl (h.1<((afa s.be):Int))=afk:=by simp;omega
   simp [a1,a2,e2]
 simp [a1]
theorem GN {s:aQ} (ok:dW s) {h:Int×Int} (lv:rI s h):xn s h=afb (eG s h,0):=by
 have hl:=ok.fl;have hn:=ok.n2;have hu:=ok.ul;unfold xn;rw [BJ ok,decide_eq_true lv];unfold pz;obtain ⟨l1,l2,l3,l4⟩:=lv;have e1:cb s.be h.1 afk=s.be.set h.1.toNat afk:=rfl;simp only [ax,show ((0:Int) !=0)=afk from rfl,pp,M2,bo (show (afa s.au)<=1048576 by omega),bo (show (afa s.be)<=1048576 by omega),bo (show (afa s.bi)<=1048576 by omega),
  eZ (show (afa s.bi)+[h.1].length<=1048576 by simp;omega),df (l:=s.be) l1 (by omega),e1,eG]
theorem sA {s:aQ} (ok:dW s):qC s=afb s:=by have hl:=ok.fl;have hn:=ok.n2;have hu:=ok.ul;unfold qC;simp only [ax,bo (show (afa s.au)<=1048576 by omega),bo (show (afa s.be)<=1048576 by omega),bo (show (afa s.bi)<=1048576 by omega)]
theorem DW {s:aQ} (ok:dW s) {h:Int×Int} (lv:rI s h):o5 s h=afb (eG s h):=by have hl:=ok.fl;have hn:=ok.n2;have hu:=ok.ul;obtain ⟨l1,l2,l3,l4⟩:=lv;unfold o5;rw [sA ok];have e1:cb s.be h.1 afk=s.be.set h.1.toNat afk:=rfl;simp only [ax,eZ (show (afa s.bi)+[h.1].length<=1048576 by simp;omega),df (l:=s.be) l1 (by omega),e1,eG]
theorem QK {s:aQ} (ok:dW s) {h:Int×Int} (lv:rI s h):dW (eG s h):=by
 have hl:=ok.fl;have hn:=ok.n2;have hu:=ok.ul;obtain ⟨l1,l2,l3,l4⟩:=lv;have nf:h.1∉s.bi:=by
  have:=(ok.uf h.1.toNat (by omega)).1 l3
  rwa [show (h.1.toNat:Int)=h.1 by omega] at this
 refine ⟨ok.n1,ok.n2,?_,?_,?_,?_,?_⟩
 · show (s.be.set _ _).length=_;rw [v4];exact hu
 · intro x hx
   rcases aey.1 hx with hx|hx
   · exact ok.fr x hx
   rw [aer] at hx;subst hx;exact ⟨l1,l2⟩
 · show (s.bi++[h.1]).Nodup
   rw [List.nodup_append];refine ⟨ok.fd,by simp,?_⟩;intro x hx y hy he;rw [aer] at hy;subst hy;subst he;exact nf hx
 · intro i hi
   change i<(afa s.au) at hi;show (s.be.set h.1.toNat afk)[i]! =afd↔(i:Int)∉s.bi++[h.1];rw [bg,aey,aer]
   by_cases e:i=h.1.toNat
   · rw [rc ⟨e,by omega⟩]
     have:(i:Int)=h.1:=by omega
     simp [this]
   rw [ut (fun k=>e k.1),ok.uf i hi]
   have: ¬(i:Int)=h.1:=by omega
   simp [this]
 intro i hi
 change i<(afa s.au) at hi;obtain ⟨u1,u2,u3⟩:=ok.us i hi;refine ⟨u1,u2,?_⟩;show (s.be.set h.1.toNat afk)[i]! =afd->_;rw [bg];split
 · intro h;cases h
 exact u3
theorem xu {s:aQ} (ok:dW s) (h:0<afa s.bi):cH s<afa s.au/\(cH s:Int)=s.bi[afa s.bi-1]!/\(cH s:Int)∈s.bi:=by
 have hm:=bj (l:=s.bi) (i:=afa s.bi-1) (by omega);have:=ok.fr _ hm;have e:(cH s:Int)=s.bi[afa s.bi-1]!:=by unfold cH;omega
 refine ⟨by omega,e,by rw [e];exact hm⟩
theorem nU {α:Type} (l:List α) (n:Nat) (h:n<=afa l):hM l 0 (n:Int)=afb (l.take n):=by unfold hM;rw [rc ⟨by omega,by omega,by omega⟩];simp
theorem z7 {s:aQ} (ok:dW s):xo s=afb (if vd s then (fF s,js s,0) else (⟨[],[],[]⟩,(0,0),18)):=by
 have hl:=ok.fl;have hn:=ok.n2;have hu:=ok.ul;unfold xo vd;rw [sy s (by omega),rc ok];simp only [ax,show ((0:Int) !=0)=afk from rfl,pp,aB]
 by_cases a1:0<afa s.bi
 · obtain ⟨n1,n2,n3⟩:=xu ok a1
   have e1:(((afa s.bi):Int)==0)=afk:=eY (by omega);have e2:ai .i64 (((afa s.bi):Int) -1)=((afa s.bi-1:Nat):Int):=uH (by omega) (by omega);unfold qB;simp only [e1,pp,aB,e2,nU s.bi (afa s.bi-1) (by omega),ax,bo (show (s.bi.take (afa s.bi-1)).length<=1048576 by rw [adV];omega),
    az s.bi (afa s.bi-1) (by omega),<- n2,az s.au (cH s) n1]
   obtain ⟨u1,u2,u3⟩:=ok.us (cH s) n1
   by_cases a2:s.au[cH s]! =1000000
   · have e3:(s.au[cH s]! ==1000000)=afd:=by simpa using a2
     rw [e3,ut (by omega)];rfl
   have e3:(s.au[cH s]! ==1000000)=afk:=by simpa using a2
   have e4:ai .i64 (s.au[cH s]!+1)=s.au[cH s]!+1:=by rw [wi];omega
   rw [e3,rc (by omega)];simp only [pp,bo (show (afa s.au)<=1048576 by omega),bo (show (afa s.be)<=1048576 by omega),ax,az s.be (cH s) (by omega),az s.au (cH s) n1,e4,k9,
    az (s.au.set (cH s) (s.au[cH s]!+1)) (cH s) (by rw [v4];exact n1),bg,n1,and_self,if_true,fF,js]
 have e1:(((afa s.bi):Int)==0)=afd:=fb (by omega)
 rw [e1,ut (fun h=>a1 h.1)];rfl
theorem oA {s:aQ} (ok:dW s):fU s=afb (afl (vd s)):=by
 have hl:=ok.fl;have hn:=ok.n2;have hu:=ok.ul;unfold fU vd;simp only [aB]
 by_cases a1:0<afa s.bi
 · obtain ⟨n1,n2,n3⟩:=xu ok a1
   have e1:afl ((0:Int)<((afa s.bi):Int))=afd:=by simp;omega
   have e2:ai .i64 (((afa s.bi):Int) -1)=((afa s.bi-1:Nat):Int):=uH (by omega) (by omega);simp only [e1,e2,pi,az s.bi (afa s.bi-1) (by omega),ax,<- n2,az s.au (cH s) n1,a1,true_and]
 have e1:afl ((0:Int)<((afa s.bi):Int))=afk:=decide_eq_false (by omega)
 rw [e1];simp [a1]
theorem DX {s:aQ} (ok:dW s) (h:vd s):wI s=afb (fF s,js s):=by
 have hl:=ok.fl;have hn:=ok.n2;have hu:=ok.ul;obtain ⟨a1,a2⟩:=h;obtain ⟨n1,n2,n3⟩:=xu ok a1;obtain ⟨u1,u2,u3⟩:=ok.us (cH s) n1;unfold wI;rw [sA ok];have e2:ai .i64 (((afa s.bi):Int) -1)=((afa s.bi-1:Nat):Int):=uH (by omega) (by omega);have e4:ai .i64 (s.au[cH s]!+1)=s.au[cH s]!+1:=by rw [wi];omega
 simp only [ax,aB,e2,az s.bi (afa s.bi-1) (by omega),nU s.bi (afa s.bi-1) (by omega),<- n2,az s.au (cH s) n1,az s.be (cH s) (by omega),e4,k9,
  az (s.au.set (cH s) (s.au[cH s]!+1)) (cH s) (by rw [v4];exact n1),bg,n1,and_self,if_true,fF,js,Int.toNat_natCast]
theorem QL {s:aQ} (ok:dW s) (h:vd s):dW (fF s):=by
 have hl:=ok.fl;have hn:=ok.n2;have hu:=ok.ul;obtain ⟨a1,a2⟩:=h;obtain ⟨n1,n2,n3⟩:=xu ok a1;have mt: ∀x:Int,x∈s.bi.take (afa s.bi-1)↔(x∈s.bi/\x≠(cH s:Int)):=by
  intro x;rw [cN];constructor
  · rintro ⟨i,h1,h2,rfl⟩
    refine ⟨bj h2,?_⟩;rw [n2];exact db.1 ok.fd i (afa s.bi-1) h1 (by omega)
  rintro ⟨h1,h2⟩
  obtain ⟨i,hi,rfl⟩:=aS.1 h1;refine ⟨i,?_,hi,rfl⟩;refine NE fun hc=>h2 ?_
  rw [n2,show i=afa s.bi-1 by omega]
 refine ⟨?_,?_,?_,?_,?_,?_,?_⟩
 · show 1<=(s.au.set _ _).length;rw [v4];exact ok.n1
 · show (s.au.set _ _).length<=200;rw [v4];exact ok.n2
 · show (s.be.set _ _).length=(s.au.set _ _).length;rw [v4,v4];exact hu
 · intro x hx
   show 0<=x/\x<((s.au.set _ _).length:Int);rw [v4];exact ok.fr x ((mt x).1 hx).1
 · exact ok.fd.sublist (List.take_sublist _ _)
 · intro i hi
   change i<(s.au.set _ _).length at hi;rw [v4] at hi;show (s.be.set (cH s) afd)[i]! =afd↔(i:Int)∉s.bi.take (afa s.bi-1);rw [bg,mt]
   by_cases e:i=cH s
   · rw [rc ⟨e,by omega⟩]
     simp [e]
   rw [ut (fun k=>e k.1),ok.uf i hi]
   have:(i:Int)≠(cH s:Int):=by omega
   simp [this]
 intro i hi
 change i<(s.au.set _ _).length at hi;rw [v4] at hi;obtain ⟨u1,u2,u3⟩:=ok.us i hi;show 0<=(s.au.set (cH s) (s.au[cH s]!+1))[i]!/\(s.au.set (cH s) (s.au[cH s]!+1))[i]!<=1000000/\((s.be.set (cH s) afd)[i]! =afd->1<=(s.au.set (cH s) (s.au[cH s]!+1))[i]!);rw [bg,bg]
 by_cases e:i=cH s
 · subst e
   rw [rc ⟨rfl,n1⟩];refine ⟨by omega,by omega,fun _=>by omega⟩
 rw [ut (fun k=>e k.1),ut (fun k=>e k.1)]
 exact ⟨u1,u2,u3⟩
abbrev Ev:=Int×Int×Int×Int×Int
abbrev Ev.at (x:Ev):Int×Int:=(x.1,x.2.1)
abbrev Ev.num (x:Ev):Int:=x.2.2.1
abbrev Ev.ix (x:Ev):Int:=x.2.2.2.1
abbrev Ev.n (x:Ev):Nat:=x.2.2.2.1.toNat
theorem ahu {x:Ev} {k:Nat} (h:x.ix<(k:Int)) (h0:0<=x.ix):x.n<k:=by show x.ix.toNat<k;omega
theorem ahv {x y:Ev} (h0:0<=x.ix) (h1:0<=y.ix) (h:x.ix≠y.ix):x.n≠y.n:=by
 show x.ix.toNat≠y.ix.toNat
 omega
def less (x y:Ev):Prop:=gq (x.1,x.2.1) (y.1,y.2.1)<0\/(gq (x.1,x.2.1) (y.1,y.2.1)=0/\x.2.2.1<y.2.2.1)
theorem uI {a b:Int×Int}:gq a b<0↔a.1*b.2<b.1*a.2:=by unfold gq;rcases dH (a.1*b.2) (b.1*a.2) with ⟨h,e⟩|⟨h,e⟩|⟨h,e⟩<;>rw [e]<;>constructor<;>intro<;>omega
theorem Mz {a b:Int×Int}:gq a b=0↔a.1*b.2=b.1*a.2:=by unfold gq;rcases dH (a.1*b.2) (b.1*a.2) with ⟨h,e⟩|⟨h,e⟩|⟨h,e⟩<;>rw [e]<;>constructor<;>intro<;>omega
theorem lC {x y:Ev} (h:less x y): ¬less y x:=by unfold less at*;rw [uI,Mz] at*;dsimp only at*;rintro (k|k)<;>rcases h with h|h<;>omega
theorem KY {a1 a2 b1 b2 c1 c2:Int} (ha:1<=a2) (hb:1<=b2) (hc:1<=c2) (h1:a1*b2<=b1*a2) (h2:b1*c2<=c1*b2):a1*c2<=c1*a2:=by
 have e1:a1*b2*c2<=b1*a2*c2:=PP h1 (by omega);have e2:b1*c2*a2<=c1*b2*a2:=PP h2 (by omega);have e3:(a1*c2)*b2<=(c1*a2)*b2:=by
  have r1:(a1*c2)*b2=a1*b2*c2:=by grind
  have r2:b1*a2*c2=b1*c2*a2:=by grind
  have r3:c1*b2*a2=(c1*a2)*b2:=by grind
  omega
 exact Int.le_of_mul_le_mul_right e3 (by omega)
theorem ya {a1 a2 b1 b2 c1 c2:Int} (ha:1<=a2) (hb:1<=b2) (hc:1<=c2) (h1:a1*b2<b1*a2) (h2:b1*c2<=c1*b2):a1*c2<c1*a2:=by
 have e1:a1*b2*c2<b1*a2*c2:=aen h1 (by omega);have e2:b1*c2*a2<=c1*b2*a2:=PP h2 (by omega);have e3:(a1*c2)*b2<(c1*a2)*b2:=by
  have r1:(a1*c2)*b2=a1*b2*c2:=by grind
  have r2:b1*a2*c2=b1*c2*a2:=by grind
  have r3:c1*b2*a2=(c1*a2)*b2:=by grind
  omega
 exact aes e3 (by omega)
theorem DY {a1 a2 b1 b2 c1 c2:Int} (ha:1<=a2) (hb:1<=b2) (hc:1<=c2) (h1:a1*b2<=b1*a2) (h2:b1*c2<c1*b2):a1*c2<c1*a2:=by
 have e1:a1*b2*c2<=b1*a2*c2:=PP h1 (by omega);have e2:b1*c2*a2<c1*b2*a2:=aen h2 (by omega);have e3:(a1*c2)*b2<(c1*a2)*b2:=by
  have r1:(a1*c2)*b2=a1*b2*c2:=by grind
  have r2:b1*a2*c2=b1*c2*a2:=by grind
  have r3:c1*b2*a2=(c1*a2)*b2:=by grind
  omega
 exact aes e3 (by omega)
theorem tf {x y z:Ev} (hx:1<=x.2.1) (hy:1<=y.2.1) (hz:1<=z.2.1) (h1: ¬less y x) (h2: ¬less z y): ¬less z x:=by
 unfold less at*;rw [uI,Mz] at*;dsimp only at*;have t1:= @KY x.1 x.2.1 y.1 y.2.1 z.1 z.2.1 hx hy hz;have t2:= @ya x.1 x.2.1 y.1 y.2.1 z.1 z.2.1 hx hy hz;have t3:= @DY x.1 x.2.1 y.1 y.2.1 z.1 z.2.1 hx hy hz;generalize x.1*y.2.1=p at*;generalize y.1*x.2.1=q at*;generalize y.1*z.2.1=r at*;generalize z.1*y.2.1=s at*;generalize x.1*z.2.1=u at*;generalize z.1*x.2.1=v at*;have a1:p<=q:=by omega
 have a2:r<=s:=by omega
 have a3:=t1 a1 a2;rintro (k|k)
 · omega
 by_cases b1:p<q
 · have:=t2 b1 a2;omega
 by_cases b2:r<s
 · have:=t3 a1 b2;omega
 omega
structure yU (n:Nat) (x:Ev) (M:Ev->Prop) (H:List Ev) (W:List Int) (i:Nat):Prop where
 lt:i<n
 hn:n<=afa H
 ix: ∀w,w<n->w≠i->0<=(H[w]!).ix/\(H[w]!).ix<afa W/\W[(H[w]!).n]! =(w:Int)/\(H[w]!).ix≠x.ix
 x0:0<=x.ix
 x1:x.ix<afa W
 mem: ∀e,(∃w,w<n/\w≠i/\H[w]! =e)↔M e
theorem yU.move {n:Nat} {x:Ev} {M:Ev->Prop} {H:List Ev} {W:List Int} {i j:Nat} (h:yU n x M H W i) (hj:j<n) (mf:j≠i):yU n x M (H.set i H[j]!) (W.set (H[j]!).n (i:Int)) j:=by
 have hn:=h.hn;have hi:=h.lt;obtain ⟨j1,j2,j3,j4⟩:=h.ix j hj mf;have cell: ∀w,(H.set i H[j]!)[w]! =if w=i then H[j]! else H[w]!:=by
  intro w;rw [bg]
  by_cases e:w=i
  · rw [rc ⟨e,by omega⟩,rc e]
  rw [ut (fun k=>e k.1),ut e]
 refine ⟨hj,by rw [v4];exact hn,?_,h.x0,by rw [v4];exact h.x1,?_⟩
 · intro w hw hwj
   rw [cell,v4]
   by_cases e:w=i
   · rw [rc e,bg,rc ⟨rfl,ahu j2 j1⟩]
     exact ⟨j1,j2,by rw [e],j4⟩
   rw [ut e,bg]
   obtain ⟨k1,k2,k3,k4⟩:=h.ix w hw e;refine ⟨k1,k2,?_,k4⟩;rw [ut,k3];rintro ⟨c,_⟩;rw [c,j3] at k3;omega
 intro e
 rw [<- h.mem e];constructor
 · rintro ⟨w,hw,hwj,he⟩
   rw [cell] at he
   by_cases c:w=i
   · rw [rc c] at he;exact ⟨j,hj,mf,he⟩
   rw [ut c] at he;exact ⟨w,hw,c,he⟩
 rintro ⟨w,hw,GO,he⟩
 by_cases c:w=j
 · refine ⟨i,hi,fun h=>mf h.symm,?_⟩
   rw [cell,rc rfl,<- c];exact he
 exact ⟨w,hw,c,by rw [cell,ut GO];exact he⟩
theorem yU.fill {n:Nat} {x:Ev} {M:Ev->Prop} {H:List Ev} {W:List Int} {i:Nat} (h:yU n x M H W i):
 (∀w,w<n->0<=((H.set i x)[w]!).ix/\((H.set i x)[w]!).ix<afa W/\(W.set x.n (i:Int))[((H.set i x)[w]!).n]! =(w:Int))/\
  (∀e,(∃w,w<n/\(H.set i x)[w]! =e)↔(e=x\/M e)):=by
 have hn:=h.hn;have hi:=h.lt;have x0:=h.x0;have x1:=h.x1;have cell: ∀w,(H.set i x)[w]! =if w=i then x else H[w]!:=by
  intro w;rw [bg]
  by_cases e:w=i
  · rw [rc ⟨e,by omega⟩,rc e]
  rw [ut (fun k=>e k.1),ut e]
 constructor
 · intro w hw
   rw [cell]
   by_cases e:w=i
   · rw [rc e,bg,rc ⟨rfl,ahu x1 x0⟩]
     exact ⟨x0,x1,by rw [e]⟩
   rw [ut e,bg]
   obtain ⟨k1,k2,k3,k4⟩:=h.ix w hw e;exact ⟨k1,k2,by rw [ut (fun c=>ahv k1 x0 k4 c.1),k3]⟩
 intro e
 rw [<- h.mem e];constructor
 · rintro ⟨w,hw,he⟩
   rw [cell] at he
   by_cases c:w=i
   · rw [rc c] at he;exact .inl he.symm
   rw [ut c] at he;exact .inr ⟨w,hw,c,he⟩
 rintro (he|⟨w,hw,GO,he⟩)
 · exact ⟨i,hi,by rw [cell,rc rfl,he]⟩
 exact ⟨w,hw,by rw [cell,ut GO];exact he⟩
noncomputable def gF (x:Ev):Nat->List Ev->List Int->Nat×List Ev×List Int
 |0,H,W=>(0,H,W)
 |i+1,H,W=>if less x H[i / 2]! then gF x (i / 2) (H.set (i+1) H[i / 2]!) (W.set (H[i / 2]!).n ((i+1:Nat):Int)) else (i+1,H,W)
termination_by i=>i
decreasing_by omega
noncomputable def fV (n:Nat) (H:List Ev) (i:Nat):Nat:=if 2*i+2<n/\less H[2*i+2]! H[2*i+1]! then 2*i+2 else 2*i+1
theorem lY (n:Nat) (H:List Ev) (i:Nat):fV n H i=2*i+1\/(fV n H i=2*i+2/\2*i+2<n):=by
 unfold fV;split
 · rename_i h;exact .inr ⟨rfl,h.1⟩
 exact .inl rfl
noncomputable def di (n:Nat) (x:Ev) (i:Nat) (H:List Ev) (W:List Int):Nat×List Ev×List Int:=
 if _h:2*i+1<n then
  if less H[fV n H i]! x then di n x (fV n H i) (H.set i H[fV n H i]!) (W.set (H[fV n H i]!).n (i:Int)) else (i,H,W)
 else (i,H,W)
termination_by n-i
decreasing_by
 rcases lY n H i with h|h<;>omega
structure Ord (n:Nat) (H:List Ev) (i:Nat):Prop where
 den: ∀w,w<n->1<=(H[w]!).2.1
 ord: ∀k,0<k->k<n->k≠i->(k-1) / 2≠i-> ¬less H[k]! H[(k-1) / 2]!
 IP:0<i-> ∀k,0<k->k<n->(k-1) / 2=i-> ¬less H[k]! H[(i-1) / 2]!
theorem Cl {n : Nat} {x : Ev} {M : Ev -> Prop} (dx : 1 <= x.2.1) : ∀ (i : Nat) (H : List Ev) (W : List Int), yU n x M H W i -> Ord n H i ->
    ∃ j H1 W1, gF x i H W = (j, H1, W1) /\ yU n x M H1 W1 j /\ Ord n H1 j /\ (afa H1) = (afa H) /\ (afa W1) = (afa W) /\ (0 < j -> ¬ less x H1[(j - 1) / 2]!) /\
      (∀ k, n <= k -> H1[k]! = H[k]!) /\ (∀ k, (∀ w, w < n -> w ≠ i -> (H[w]!).n ≠ k) -> W1[k]! = W[k]!) /\
      ((∀ k, 0 < k -> k < n -> (k - 1) / 2 = i -> ¬ less H[k]! x) -> ∀ k, 0 < k -> k < n -> (k - 1) / 2 = j -> ¬ less H1[k]! x)
  | 0, H, W, h, o => ⟨0, H, W, by rw [gF], h, o, rfl, rfl, fun h => by omega, fun _ _ => rfl, fun _ _ => rfl, fun h => h⟩
  | i + 1, H, W, h, o => by
    rw [gF]
    by_cases hl : less x H[i / 2]!
    · rw [rc hl]
      have hi := h.lt
      have hn := h.hn
      have hp : i / 2 < n := by omega
      have dZ : i / 2 ≠ i + 1 := by omega
      have hm := h.move hp dZ
      have cell : ∀ w, (H.set (i + 1) H[i / 2]!)[w]! = if w = i + 1 then H[i / 2]! else H[w]! := by
        intro w
        rw [bg]
        by_cases e : w = i + 1
        · rw [rc ⟨e, by omega⟩, rc e]
        rw [ut (fun k => e k.1), ut e]
      have o' : Ord n (H.set (i + 1) H[i / 2]!) (i / 2) := by
        refine ⟨?_, ?_, ?_⟩
        · intro w hw
          rw [cell]
          split
          · exact o.den _ hp
          exact o.den _ hw
        · intro k k0 kn k1 k2
          rw [cell, cell]
          by_cases e : k = i + 1
          · subst e; exact absurd (by omega) k2
          rw [ut e]
          by_cases e2 : (k - 1) / 2 = i + 1
          · rw [rc e2]
            have := o.IP (by omega) k k0 kn e2
            rwa [show (i + 1 - 1) / 2 = i / 2 by omega] at this
          rw [ut e2]
          exact o.ord k k0 kn e e2
        intro p0 k k0 kn k1
        rw [cell, cell, ut (show (i / 2 - 1) / 2 ≠ i + 1 by omega)]
        have up1 : ¬ less H[i / 2]! H[(i / 2 - 1) / 2]! := o.ord (i / 2) p0 hp dZ (by omega)
        by_cases e : k = i + 1
        · rw [rc e]; exact up1
        rw [ut e]
        have up2 : ¬ less H[k]! H[i / 2]! := by
          have := o.ord k k0 kn e (by omega)
          rwa [k1] at this
        exact tf (o.den _ (by omega)) (o.den _ hp) (o.den _ kn) up1 up2
      obtain ⟨j, H1, W1, e1, e3, e4, e5, e6, e7, e8, e9, e10⟩ := Cl dx (i / 2) _ _ hm o'
      rw [v4] at e5 e6
      refine ⟨j, H1, W1, e1, e3, e4, e5, e6, e7, ?_, ?_, ?_⟩
      · intro k hk
        rw [e8 k hk, cell, ut (by omega)]
      · intro k hk
        rw [e9 k ?_, bg, ut (fun c => hk (i / 2) hp dZ c.1.symm)]
        intro w hw GB
        rw [cell]
        split
        · exact hk (i / 2) hp dZ
        rename_i e; exact hk w hw e
      intro _
      refine e10 fun k k0 kn k1 => ?_
      rw [cell]
      by_cases e : k = i + 1
      · rw [rc e]; exact lC hl
      rw [ut e]
      have up2 : ¬ less H[k]! H[i / 2]! := by
        have := o.ord k k0 kn e (by omega)
        rwa [k1] at this
      exact tf dx (o.den _ hp) (o.den _ kn) (lC hl) up2
    rw [ut hl]
    refine ⟨i + 1, H, W, rfl, h, o, rfl, rfl, fun _ => ?_, fun _ _ => rfl, fun _ _ => rfl, fun h => h⟩
    rwa [show (i + 1 - 1) / 2 = i / 2 by omega]
termination_by i=>i
decreasing_by omega
theorem N2 {n:Nat} {x:Ev} {i:Nat} {H:List Ev} {W:List Int} (h: ∀k,0<k->k<n->(k-1) / 2=i-> ¬less H[k]! x):di n x i H W=(i,H,W):=by
 rw [di];split
 · rename_i hk
   rw [ut];rcases lY n H i with e|⟨e,e2⟩
   · rw [e];exact h _ (by omega) hk (by omega)
   rw [e];exact h _ (by omega) e2 (by omega)
 rfl
theorem Fz {n : Nat} {x : Ev} {M : Ev -> Prop} (dx : 1 <= x.2.1) : ∀ (d i : Nat) (H : List Ev) (W : List Int), n - i <= d -> yU n x M H W i -> Ord n H i -> (0 < i -> ¬ less x H[(i - 1) / 2]!) ->
    ∃ j H1 W1, di n x i H W = (j, H1, W1) /\ yU n x M H1 W1 j /\ Ord n H1 j /\ (afa H1) = (afa H) /\ (afa W1) = (afa W) /\ (0 < j -> ¬ less x H1[(j - 1) / 2]!) /\
      (∀ k, n <= k -> H1[k]! = H[k]!) /\ (∀ k, (∀ w, w < n -> w ≠ i -> (H[w]!).n ≠ k) -> W1[k]! = W[k]!) /\ (∀ k, 0 < k -> k < n -> (k - 1) / 2 = j -> ¬ less H1[k]! x)
  | 0, i, H, W, hd, h, o, u => by have := h.lt; omega
  | d + 1, i, H, W, hd, h, o, u => by
    have hi := h.lt
    have hn := h.hn
    rw [di]
    by_cases hk : 2 * i + 1 < n
    · rw [dif_pos hk]
      have kc := lY n H i
      have kn : fV n H i < n := by omega
      have kne : fV n H i ≠ i := by omega
      have kp : (fV n H i - 1) / 2 = i := by omega
      have kb : ∀ k, 0 < k -> k < n -> (k - 1) / 2 = i -> ¬ less H[k]! H[fV n H i]! := by
        intro k k0 k1 k2
        have kk : k = 2 * i + 1 \/ k = 2 * i + 2 := by omega
        unfold fV
        split
        · rename_i hc
          rcases kk with e | e
          · rw [e]; exact lC hc.2
          rw [e]; exact fun h => lC h h
        rename_i hc
        rcases kk with e | e
        · rw [e]; exact fun h => lC h h
        rw [e] at k1 ⊢; exact fun h => hc ⟨k1, h⟩
      by_cases hl : less H[fV n H i]! x
      · rw [rc hl]
        have hm := h.move kn kne
        have cell : ∀ w, (H.set i H[fV n H i]!)[w]! = if w = i then H[fV n H i]! else H[w]! := by
          intro w
          rw [bg]
          by_cases e : w = i
          · rw [rc ⟨e, by omega⟩, rc e]
          rw [ut (fun k => e k.1), ut e]
        have o' : Ord n (H.set i H[fV n H i]!) (fV n H i) := by
          refine ⟨?_, ?_, ?_⟩
          · intro w hw
            rw [cell]
            split
            · exact o.den _ kn
            exact o.den _ hw
          · intro k k0 k1 k2 k3
            rw [cell, cell]
            by_cases e : k = i
            · rw [rc e, ut (by omega)]
              have := o.IP (by omega) (fV n H i) (by omega) kn kp
              rwa [e]
            rw [ut e]
            by_cases e2 : (k - 1) / 2 = i
            · rw [rc e2]; exact kb k k0 k1 e2
            rw [ut e2]; exact o.ord k k0 k1 e e2
          intro _ k k0 k1 k2
          rw [cell, cell, rc kp, ut (by omega)]
          have := o.ord k k0 k1 (by omega) (by omega)
          rwa [k2] at this
        obtain ⟨j, H1, W1, e1, e3, e4, e5, e6, e7, e8, e9, e10⟩ := Fz dx d (fV n H i) _ _ (by omega) hm o' (by
          intro _
          rw [cell, rc kp]
          exact lC hl)
        rw [v4] at e5 e6
        refine ⟨j, H1, W1, e1, e3, e4, e5, e6, e7, ?_, ?_, e10⟩
        · intro k hk
          rw [e8 k hk, cell, ut (by omega)]
        intro k hk
        rw [e9 k ?_, bg, ut (fun c => hk (fV n H i) kn kne c.1.symm)]
        intro w hw GB
        rw [cell]
        split
        · exact hk (fV n H i) kn kne
        rename_i e; exact hk w hw e
      rw [ut hl]
      refine ⟨i, H, W, rfl, h, o, rfl, rfl, u, fun _ _ => rfl, fun _ _ => rfl, ?_⟩
      intro k k0 k1 k2
      exact tf dx (o.den _ kn) (o.den _ k1) hl (kb k k0 k1 k2)
    rw [dif_neg hk]
    refine ⟨i, H, W, rfl, h, o, rfl, rfl, u, fun _ _ => rfl, fun _ _ => rfl, ?_⟩
    intro k k0 k1 k2
    omega
structure xw (n:Nat) (x:Ev) (M:Ev->Prop) (K:Nat->Prop) (H:List Ev) (W:List Int) (H1:List Ev) (W1:List Int):Prop where
 hl:(afa H1)=afa H
 wl:(afa W1)=afa W
 ix: ∀w,w<n->0<=(H1[w]!).ix/\(H1[w]!).ix<afa W/\W1[(H1[w]!).n]! =(w:Int)
 mem: ∀e,(∃w,w<n/\H1[w]! =e)↔(e=x\/M e)
 ord: ∀k,0<k->k<n-> ¬less H1[k]! H1[(k-1) / 2]!
 out: ∀k,K k->W1[k]! =W[k]!
theorem GP {n:Nat} {x:Ev} {M:Ev->Prop} {H H1:List Ev} {W W1:List Int} {i j:Nat} (h1:yU n x M H1 W1 j) (o1:Ord n H1 j) (hl:(afa H1)=afa H) (wl:(afa W1)=afa W)
 (u:0<j-> ¬less x H1[(j-1) / 2]!) (kd: ∀k,0<k->k<n->(k-1) / 2=j-> ¬less H1[k]! x) (out: ∀k,(∀w,w<n->w≠i->(H[w]!).n≠k)->W1[k]! =W[k]!):
 xw n x M (fun k=>k≠x.n/\ ∀w,w<n->w≠i->(H[w]!).n≠k) H W (H1.set j x) (W1.set x.n (j:Int)):=by
 have hn:=h1.hn;have hj:=h1.lt;have f:=h1.fill;have cell: ∀w,(H1.set j x)[w]! =if w=j then x else H1[w]!:=by
  intro w;rw [bg]
  by_cases e:w=j
  · rw [rc ⟨e,by omega⟩,rc e]
  rw [ut (fun k=>e k.1),ut e]
 refine ⟨by rw [v4];exact hl,by rw [v4];exact wl,?_,f.2,?_,?_⟩
 · rw [<- wl];exact f.1
 · intro k k0 kn
   rw [cell,cell]
   by_cases e:k=j
   · rw [rc e,ut (by omega),e];exact u (by omega)
   rw [ut e]
   by_cases e2:(k-1) / 2=j
   · rw [rc e2];exact kd k k0 kn e2
   rw [ut e2];exact o1.ord k k0 kn e e2
 rintro k ⟨k1,k2⟩
 rw [bg,ut (fun c=>k1 c.1)];exact out k k2
noncomputable def bX (n:Nat) (x:Ev) (i:Nat) (H:List Ev) (W:List Int):List Ev×List Int:=
 let u:=gF x i H W
 let d:=di n x u.1 u.2.1 u.2.2
 (d.2.1.set d.1 x,d.2.2.set x.n (d.1:Int))
theorem wL {n:Nat} {x:Ev} {M:Ev->Prop} (dx:1<=x.2.1) {i:Nat} {H:List Ev} {W:List Int} (h:yU n x M H W i) (o:Ord n H i):
 xw n x M (fun k=>k≠x.n/\ ∀w,w<n->w≠i->(H[w]!).n≠k) H W (bX n x i H W).1 (bX n x i H W).2:=by
 obtain ⟨j,H1,W1,e1,e3,e4,e5,e6,e7,e8,e9,e10⟩:=Cl dx i H W h o;obtain ⟨k,H2,W2,f1,f3,f4,f5,f6,f7,f8,f9,f10⟩:=Fz dx n j H1 W1 (by omega) e3 e4 e7;have e:bX n x i H W=(H2.set k x,W2.set x.n (k:Int)):=by unfold bX;rw [e1];dsimp only;rw [f1]
 rw [e];refine GP f3 f4 (by omega) (by omega) f7 f10 ?_;intro c hc;rw [f9 c ?_,e9 c hc];intro w hw hwj hcw;have hm:M H1[w]!:=(e3.mem _).1 ⟨w,hw,hwj,rfl⟩;obtain ⟨v,v1,v2,v3⟩:=(h.mem _).2 hm;exact hc v v1 v2 (by rw [v3];exact hcw)
theorem IQ {n:Nat} {x:Ev} {M:Ev->Prop} (dx:1<=x.2.1) {i:Nat} {H:List Ev} {W:List Int} (h:yU n x M H W i) (o:Ord n H i) (hk: ∀k,0<k->k<n->(k-1) / 2=i-> ¬less H[k]! x):
 bX n x i H W=((gF x i H W).2.1.set (gF x i H W).1 x,(gF x i H W).2.2.set x.n ((gF x i H W).1:Int)):=by
 obtain ⟨j,H1,W1,e1,e3,e4,e5,e6,e7,e8,e9,e10⟩:=Cl dx i H W h o;unfold bX;rw [e1];dsimp only;rw [N2 (e10 hk)]
def nV (x:Ev):Prop:=bm (x.1,x.2.1)/\jw (x.1,x.2.1)/\0<=x.2.2.1/\x.2.2.1<=1000000
theorem nV.den {x:Ev} (h:nV x):1<=x.2.1:=h.1.1
noncomputable def DZ (x y:Ev):Int:=if gq (x.1,x.2.1) (y.1,y.2.1)≠0 then gq (x.1,x.2.1) (y.1,y.2.1) else ir x.2.2.1 y.2.2.1
theorem z8 (x y:Ev):DZ x y<0↔less x y:=by
 unfold DZ less
 by_cases h:gq (x.1,x.2.1) (y.1,y.2.1)=0
 · rw [ut (by simpa using h),h]
   rcases dH x.2.2.1 y.2.2.1 with ⟨h1,e⟩|⟨h1,e⟩|⟨h1,e⟩<;>rw [e]<;>constructor<;>intro<;>omega
 rw [rc h];constructor<;>intro<;>omega
theorem de {x y:Ev} (hx:nV x) (hy:nV y):bV x y=afb (DZ x y):=by unfold bV DZ;rw [Ba hx.2.1 hy.2.1,rc ⟨hx.1,hy.1⟩];simp only [ax,iS,xt]
theorem lx {x y:Ev} (hx:nV x) (hy:nV y):dE x y=afb (afl (less x y)):=by
 unfold dE less;rw [DQ hx.2.1 hy.2.1];simp only [ax];generalize gq (x.1,x.2.1) (y.1,y.2.1)=c
 by_cases h1:c<0
 · simp [h1]
 by_cases h2:c=0
 · subst h2;simp
 simp only [h1,eY h2,h2,decide_false,pp,false_or,false_and]
theorem Bc {x y:Ev}:afl (DZ x y<0)=afl (less x y):=by simp only [z8]
theorem GQ {x y:Ev}:afl (0<=DZ x y)=!afl (less x y):=by
 have:=z8 x y
 by_cases h:less x y
 · have h2:=this.2 h
   have: ¬0<=DZ x y:=by omega
   simp [h,this]
 have h2: ¬DZ x y<0:=fun k=>h (this.1 k)
 have:0<=DZ x y:=by omega
 simp [h,this]
structure kz (n:Nat) (H:List Ev) (W:List Int):Prop where
 hn:n<=afa H
 hb:(afa H)<=1000000
 ev: ∀w,w<n->nV H[w]!/\0<=(H[w]!).ix/\(H[w]!).ix<afa W
theorem kz.move {n:Nat} {H:List Ev} {W:List Int} (c:kz n H W) {i j:Nat} (_hi:i<n) (hj:j<n) (k:Nat) (v:Int):kz n (H.set i H[j]!) (W.set k v):=by
 have hn:=c.hn;refine ⟨by rw [v4];exact hn,by rw [v4];exact c.hb,?_⟩;intro w hw;rw [bg,v4];split
 · exact c.ev j hj
 exact c.ev w hw
theorem Cm {H:List Ev} {W:List Int} {x:Ev} {u fr:List Int} {us:List Bool} {i:Nat} (hi:i<afa H) (h0:0<=x.ix) (h1:x.ix<afa W):
 bO (u,us,fr,(i:Int),x.1,x.2.1,x.2.2.1,x.2.2.2.1,x.2.2.2.2,H,W)=afb (H.set i x,W.set x.n (i:Int)):=by
 unfold bO;have e1:=az H i hi;have e2:=df (l:=W) h0 h1;simp only [e1,e2,ax,vU,beq_self_eq_true,pi];rfl
theorem Cn {n cap:Nat} {H:List Ev} {W:List Int} {x:Ev} {u fr:List Int} {us:List Bool} {i:Nat} (hi:i<n) (hn:n<=afa H) (h0:0<=x.ix) (h1:x.ix<afa W):
 bN (u,us,fr,n,cap,(i:Int),x.1,x.2.1,x.2.2.1,x.2.2.2.1,x.2.2.2.2,H,W)=afb (H.set i x,W.set x.n (i:Int)):=by
 unfold bN;have e1:=az (H.take n) i (by rw [adV];omega);have e2:=df (l:=W) h0 h1;simp only [e1,e2,ax,vU,beq_self_eq_true,pi];rfl
theorem pA {i:Nat} (h:i<1000000000):ai .i64 (acl (ai .i64 (((i+1:Nat):Int) -1)) 2)=((i / 2:Nat):Int):=by
 have e:ai .i64 (((i+1:Nat):Int) -1)=(i:Int):=by rw [wi];omega
 rw [e,aeq (by omega),wi];omega
theorem sB {i:Nat} (h:i<1000000000):ai .i64 ((ai .i64 (2*(i:Int)))+1)=((2*i+1:Nat):Int):=by
 have e:ai .i64 (2*(i:Int))=((2*i:Nat):Int):=by rw [wi];omega
 rw [e,wi];omega
theorem wM {n:Nat} {x:Ev}: ∀{i:Nat} {H:List Ev} {W:List Int} {j:Nat} {H1:List Ev} {W1:List Int},kz n H W->i<n->gF x i H W=(j,H1,W1)-> ∀w,w<n->nV H1[w]!/\0<=(H1[w]!).ix/\(H1[w]!).ix<afa W
 |0,H,W,j,H1,W1,c,hi,e=>by rw [gF] at e;injection e with e1 e;injection e with e2 e3;subst e2;exact c.ev
 |i+1,H,W,j,H1,W1,c,hi,e=>by
  rw [gF] at e;split at e
  · have:=wM (c.move hi (show i / 2<n by omega) (H[i / 2]!).n ((i+1:Nat):Int)) (by omega) e
    rw [v4] at this;exact this
  injection e with e1 e;injection e with e2 e3
  subst e2;exact c.ev
termination_by i=>i
decreasing_by omega
theorem KZ {c0:List Int×List Bool×List Int×Int×Int×Int×Int×Int×Int×List Ev×List Int} {n i:Nat} {H:List Ev} {W:List Int} {u fr:List Int} {us:List Bool} {x:Ev}
 (c:kz n H W) (hn:(afa H)=n) (hi:i<n) (hx:nV x) (x0:0<=x.ix) (x1:x.ix<afa W) (l1:(afa c0.2.2.2.2.2.2.2.2.2.1)=n) (l2:(afa c0.2.2.2.2.2.2.2.2.2.2)=afa W):
 eX c0 ((i:Int),((2*i+1:Nat):Int),H,W,u,us,fr,x)=
  afb (if 2*i+1<n/\less H[fV n H i]! x then .next (((fV n H i:Nat):Int),((2*fV n H i+1:Nat):Int),H.set i H[fV n H i]!,W.set (H[fV n H i]!).n (i:Int),u,us,fr,x)
   else .done (.done (H.set i x,W.set x.n (i:Int)))):=by
 have hb:=c.hb;have fin:(bO (u,us,fr,(i:Int),x.1,x.2.1,x.2.2.1,x.2.2.2.1,x.2.2.2.2,H,W))=afb (H.set i x,W.set x.n (i:Int)):=Cm (by omega) x0 x1;have ln1:(H.set i x).length=(afa c0.2.2.2.2.2.2.2.2.2.1):=by rw [v4];omega
 have ln2:(W.set x.n (i:Int)).length=(afa c0.2.2.2.2.2.2.2.2.2.2):=by rw [v4];omega
 unfold eX;simp only [aB,hn,fin,ax,ln1,ln2,beq_self_eq_true,pi]
 by_cases h1:2*i+1<n
 · have e1:afl (((2*i+1:Nat):Int)<(n:Int))=afd:=by simp;omega
   have e2:ai .i64 (((2*i+1:Nat):Int)+1)=((2*i+2:Nat):Int):=ba (by omega);obtain ⟨tB,a1,a2⟩:=c.ev (2*i+1) h1;have g1:=az H (2*i+1) (by omega);have s1:(bO (u,us,fr,(i:Int),(H[2*i+1]!).1,(H[2*i+1]!).2.1,(H[2*i+1]!).2.2.1,(H[2*i+1]!).2.2.2.1,(H[2*i+1]!).2.2.2.2,H,W))=afb (H.set i H[2*i+1]!,W.set (H[2*i+1]!).n (i:Int)):=Cm (by omega) a1 a2;simp only [e1,e2,pi,g1,ax,s1,de tB hx,GQ,sB (show 2*i+1<1000000000 by omega)]
   by_cases h2:2*i+2<n
   · have e3:afl (((2*i+2:Nat):Int)<(n:Int))=afd:=by simp;omega
     obtain ⟨QM,b1,b2⟩:=c.ev (2*i+2) h2;have g2:=az H (2*i+2) (by omega);have s2:(bO (u,us,fr,(i:Int),(H[2*i+2]!).1,(H[2*i+2]!).2.1,(H[2*i+2]!).2.2.1,(H[2*i+2]!).2.2.2.1,(H[2*i+2]!).2.2.2.2,H,W))=afb (H.set i H[2*i+2]!,W.set (H[2*i+2]!).n (i:Int)):=Cm (by omega) b1 b2;simp only [e3,pi,g2,ax,s2,de QM hx,de QM tB,Bc,GQ,sB (show 2*i+2<1000000000 by omega)]
     by_cases h3:less H[2*i+2]! H[2*i+1]!
     · have k:fV n H i=2*i+2:=by unfold fV;rw [rc ⟨h2,h3⟩]
       rw [k]
       by_cases h4:less H[2*i+2]! x
       · simp only [h1,h3,h4,decide_true,pi,pp,M2,and_self,if_true]
       simp only [h1,h3,h4,decide_true,decide_false,pi,If,and_false,if_false]
     have k:fV n H i=2*i+1:=by unfold fV;rw [ut (fun h=>h3 h.2)]
     rw [k]
     by_cases h4:less H[2*i+1]! x
     · simp only [h1,h3,h4,decide_true,decide_false,pp,M2,and_self,if_true]
     simp only [h1,h3,h4,decide_false,pi,pp,If,and_false,if_false]
   have e3:afl (((2*i+2:Nat):Int)<(n:Int))=afk:=by simp;omega
   have k:fV n H i=2*i+1:=by unfold fV;rw [ut (fun h=>h2 h.1)]
   rw [k];simp only [e3,pp]
   by_cases h4:less H[2*i+1]! x
   · simp only [h1,h4,decide_true,pp,M2,and_self,if_true]
   simp only [h1,h4,decide_false,pi,If,and_false,if_false]
 have e1:afl (((2*i+1:Nat):Int)<(n:Int))=afk:=by simp;omega
 rw [ut (fun h=>h1 h.1),e1];rfl
theorem uJ {c0 : List Int × List Bool × List Int × Int × Int × Int × Int × Int × Int × List Ev × List Int} {n : Nat} {u fr : List Int} {us : List Bool} {x : Ev} (hx : nV x) (x0 : 0 <= x.ix) (l1 : (afa c0.2.2.2.2.2.2.2.2.2.1) = n) :
    ∀ (d i : Nat) (H : List Ev) (W : List Int), n - i <= d -> kz n H W -> (afa H) = n -> i < n -> x.ix < (afa W) -> (afa c0.2.2.2.2.2.2.2.2.2.2) = (afa W) ->
      aE (eX c0) ((i : Int), ((2 * i + 1 : Nat) : Int), H, W, u, us, fr, x) = afb (.done ((di n x i H W).2.1.set (di n x i H W).1 x, (di n x i H W).2.2.set x.n ((di n x i H W).1 : Int)))
  | 0, i, H, W, hd, c, hn, hi, x1, l2 => by omega
  | d + 1, i, H, W, hd, c, hn, hi, x1, l2 => by
    have r := KZ (u := u) (us := us) (fr := fr) c hn hi hx x0 x1 l1 l2
    by_cases h : 2 * i + 1 < n /\ less H[fV n H i]! x
    · rw [rc h] at r
      have kc := lY n H i
      have kn : fV n H i < n := by omega
      rw [aW r, uJ hx x0 l1 d (fV n H i) _ _ (by omega) (c.move hi kn _ _) (by rw [v4]; exact hn) kn (by rw [v4]; exact x1) (by rw [v4]; exact l2)]
      have e : di n x i H W = di n x (fV n H i) (H.set i H[fV n H i]!) (W.set (H[fV n H i]!).n (i : Int)) := by
        rw [di, dif_pos h.1, rc h.2]
      rw [e]
    rw [ut h] at r
    rw [aI r]
    have e : di n x i H W = (i, H, W) := by
      rw [di]
      split
      · rename_i h1; rw [ut (fun k => h ⟨h1, k⟩)]
      rfl
    rw [e]
theorem D0 {c0 : List Int × List Bool × List Int × Int × Int × Int × Int × Int × Int × List Ev × List Int} {n : Nat} {u fr : List Int} {us : List Bool} {x : Ev} (hx : nV x) (x0 : 0 <= x.ix) (l1 : (afa c0.2.2.2.2.2.2.2.2.2.1) = n) :
    ∀ (i : Nat) (H : List Ev) (W : List Int), kz n H W -> (afa H) = n -> i < n -> x.ix < (afa W) -> (afa c0.2.2.2.2.2.2.2.2.2.2) = (afa W) ->
      aE (dO c0) ((i : Int), H, W, u, us, fr, x) = afb (bX n x i H W)
  | 0, H, W, c, hn, hi, x1, l2 => by
    have hb := c.hb
    have dn := uJ (u := u) (us := us) (fr := fr) hx x0 l1 n 0 H W (by omega) c hn hi x1 l2
    refine (aI (r := bX n x 0 H W) ?_)
    unfold dO
    have e1 : afl ((0 : Int) < ((0 : Nat) : Int)) = afk := by simp
    simp only [e1, pp, sB (show 0 < 1000000000 by omega)]
    rw [dn]
    unfold bX
    rw [gF]
  | i + 1, H, W, c, hn, hi, x1, l2 => by
    have hb := c.hb
    have e1 : afl ((0 : Int) < ((i + 1 : Nat) : Int)) = afd := decide_eq_true (by omega)
    have hp : i / 2 < n := by omega
    obtain ⟨tB, a1, a2⟩ := c.ev (i / 2) hp
    have g1 := az H (i / 2) (by omega)
    have s1 : (bO (u, us, fr, ((i + 1 : Nat) : Int), (H[i / 2]!).1, (H[i / 2]!).2.1, (H[i / 2]!).2.2.1, (H[i / 2]!).2.2.2.1, (H[i / 2]!).2.2.2.2, H, W)) = afb (H.set (i + 1) H[i / 2]!, W.set (H[i / 2]!).n ((i + 1 : Nat) : Int)) := Cm (by omega) a1 a2
    by_cases h : less x H[i / 2]!
    · have r : dO c0 (((i + 1 : Nat) : Int), H, W, u, us, fr, x) = afb (.next (((i / 2 : Nat) : Int), H.set (i + 1) H[i / 2]!, W.set (H[i / 2]!).n ((i + 1 : Nat) : Int), u, us, fr, x)) := by
        unfold dO
        simp only [e1, pi, pA (show i < 1000000000 by omega), g1, ax, de hx tB, Bc, h, decide_true, s1]
      rw [aW r, D0 hx x0 l1 (i / 2) _ _ (c.move hi hp _ _) (by rw [v4]; exact hn) hp (by rw [v4]; exact x1) (by rw [v4]; exact l2)]
      have e : gF x (i + 1) H W = gF x (i / 2) (H.set (i + 1) H[i / 2]!) (W.set (H[i / 2]!).n ((i + 1 : Nat) : Int)) := by
        rw [gF, rc h]
      unfold bX
      rw [e]
    have dn := uJ (u := u) (us := us) (fr := fr) hx x0 l1 n (i + 1) H W (by omega) c hn hi x1 l2
    refine (aI (r := bX n x (i + 1) H W) ?_)
    unfold dO
    simp only [e1, pi, pA (show i < 1000000000 by omega), g1, ax, de hx tB, Bc, h, decide_false, pp, sB (show i + 1 < 1000000000 by omega)]
    rw [dn]
    unfold bX
    rw [gF, ut h]
termination_by i=>i
decreasing_by omega
theorem D1 {n:Nat} {u fr:List Int} {us:List Bool} {x:Ev} (hx:nV x) (x0:0<=x.ix) {i:Nat} {H:List Ev} {W:List Int} (c:kz n H W) (hn:(afa H)=n) (hi:i<n) (x1:x.ix<afa W):
 dU (u,us,fr,(i:Int),x.1,x.2.1,x.2.2.1,x.2.2.2.1,x.2.2.2.2,H,W)=afb (bX n x i H W):=by
 unfold dU;exact D0 hx x0 hn i H W c hn hi x1 rfl
theorem fa {l:List Ev} {n i:Nat} (h:i<n) (hn:n<=afa l):aK (l.take n) (i:Int)=afb l[i]!:=by rw [az (l.take n) i (by rw [adV];omega),jK h]
theorem K0 {c0:List Int×List Bool×List Int×Nat×Nat×Int×Int×Int×Int×Int×Int×List Ev×List Int} {n cap i:Nat} {H:List Ev} {W:List Int} {u fr:List Int} {us:List Bool} {x:Ev}
 (c:kz n H W) (hi:i<n) (hx:nV x) (x0:0<=x.ix) (x1:x.ix<afa W) (l1:(afa c0.2.2.2.2.2.2.2.2.2.2.2.1)=afa H) (l2:(afa c0.2.2.2.2.2.2.2.2.2.2.2.2)=afa W):
 eW c0 ((i:Int),((2*i+1:Nat):Int),H,W,u,us,fr,n,cap,x)=
  afb (if 2*i+1<n/\less H[fV n H i]! x then .next (((fV n H i:Nat):Int),((2*fV n H i+1:Nat):Int),H.set i H[fV n H i]!,W.set (H[fV n H i]!).n (i:Int),u,us,fr,n,cap,x)
   else .done (.done (H.set i x,W.set x.n (i:Int)))):=by
 have hb:=c.hb;have N3:=c.hn;have fin:(bN (u,us,fr,n,cap,(i:Int),x.1,x.2.1,x.2.2.1,x.2.2.2.1,x.2.2.2.2,H,W))=afb (H.set i x,W.set x.n (i:Int)):=Cn (cap:=cap) (by omega) c.hn x0 x1;have ln1:(H.set i x).length=(afa c0.2.2.2.2.2.2.2.2.2.2.2.1):=by rw [v4];omega
 have ln2:(W.set x.n (i:Int)).length=(afa c0.2.2.2.2.2.2.2.2.2.2.2.2):=by rw [v4];omega
 unfold eW;simp only [aB,fin,ax,ln1,ln2,beq_self_eq_true,pi]
 by_cases h1:2*i+1<n
 · have e1:afl (((2*i+1:Nat):Int)<(n:Int))=afd:=by simp;omega
   have e2:ai .i64 (((2*i+1:Nat):Int)+1)=((2*i+2:Nat):Int):=ba (by omega);obtain ⟨tB,a1,a2⟩:=c.ev (2*i+1) h1;have g1:=fa (l:=H) (n:=n) (i:=2*i+1) (by omega) c.hn;have s1:(bN (u,us,fr,n,cap,(i:Int),(H[2*i+1]!).1,(H[2*i+1]!).2.1,(H[2*i+1]!).2.2.1,(H[2*i+1]!).2.2.2.1,(H[2*i+1]!).2.2.2.2,H,W))=afb (H.set i H[2*i+1]!,W.set (H[2*i+1]!).n (i:Int)):=Cn (cap:=cap) (by omega) c.hn a1 a2;simp only [e1,e2,pi,g1,ax,s1,de tB hx,GQ,sB (show 2*i+1<1000000000 by omega)]
   by_cases h2:2*i+2<n
   · have e3:afl (((2*i+2:Nat):Int)<(n:Int))=afd:=by simp;omega
     obtain ⟨QM,b1,b2⟩:=c.ev (2*i+2) h2;have g2:=fa (l:=H) (n:=n) (i:=2*i+2) (by omega) c.hn;have s2:(bN (u,us,fr,n,cap,(i:Int),(H[2*i+2]!).1,(H[2*i+2]!).2.1,(H[2*i+2]!).2.2.1,(H[2*i+2]!).2.2.2.1,(H[2*i+2]!).2.2.2.2,H,W))=afb (H.set i H[2*i+2]!,W.set (H[2*i+2]!).n (i:Int)):=Cn (cap:=cap) (by omega) c.hn b1 b2;simp only [e3,pi,g2,ax,s2,de QM hx,de QM tB,Bc,GQ,sB (show 2*i+2<1000000000 by omega)]
     by_cases h3:less H[2*i+2]! H[2*i+1]!
     · have k:fV n H i=2*i+2:=by unfold fV;rw [rc ⟨h2,h3⟩]
       rw [k]
       by_cases h4:less H[2*i+2]! x
       · simp only [h1,h3,h4,decide_true,pi,pp,M2,and_self,if_true]
       simp only [h1,h3,h4,decide_true,decide_false,pi,If,and_false,if_false]
     have k:fV n H i=2*i+1:=by unfold fV;rw [ut (fun h=>h3 h.2)]
     rw [k]
     by_cases h4:less H[2*i+1]! x
     · simp only [h1,h3,h4,decide_true,decide_false,pp,M2,and_self,if_true]
     simp only [h1,h3,h4,decide_false,pi,pp,If,and_false,if_false]
   have e3:afl (((2*i+2:Nat):Int)<(n:Int))=afk:=by simp;omega
   have k:fV n H i=2*i+1:=by unfold fV;rw [ut (fun h=>h2 h.1)]
   rw [k];simp only [e3,pp]
   by_cases h4:less H[2*i+1]! x
   · simp only [h1,h4,decide_true,pp,M2,and_self,if_true]
   simp only [h1,h4,decide_false,pi,If,and_false,if_false]
 have e1:afl (((2*i+1:Nat):Int)<(n:Int))=afk:=by simp;omega
 rw [ut (fun h=>h1 h.1),e1];rfl
theorem uK {c0 : List Int × List Bool × List Int × Nat × Nat × Int × Int × Int × Int × Int × Int × List Ev × List Int} {n cap : Nat} {u fr : List Int} {us : List Bool} {x : Ev} (hx : nV x) (x0 : 0 <= x.ix) :
    ∀ (d i : Nat) (H : List Ev) (W : List Int), n - i <= d -> kz n H W -> (afa c0.2.2.2.2.2.2.2.2.2.2.2.1) = (afa H) -> i < n -> x.ix < (afa W) -> (afa c0.2.2.2.2.2.2.2.2.2.2.2.2) = (afa W) ->
      aE (eW c0) ((i : Int), ((2 * i + 1 : Nat) : Int), H, W, u, us, fr, n, cap, x) = afb (.done ((di n x i H W).2.1.set (di n x i H W).1 x, (di n x i H W).2.2.set x.n ((di n x i H W).1 : Int)))
  | 0, i, H, W, hd, c, hn, hi, x1, l2 => by omega
  | d + 1, i, H, W, hd, c, hn, hi, x1, l2 => by
    have r := K0 (u := u) (us := us) (fr := fr) (cap := cap) c hi hx x0 x1 hn l2
    by_cases h : 2 * i + 1 < n /\ less H[fV n H i]! x
    · rw [rc h] at r
      have kc := lY n H i
      have kn : fV n H i < n := by omega
      rw [aW r, uK hx x0 d (fV n H i) _ _ (by omega) (c.move hi kn _ _) (by rw [v4]; exact hn) kn (by rw [v4]; exact x1) (by rw [v4]; exact l2)]
      have e : di n x i H W = di n x (fV n H i) (H.set i H[fV n H i]!) (W.set (H[fV n H i]!).n (i : Int)) := by
        rw [di, dif_pos h.1, rc h.2]
      rw [e]
    rw [ut h] at r
    rw [aI r]
    have e : di n x i H W = (i, H, W) := by
      rw [di]
      split
      · rename_i h1; rw [ut (fun k => h ⟨h1, k⟩)]
      rfl
    rw [e]
theorem D2 {c0 : List Int × List Bool × List Int × Nat × Nat × Int × Int × Int × Int × Int × Int × List Ev × List Int} {n cap : Nat} {u fr : List Int} {us : List Bool} {x : Ev} (hx : nV x) (x0 : 0 <= x.ix) :
    ∀ (i : Nat) (H : List Ev) (W : List Int), kz n H W -> (afa c0.2.2.2.2.2.2.2.2.2.2.2.1) = (afa H) -> i < n -> x.ix < (afa W) -> (afa c0.2.2.2.2.2.2.2.2.2.2.2.2) = (afa W) ->
      aE (dN c0) ((i : Int), H, W, u, us, fr, n, cap, x) = afb (bX n x i H W)
  | 0, H, W, c, hn, hi, x1, l2 => by
    have hb := c.hb
    have N3 := c.hn
    have dn := uK (u := u) (us := us) (fr := fr) (cap := cap) hx x0 n 0 H W (by omega) c hn hi x1 l2
    refine (aI (r := bX n x 0 H W) ?_)
    unfold dN
    have e1 : afl ((0 : Int) < ((0 : Nat) : Int)) = afk := by simp
    simp only [e1, pp, sB (show 0 < 1000000000 by omega)]
    rw [dn]
    unfold bX
    rw [gF]
  | i + 1, H, W, c, hn, hi, x1, l2 => by
    have hb := c.hb
    have N3 := c.hn
    have e1 : afl ((0 : Int) < ((i + 1 : Nat) : Int)) = afd := decide_eq_true (by omega)
    have hp : i / 2 < n := by omega
    obtain ⟨tB, a1, a2⟩ := c.ev (i / 2) hp
    have g1 := fa (l := H) (n := n) (i := i / 2) (by omega) c.hn
    have s1 : (bN (u, us, fr, n, cap, ((i + 1 : Nat) : Int), (H[i / 2]!).1, (H[i / 2]!).2.1, (H[i / 2]!).2.2.1, (H[i / 2]!).2.2.2.1, (H[i / 2]!).2.2.2.2, H, W)) = afb (H.set (i + 1) H[i / 2]!, W.set (H[i / 2]!).n ((i + 1 : Nat) : Int)) := Cn (cap := cap) (by omega) c.hn a1 a2
    by_cases h : less x H[i / 2]!
    · have r : dN c0 (((i + 1 : Nat) : Int), H, W, u, us, fr, n, cap, x) = afb (.next (((i / 2 : Nat) : Int), H.set (i + 1) H[i / 2]!, W.set (H[i / 2]!).n ((i + 1 : Nat) : Int), u, us, fr, n, cap, x)) := by
        unfold dN
        simp only [e1, pi, pA (show i < 1000000000 by omega), g1, ax, de hx tB, Bc, h, decide_true, s1]
      rw [aW r, D2 hx x0 (i / 2) _ _ (c.move hi hp _ _) (by rw [v4]; exact hn) hp (by rw [v4]; exact x1) (by rw [v4]; exact l2)]
      have e : gF x (i + 1) H W = gF x (i / 2) (H.set (i + 1) H[i / 2]!) (W.set (H[i / 2]!).n ((i + 1 : Nat) : Int)) := by
        rw [gF, rc h]
      unfold bX
      rw [e]
    have dn := uK (u := u) (us := us) (fr := fr) (cap := cap) hx x0 n (i + 1) H W (by omega) c hn hi x1 l2
    refine (aI (r := bX n x (i + 1) H W) ?_)
    unfold dN
    simp only [e1, pi, pA (show i < 1000000000 by omega), g1, ax, de hx tB, Bc, h, decide_false, pp, sB (show i + 1 < 1000000000 by omega)]
    rw [dn]
    unfold bX
    rw [gF, ut h]
termination_by i=>i
decreasing_by omega
theorem K1 {n cap:Nat} {u fr:List Int} {us:List Bool} {x:Ev} (hx:nV x) (x0:0<=x.ix) {i:Nat} {H:List Ev} {W:List Int} (c:kz n H W) (hi:i<n) (x1:x.ix<afa W):
 iw (u,us,fr,n,cap,(i:Int),x.1,x.2.1,x.2.2.1,x.2.2.2.1,x.2.2.2.2,H,W)=afb (bX n x i H W):=by
 unfold iw;exact D2 hx x0 i H W c rfl hi x1 rfl
theorem D3 {n cap:Nat} {H:List Ev} {W:List Int} {x:Ev} {u fr:List Int} {us:List Bool} {i k:Nat} (hi:i<n) (hk:k<n) (MA:k≠i) (hn:n<=afa H) (x0:0<=x.ix) (x1:x.ix<afa W) (k0:0<=(H[k]!).ix) (k1:(H[k]!).ix<afa W):
 gp (u,us,fr,n,cap,(i:Int),(k:Int),H.set i x,W.set x.n (i:Int))=afb ((H.set i H[k]!).set k x,(W.set (H[k]!).n (i:Int)).set x.n (k:Int)):=by
 have cell: ∀w,(H.set i x)[w]! =if w=i then x else H[w]!:=by
  intro w;rw [bg]
  by_cases e:w=i
  · rw [rc ⟨e,by omega⟩,rc e]
  rw [ut (fun k=>e k.1),ut e]
 have sh:((H.set i x).set i H[k]!).set k x=(H.set i H[k]!).set k x:=by rw [adc]
 have sw:((W.set x.n (i:Int)).set (H[k]!).n (i:Int)).set x.n (k:Int)=(W.set (H[k]!).n (i:Int)).set x.n (k:Int):=by
  by_cases e:x.n=(H[k]!).n
  · simp only [e,adc]
  rw [aeD _ _ (fun h=>e h),adc]
 have g1:aK ((H.set i x).take n) (k:Int)=afb H[k]!:=by rw [fa (by omega) (by rw [v4];omega),cell,ut MA]
 have g2:aK ((H.set i x).take n) (i:Int)=afb x:=by rw [fa (by omega) (by rw [v4];omega),cell,rc rfl]
 have g3:aK (((H.set i x).set i H[k]!).take n) (k:Int)=afb H[k]!:=by rw [fa (by omega) (by rw [v4,v4];omega),bg,ut (fun h=>MA h.1),cell,ut MA]
 have g4:aK (((H.set i H[k]!).set k x).take n) (i:Int)=afb H[k]!:=by rw [fa (by omega) (by rw [v4,v4];omega),bg,ut (fun h=>MA h.1.symm),bg,rc ⟨rfl,by omega⟩]
 have g5:aK (((H.set i H[k]!).set k x).take n) (k:Int)=afb x:=by rw [fa (by omega) (by rw [v4,v4];omega),bg,rc ⟨rfl,by rw [v4];omega⟩]
 have w6:=df (l:=W.set x.n (i:Int)) k0 (by rw [v4];exact k1);have w7:=df (l:=(W.set x.n (i:Int)).set (H[k]!).n (i:Int)) x0 (by rw [v4,v4];exact x1);have q1: ∀(l:List Int) (a:Int) (y:Ev),cb l y.2.2.2.1 a=l.set y.n a:=fun _ _ _=>rfl
 unfold gp;simp only [k9,g1,g2,g3,ax,sh,g4,g5,q1,w6,w7,sw,v4,beq_self_eq_true,pi]
theorem QN {c0:List Int×List Bool×List Int×Nat×Nat×Int×List Ev×List Int} {n cap:Nat} {u fr:List Int} {us:List Bool} {x:Ev} (hx:nV x) (x0:0<=x.ix):
 ∀(i:Nat) (H:List Ev) (W:List Int),kz n H W->i<n->x.ix<afa W->afa c0.2.2.2.2.2.2.1=afa H->afa c0.2.2.2.2.2.2.2=afa W->
  aE (fL c0) ((i:Int),H.set i x,W.set x.n (i:Int),u,us,fr,n,cap)=afb (((gF x i H W).1:Int),(gF x i H W).2.1.set (gF x i H W).1 x,(gF x i H W).2.2.set x.n ((gF x i H W).1:Int))
 |0,H,W,c,hi,x1,l1,l2=>by
  have N3:=c.hn;refine aI ?_;unfold fL;have e1:afl ((0:Int)<((0:Nat):Int))=afk:=by simp
  rw [gF];simp only [e1,pp,v4,l1,l2,beq_self_eq_true,pi]
 |i+1,H,W,c,hi,x1,l1,l2=>by
  have hb:=c.hb;have N3:=c.hn;have e1:afl ((0:Int)<((i+1:Nat):Int))=afd:=decide_eq_true (by omega);have hp:i / 2<n:=by omega
  have dZ:i / 2≠i+1:=by omega
  obtain ⟨tB,a1,a2⟩:=c.ev (i / 2) hp;have cell: ∀w,(H.set (i+1) x)[w]! =if w=i+1 then x else H[w]!:=by
   intro w;rw [bg]
   by_cases e:w=i+1
   · rw [rc ⟨e,by omega⟩,rc e]
   rw [ut (fun k=>e k.1),ut e]
  have g0:aK ((H.set (i+1) x).take n) ((i+1:Nat):Int)=afb x:=by rw [fa (by omega) (by rw [v4];omega),cell,rc rfl]
  have g1:aK ((H.set (i+1) x).take n) ((i / 2:Nat):Int)=afb H[i / 2]!:=by rw [fa (by omega) (by rw [v4];omega),cell,ut dZ]
  by_cases h:less x H[i / 2]!
  · have sw:=D3 (cap:=cap) (u:=u) (us:=us) (fr:=fr) (x:=x) hi hp dZ N3 x0 x1 a1 a2
    have r:fL c0 (((i+1:Nat):Int),H.set (i+1) x,W.set x.n ((i+1:Nat):Int),u,us,fr,n,cap)=afb (.next (((i / 2:Nat):Int),(H.set (i+1) H[i / 2]!).set (i / 2) x,(W.set (H[i / 2]!).n ((i+1:Nat):Int)).set x.n ((i / 2:Nat):Int),u,us,fr,n,cap)):=by unfold fL;simp only [e1,pi,pA (show i<1000000000 by omega),g0,g1,ax,lx hx tB,h,decide_true,sw]
    rw [aW r,QN hx x0 (i / 2) _ _ (c.move hi hp _ _) hp (by rw [v4];exact x1) (by rw [v4];exact l1) (by rw [v4];exact l2)];have e:gF x (i+1) H W=gF x (i / 2) (H.set (i+1) H[i / 2]!) (W.set (H[i / 2]!).n ((i+1:Nat):Int)):=by rw [gF,rc h]
    rw [e]
  refine aI ?_
  unfold fL;have e:gF x (i+1) H W=(i+1,H,W):=by rw [gF,ut h]
  rw [e];simp only [e1,pi,pA (show i<1000000000 by omega),g0,g1,ax,lx hx tB,h,decide_false,pp,v4,l1,l2,beq_self_eq_true]
termination_by i=>i
decreasing_by omega
theorem IS {c0:List Int×List Bool×List Int×Nat×Nat×Int×List Ev×List Int} {n cap:Nat} {u fr:List Int} {us:List Bool} {x:Ev} (hx:nV x) (x0:0<=x.ix):
 ∀(d i:Nat) (H:List Ev) (W:List Int),n-i<=d->kz n H W->i<n->x.ix<afa W->afa c0.2.2.2.2.2.2.1=afa H->afa c0.2.2.2.2.2.2.2=afa W->
  aE (iy c0) ((i:Int),H.set i x,W.set x.n (i:Int),u,us,fr,n,cap)=afb (((di n x i H W).2.1.set (di n x i H W).1 x,(di n x i H W).2.2.set x.n ((di n x i H W).1:Int)))
 |0,i,H,W,hd,c,hi,x1,l1,l2=>by omega
 |d+1,i,H,W,hd,c,hi,x1,l1,l2=>by
  have hb:=c.hb;have N3:=c.hn;have cell: ∀w,(H.set i x)[w]! =if w=i then x else H[w]!:=by
   intro w;rw [bg]
   by_cases e:w=i
   · rw [rc ⟨e,by omega⟩,rc e]
   rw [ut (fun k=>e k.1),ut e]
  have QO:(H.set i x).length=(afa H):=v4;have body:iy c0 ((i:Int),H.set i x,W.set x.n (i:Int),u,us,fr,n,cap)=afb (if 2*i+1<n/\less H[fV n H i]! x then .next (((fV n H i:Nat):Int),(H.set i H[fV n H i]!).set (fV n H i) x,(W.set (H[fV n H i]!).n (i:Int)).set x.n ((fV n H i:Nat):Int),u,us,fr,n,cap) else .done ((H.set i x,W.set x.n (i:Int)))):=by
   have k1:=sB (show i<1000000000 by omega);unfold iy
   by_cases h1:2*i+1<n
   · have e1:afl ((n:Int)<=((2*i+1:Nat):Int))=afk:=decide_eq_false (by omega)
     have e2:ai .i64 (((2*i+1:Nat):Int)+1)=((2*i+2:Nat):Int):=ba (by omega);obtain ⟨tB,a1,a2⟩:=c.ev (2*i+1) h1;have g0:aK ((H.set i x).take n) (i:Int)=afb x:=by rw [fa (by omega) (by rw [v4];omega),cell,rc rfl]
     have g1:aK ((H.set i x).take n) ((2*i+1:Nat):Int)=afb H[2*i+1]!:=by rw [fa (by omega) (by rw [v4];omega),cell,ut (by omega)]
     have s1:=D3 (cap:=cap) (u:=u) (us:=us) (fr:=fr) (x:=x) hi h1 (by omega) N3 x0 x1 a1 a2;simp only [aB,k1,QO,e1,e2,pp,g0,g1,ax,lx tB hx,s1,v4,l1,l2,beq_self_eq_true,pi]
     by_cases h2:2*i+2<n
     · have e3:afl (((2*i+2:Nat):Int)<(n:Int))=afd:=decide_eq_true (by omega)
       obtain ⟨QM,b1,b2⟩:=c.ev (2*i+2) h2;have g2:aK ((H.set i x).take n) ((2*i+2:Nat):Int)=afb H[2*i+2]!:=by rw [fa (by omega) (by rw [v4];omega),cell,ut (by omega)]
       have s2:=D3 (cap:=cap) (u:=u) (us:=us) (fr:=fr) (x:=x) hi h2 (by omega) N3 x0 x1 b1 b2;simp only [e3,pi,g2,ax,s2,lx QM hx,lx QM tB]
       by_cases h3:less H[2*i+2]! H[2*i+1]!
       · have k:fV n H i=2*i+2:=by unfold fV;rw [rc ⟨h2,h3⟩]
         rw [k]
         by_cases h4:less H[2*i+2]! x
         · simp only [h1,h3,h4,decide_true,pi,pp,M2,and_self,if_true]
         simp only [h1,h3,h4,decide_true,decide_false,pi,If,and_false,if_false]
       have k:fV n H i=2*i+1:=by unfold fV;rw [ut (fun h=>h3 h.2)]
       rw [k]
       by_cases h4:less H[2*i+1]! x
       · simp only [h1,h3,h4,decide_true,decide_false,pp,M2,and_self,if_true]
       simp only [h1,h3,h4,decide_false,pi,pp,If,and_false,if_false]
     have e3:afl (((2*i+2:Nat):Int)<(n:Int))=afk:=decide_eq_false (by omega)
     have k:fV n H i=2*i+1:=by unfold fV;rw [ut (fun h=>h2 h.1)]
     rw [k];simp only [e3,pp]
     by_cases h4:less H[2*i+1]! x
     · simp only [h1,h4,decide_true,pp,M2,and_self,if_true]
     simp only [h1,h4,decide_false,pi,If,and_false,if_false]
   have e1:afl ((n:Int)<=((2*i+1:Nat):Int))=afd:=decide_eq_true (by omega)
   rw [ut (fun h=>h1 h.1)];simp only [aB,k1,QO,e1,pi,v4,l1,l2,beq_self_eq_true]
  by_cases h:2*i+1<n/\less H[fV n H i]! x
  · rw [rc h] at body
    have kc:=lY n H i;have kn:fV n H i<n:=by omega
    rw [aW body,IS hx x0 d (fV n H i) _ _ (by omega) (c.move hi kn _ _) kn (by rw [v4];exact x1) (by rw [v4];exact l1) (by rw [v4];exact l2)];have e:di n x i H W=di n x (fV n H i) (H.set i H[fV n H i]!) (W.set (H[fV n H i]!).n (i:Int)):=by rw [di,dif_pos h.1,rc h.2]
    rw [e]
  rw [ut h] at body
  rw [aI body];have e:di n x i H W=(i,H,W):=by
   rw [di];split
   · rename_i h1;rw [ut (fun k=>h ⟨h1,k⟩)]
   rfl
  rw [e]
theorem z9 {n:Nat} {H:List Ev} {W:List Int} {x:Ev} {u fr:List Int} {us:List Bool} {i k:Nat} (hi:i<n) (hk:k<n) (MA:k≠i) (hn:n=afa H) (x0:0<=x.ix) (x1:x.ix<afa W) (k0:0<=(H[k]!).ix) (k1:(H[k]!).ix<afa W):
 ft ((i:Int),(k:Int),u,us,fr,H.set i x,W.set x.n (i:Int))=afb (u,us,fr,(H.set i H[k]!).set k x,(W.set (H[k]!).n (i:Int)).set x.n (k:Int)):=by
 have cell: ∀w,(H.set i x)[w]! =if w=i then x else H[w]!:=by
  intro w;rw [bg]
  by_cases e:w=i
  · rw [rc ⟨e,by omega⟩,rc e]
  rw [ut (fun k=>e k.1),ut e]
 have sh:((H.set i x).set i H[k]!).set k x=(H.set i H[k]!).set k x:=by rw [adc]
 have sw:((W.set x.n (i:Int)).set (H[k]!).n (i:Int)).set x.n (k:Int)=(W.set (H[k]!).n (i:Int)).set x.n (k:Int):=by
  by_cases e:x.n=(H[k]!).n
  · simp only [e,adc]
  rw [aeD _ _ (fun h=>e h),adc]
 have g1:aK ((H.set i x)) (k:Int)=afb H[k]!:=by rw [az _ _ (by rw [v4];omega),cell,ut MA]
 have g2:aK ((H.set i x)) (i:Int)=afb x:=by rw [az _ _ (by rw [v4];omega),cell,rc rfl]
 have g3:aK (((H.set i x).set i H[k]!)) (k:Int)=afb H[k]!:=by rw [az _ _ (by rw [v4,v4];omega),bg,ut (fun h=>MA h.1),cell,ut MA]
 have g4:aK (((H.set i H[k]!).set k x)) (i:Int)=afb H[k]!:=by rw [az _ _ (by rw [v4,v4];omega),bg,ut (fun h=>MA h.1.symm),bg,rc ⟨rfl,by omega⟩]
 have g5:aK (((H.set i H[k]!).set k x)) (k:Int)=afb x:=by rw [az _ _ (by rw [v4,v4];omega),bg,rc ⟨rfl,by rw [v4];omega⟩]
 have w6:=df (l:=W.set x.n (i:Int)) k0 (by rw [v4];exact k1);have w7:=df (l:=(W.set x.n (i:Int)).set (H[k]!).n (i:Int)) x0 (by rw [v4,v4];exact x1);have q1: ∀(l:List Int) (a:Int) (y:Ev),cb l y.2.2.2.1 a=l.set y.n a:=fun _ _ _=>rfl
 unfold ft;simp only [k9,g1,g2,g3,ax,sh,g4,g5,q1,w6,w7,sw,v4,beq_self_eq_true,pi]
theorem QP {c0:Int×List Int×List Bool×List Int×List Ev×List Int} {n:Nat} {u fr:List Int} {us:List Bool} {x:Ev} (hx:nV x) (x0:0<=x.ix) (l3:(afa c0.2.1)=afa u) (l4:(afa c0.2.2.1)=afa us) (l5:(afa c0.2.2.2.1)=afa fr):
 ∀(i:Nat) (H:List Ev) (W:List Int),kz n H W->i<n->afa H=n->x.ix<afa W->afa c0.2.2.2.2.1=afa H->afa c0.2.2.2.2.2=afa W->
  aE (fM c0) ((i:Int),u,us,fr,H.set i x,W.set x.n (i:Int))=afb (((gF x i H W).1:Int),u,us,fr,(gF x i H W).2.1.set (gF x i H W).1 x,(gF x i H W).2.2.set x.n ((gF x i H W).1:Int))
 |0,H,W,c,hi,MB,x1,l1,l2=>by
  have N3:=c.hn;refine aI ?_;unfold fM;have e1:afl ((0:Int)<((0:Nat):Int))=afk:=by simp
  rw [gF];simp only [e1,pp,v4,l1,l2,l3,l4,l5,beq_self_eq_true,pi]
 |i+1,H,W,c,hi,MB,x1,l1,l2=>by
  have hb:=c.hb;have N3:=c.hn;have e1:afl ((0:Int)<((i+1:Nat):Int))=afd:=decide_eq_true (by omega);have hp:i / 2<n:=by omega
  have dZ:i / 2≠i+1:=by omega
  obtain ⟨tB,a1,a2⟩:=c.ev (i / 2) hp;have cell: ∀w,(H.set (i+1) x)[w]! =if w=i+1 then x else H[w]!:=by
   intro w;rw [bg]
   by_cases e:w=i+1
   · rw [rc ⟨e,by omega⟩,rc e]
   rw [ut (fun k=>e k.1),ut e]
  have g0:aK ((H.set (i+1) x)) ((i+1:Nat):Int)=afb x:=by rw [az _ _ (by rw [v4];omega),cell,rc rfl]
  have g1:aK ((H.set (i+1) x)) ((i / 2:Nat):Int)=afb H[i / 2]!:=by rw [az _ _ (by rw [v4];omega),cell,ut dZ]
  by_cases h:less x H[i / 2]!
  · have sw:=z9 (u:=u) (us:=us) (fr:=fr) (x:=x) hi hp dZ MB.symm x0 x1 a1 a2
    have r:fM c0 (((i+1:Nat):Int),u,us,fr,H.set (i+1) x,W.set x.n ((i+1:Nat):Int))=afb (.next (((i / 2:Nat):Int),u,us,fr,(H.set (i+1) H[i / 2]!).set (i / 2) x,(W.set (H[i / 2]!).n ((i+1:Nat):Int)).set x.n ((i / 2:Nat):Int))):=by unfold fM;simp only [e1,pi,pA (show i<1000000000 by omega),g0,g1,ax,lx hx tB,h,decide_true,sw]
    rw [aW r,QP hx x0 l3 l4 l5 (i / 2) _ _ (c.move hi hp _ _) hp (by rw [v4];exact MB) (by rw [v4];exact x1) (by rw [v4];exact l1) (by rw [v4];exact l2)];have e:gF x (i+1) H W=gF x (i / 2) (H.set (i+1) H[i / 2]!) (W.set (H[i / 2]!).n ((i+1:Nat):Int)):=by rw [gF,rc h]
    rw [e]
  refine aI ?_
  unfold fM;have e:gF x (i+1) H W=(i+1,H,W):=by rw [gF,ut h]
  rw [e];simp only [e1,pi,pA (show i<1000000000 by omega),g0,g1,ax,lx hx tB,h,decide_false,pp,v4,l1,l2,l3,l4,l5,beq_self_eq_true]
termination_by i=>i
decreasing_by omega
theorem IT {c0:Int×List Int×List Bool×List Int×List Ev×List Int} {n:Nat} {u fr:List Int} {us:List Bool} {x:Ev} (hx:nV x) (x0:0<=x.ix) (l3:(afa c0.2.1)=afa u) (l4:(afa c0.2.2.1)=afa us) (l5:(afa c0.2.2.2.1)=afa fr):
 ∀(d i:Nat) (H:List Ev) (W:List Int),n-i<=d->kz n H W->i<n->afa H=n->x.ix<afa W->afa c0.2.2.2.2.1=afa H->afa c0.2.2.2.2.2=afa W->
  aE (iz c0) ((i:Int),u,us,fr,H.set i x,W.set x.n (i:Int))=afb ((u,us,fr,(di n x i H W).2.1.set (di n x i H W).1 x,(di n x i H W).2.2.set x.n ((di n x i H W).1:Int)))
 |0,i,H,W,hd,c,hi,MB,x1,l1,l2=>by omega
 |d+1,i,H,W,hd,c,hi,MB,x1,l1,l2=>by
  have hb:=c.hb;have N3:=c.hn;have cell: ∀w,(H.set i x)[w]! =if w=i then x else H[w]!:=by
   intro w;rw [bg]
   by_cases e:w=i
   · rw [rc ⟨e,by omega⟩,rc e]
   rw [ut (fun k=>e k.1),ut e]
  have QO:(H.set i x).length=(afa H):=v4;have body:iz c0 ((i:Int),u,us,fr,H.set i x,W.set x.n (i:Int))=afb (if 2*i+1<n/\less H[fV n H i]! x then .next (((fV n H i:Nat):Int),u,us,fr,(H.set i H[fV n H i]!).set (fV n H i) x,(W.set (H[fV n H i]!).n (i:Int)).set x.n ((fV n H i:Nat):Int)) else .done ((u,us,fr,H.set i x,W.set x.n (i:Int)))):=by
   have k1:=sB (show i<1000000000 by omega);unfold iz
   by_cases h1:2*i+1<n
   · have e1:afl ((n:Int)<=((2*i+1:Nat):Int))=afk:=decide_eq_false (by omega)
     have e2:ai .i64 (((2*i+1:Nat):Int)+1)=((2*i+2:Nat):Int):=ba (by omega);obtain ⟨tB,a1,a2⟩:=c.ev (2*i+1) h1;have g0:aK ((H.set i x)) (i:Int)=afb x:=by rw [az _ _ (by rw [v4];omega),cell,rc rfl]
     have g1:aK ((H.set i x)) ((2*i+1:Nat):Int)=afb H[2*i+1]!:=by rw [az _ _ (by rw [v4];omega),cell,ut (by omega)]
     have s1:=z9 (u:=u) (us:=us) (fr:=fr) (x:=x) hi h1 (by omega) MB.symm x0 x1 a1 a2;simp only [aB,k1,QO,MB,e1,e2,pp,g0,g1,ax,lx tB hx,s1,v4,l1,l2,l3,l4,l5,beq_self_eq_true,pi]
     by_cases h2:2*i+2<n
     · have e3:afl (((2*i+2:Nat):Int)<(n:Int))=afd:=decide_eq_true (by omega)
       obtain ⟨QM,b1,b2⟩:=c.ev (2*i+2) h2;have g2:aK ((H.set i x)) ((2*i+2:Nat):Int)=afb H[2*i+2]!:=by rw [az _ _ (by rw [v4];omega),cell,ut (by omega)]
       have s2:=z9 (u:=u) (us:=us) (fr:=fr) (x:=x) hi h2 (by omega) MB.symm x0 x1 b1 b2;simp only [e3,pi,g2,ax,s2,lx QM hx,lx QM tB]
       by_cases h3:less H[2*i+2]! H[2*i+1]!
       · have k:fV n H i=2*i+2:=by unfold fV;rw [rc ⟨h2,h3⟩]
         rw [k]
         by_cases h4:less H[2*i+2]! x
         · simp only [h1,h3,h4,decide_true,pi,pp,M2,and_self,if_true]
         simp only [h1,h3,h4,decide_true,decide_false,pi,If,and_false,if_false]
       have k:fV n H i=2*i+1:=by unfold fV;rw [ut (fun h=>h3 h.2)]
       rw [k]
       by_cases h4:less H[2*i+1]! x
       · simp only [h1,h3,h4,decide_true,decide_false,pp,M2,and_self,if_true]
       simp only [h1,h3,h4,decide_false,pi,pp,If,and_false,if_false]
     have e3:afl (((2*i+2:Nat):Int)<(n:Int))=afk:=decide_eq_false (by omega)
     have k:fV n H i=2*i+1:=by unfold fV;rw [ut (fun h=>h2 h.1)]
     rw [k];simp only [e3,pp]
     by_cases h4:less H[2*i+1]! x
     · simp only [h1,h4,decide_true,pp,M2,and_self,if_true]
     simp only [h1,h4,decide_false,pi,If,and_false,if_false]
   have e1:afl ((n:Int)<=((2*i+1:Nat):Int))=afd:=decide_eq_true (by omega)
   rw [ut (fun h=>h1 h.1)];simp only [aB,k1,QO,MB,e1,pi,v4,l1,l2,l3,l4,l5,beq_self_eq_true]
  by_cases h:2*i+1<n/\less H[fV n H i]! x
  · rw [rc h] at body
    have kc:=lY n H i;have kn:fV n H i<n:=by omega
    rw [aW body,IT hx x0 l3 l4 l5 d (fV n H i) _ _ (by omega) (c.move hi kn _ _) kn (by rw [v4];exact MB) (by rw [v4];exact x1) (by rw [v4];exact l1) (by rw [v4];exact l2)];have e:di n x i H W=di n x (fV n H i) (H.set i H[fV n H i]!) (W.set (H[fV n H i]!).n (i:Int)):=by rw [di,dif_pos h.1,rc h.2]
    rw [e]
  rw [ut h] at body
  rw [aI body];have e:di n x i H W=(i,H,W):=by
   rw [di];split
   · rename_i h1;rw [ut (fun k=>h ⟨h1,k⟩)]
   rfl
  rw [e]
theorem QQ {n:Nat} {H:List Ev} {W:List Int} {x:Ev} {u fr:List Int} {us:List Bool} {i k:Nat} (hi:i<n) (hk:k<n) (MA:k≠i) (hn:n=afa H) (x0:0<=x.ix) (x1:x.ix<afa W) (k0:0<=(H[k]!).ix) (k1:(H[k]!).ix<afa W):
 nR (u,us,fr,(i:Int),(k:Int),H.set i x,W.set x.n (i:Int))=afb ((H.set i H[k]!).set k x,(W.set (H[k]!).n (i:Int)).set x.n (k:Int)):=by
 have cell: ∀w,(H.set i x)[w]! =if w=i then x else H[w]!:=by
  intro w;rw [bg]
  by_cases e:w=i
  · rw [rc ⟨e,by omega⟩,rc e]
  rw [ut (fun k=>e k.1),ut e]
 have sh:((H.set i x).set i H[k]!).set k x=(H.set i H[k]!).set k x:=by rw [adc]
 have sw:((W.set x.n (i:Int)).set (H[k]!).n (i:Int)).set x.n (k:Int)=(W.set (H[k]!).n (i:Int)).set x.n (k:Int):=by
  by_cases e:x.n=(H[k]!).n
  · simp only [e,adc]
  rw [aeD _ _ (fun h=>e h),adc]
 have g1:aK ((H.set i x)) (k:Int)=afb H[k]!:=by rw [az _ _ (by rw [v4];omega),cell,ut MA]
 have g2:aK ((H.set i x)) (i:Int)=afb x:=by rw [az _ _ (by rw [v4];omega),cell,rc rfl]
 have g3:aK (((H.set i x).set i H[k]!)) (k:Int)=afb H[k]!:=by rw [az _ _ (by rw [v4,v4];omega),bg,ut (fun h=>MA h.1),cell,ut MA]
 have g4:aK (((H.set i H[k]!).set k x)) (i:Int)=afb H[k]!:=by rw [az _ _ (by rw [v4,v4];omega),bg,ut (fun h=>MA h.1.symm),bg,rc ⟨rfl,by omega⟩]
 have g5:aK (((H.set i H[k]!).set k x)) (k:Int)=afb x:=by rw [az _ _ (by rw [v4,v4];omega),bg,rc ⟨rfl,by rw [v4];omega⟩]
 have w6:=df (l:=W.set x.n (i:Int)) k0 (by rw [v4];exact k1);have w7:=df (l:=(W.set x.n (i:Int)).set (H[k]!).n (i:Int)) x0 (by rw [v4,v4];exact x1);have q1: ∀(l:List Int) (a:Int) (y:Ev),cb l y.2.2.2.1 a=l.set y.n a:=fun _ _ _=>rfl
 unfold nR;simp only [k9,g1,g2,g3,ax,sh,g4,g5,q1,w6,w7,sw,v4,beq_self_eq_true,pi]
theorem QR {c0:List Int×List Bool×List Int×Int×List Ev×List Int} {n:Nat} {u fr:List Int} {us:List Bool} {x:Ev} (hx:nV x) (x0:0<=x.ix):
 ∀(i:Nat) (H:List Ev) (W:List Int),kz n H W->i<n->afa H=n->x.ix<afa W->afa c0.2.2.2.2.1=afa H->afa c0.2.2.2.2.2=afa W->
  aE (fN c0) ((i:Int),H.set i x,W.set x.n (i:Int),u,us,fr)=afb (((gF x i H W).1:Int),(gF x i H W).2.1.set (gF x i H W).1 x,(gF x i H W).2.2.set x.n ((gF x i H W).1:Int))
 |0,H,W,c,hi,MB,x1,l1,l2=>by
  have N3:=c.hn;refine aI ?_;unfold fN;have e1:afl ((0:Int)<((0:Nat):Int))=afk:=by simp
  rw [gF];simp only [e1,pp,v4,l1,l2,beq_self_eq_true,pi]
 |i+1,H,W,c,hi,MB,x1,l1,l2=>by
  have hb:=c.hb;have N3:=c.hn;have e1:afl ((0:Int)<((i+1:Nat):Int))=afd:=decide_eq_true (by omega);have hp:i / 2<n:=by omega
  have dZ:i / 2≠i+1:=by omega
  obtain ⟨tB,a1,a2⟩:=c.ev (i / 2) hp;have cell: ∀w,(H.set (i+1) x)[w]! =if w=i+1 then x else H[w]!:=by
   intro w;rw [bg]
   by_cases e:w=i+1
   · rw [rc ⟨e,by omega⟩,rc e]
   rw [ut (fun k=>e k.1),ut e]
  have g0:aK ((H.set (i+1) x)) ((i+1:Nat):Int)=afb x:=by rw [az _ _ (by rw [v4];omega),cell,rc rfl]
  have g1:aK ((H.set (i+1) x)) ((i / 2:Nat):Int)=afb H[i / 2]!:=by rw [az _ _ (by rw [v4];omega),cell,ut dZ]
  by_cases h:less x H[i / 2]!
  · have sw:=QQ (u:=u) (us:=us) (fr:=fr) (x:=x) hi hp dZ MB.symm x0 x1 a1 a2
    have r:fN c0 (((i+1:Nat):Int),H.set (i+1) x,W.set x.n ((i+1:Nat):Int),u,us,fr)=afb (.next (((i / 2:Nat):Int),(H.set (i+1) H[i / 2]!).set (i / 2) x,(W.set (H[i / 2]!).n ((i+1:Nat):Int)).set x.n ((i / 2:Nat):Int),u,us,fr)):=by unfold fN;simp only [e1,pi,pA (show i<1000000000 by omega),g0,g1,ax,lx hx tB,h,decide_true,sw]
    rw [aW r,QR hx x0 (i / 2) _ _ (c.move hi hp _ _) hp (by rw [v4];exact MB) (by rw [v4];exact x1) (by rw [v4];exact l1) (by rw [v4];exact l2)];have e:gF x (i+1) H W=gF x (i / 2) (H.set (i+1) H[i / 2]!) (W.set (H[i / 2]!).n ((i+1:Nat):Int)):=by rw [gF,rc h]
    rw [e]
  refine aI ?_
  unfold fN;have e:gF x (i+1) H W=(i+1,H,W):=by rw [gF,ut h]
  rw [e];simp only [e1,pi,pA (show i<1000000000 by omega),g0,g1,ax,lx hx tB,h,decide_false,pp,v4,l1,l2,beq_self_eq_true]
termination_by i=>i
decreasing_by omega
theorem aJ {p:Prop} [Decidable p] (h: ¬p):decide p=afk:=decide_eq_false h
theorem aM {p:Prop} [Decidable p] (h:p):decide p=afd:=decide_eq_true h
theorem IU (au:List Int) (be:List Bool) (fr:List Int) (fl:List Bool) (h1:(afa au)<=200) (h2:(afa be)=afa au) (h3:(afa fl)=afa au):
 ((∀i,i<afa au->0<=au[i]!/\au[i]!<=1000000/\be[i]!≠fl[i]!/\(be[i]! =afd->1<=au[i]!))->aE iI (((afa au):Int),0,au,be,fr,fl)=afb (.done 0))/\
 (¬(∀i,i<afa au->0<=au[i]!/\au[i]!<=1000000/\be[i]!≠fl[i]!/\(be[i]! =afd->1<=au[i]!))->aE iI (((afa au):Int),0,au,be,fr,fl)=afb (.done 8)):=by
 have key:=c7 (body:=iI) (fun i=>(((afa au):Int),(i:Int),au,be,fr,fl)) (afa au) (fun i=> ¬(0<=au[i]!/\au[i]!<=1000000/\be[i]!≠fl[i]!/\(be[i]! =afd->1<=au[i]!))) (r:= .done 8) (e:= .done 0) (fun i hi=>by
  have e1:afl ((i:Int)<((afa au):Int))=afd:=aM (by omega);unfold iI;simp only [e1,pi,az au i hi,az be i (by omega),az fl i (by omega),ax,ba (show i<1000000000 by omega)];generalize au[i]! =u;generalize be[i]! =a;generalize fl[i]! =b
  by_cases a1:u<0
  · simp only [a1,decide_true,pi];exact ⟨fun _=>trivial,fun h=>absurd (ww.1 h).1 (by omega)⟩
  · by_cases a2:1000000<u
    · simp only [a1,a2,decide_true,decide_false,pi,pp];exact ⟨fun _=>trivial,fun h=>absurd (ww.1 h).2.1 (by omega)⟩
    simp only [a1,a2,decide_false,pp]
    by_cases a3:u<1
    · cases a<;>cases b<;>simp [a3]<;>omega
    cases a<;>cases b<;>simp [a3]<;>omega) (by
  unfold iI;have:afl (((afa au):Int)<((afa au):Int))=afk:=aJ (by omega);simp only [this,pp])
 constructor
 · intro h
   exact key.2 fun i hi=>ww.2 (h i hi)
 intro h
 obtain ⟨i,h⟩:=IR.1 h;obtain ⟨hi,hx⟩:=ae2.1 h;exact key.1 ⟨i,hi,hx⟩
theorem QS {α:Type} {n:Nat} (z:α) (h:n<=1048576):HX (n:Int) z=afb (AC n z):=by unfold HX;rw [rc ⟨by omega,by omega⟩];simp
theorem D4 (s:aQ) (hf:(afa s.bi)<=1000000):rA s=afb (if dW s then 0 else 8):=by
 obtain ⟨au,be,fr⟩:=s;dsimp only at hf;unfold rA;simp only [aB]
 by_cases a1:(afa au)<1
 · have e:afl (((afa au):Int)<1)=afd:=aM (by omega)
   rw [e,ut (fun h=>by have:=h.n1;dsimp only at this;omega)];rfl
 have e1:afl (((afa au):Int)<1)=afk:=aJ (by omega)
 by_cases a2:200<afa au
 · have e:afl (200<((afa au):Int))=afd:=aM (by omega)
   rw [e1,e,ut (fun h=>by have:=h.n2;dsimp only at this;omega)];rfl
 have e2:afl (200<((afa au):Int))=afk:=aJ (by omega)
 by_cases a3:(afa be)=afa au
 case neg=>have e:(((afa be):Int) !=((afa au):Int))=afd:=dK (by omega);rw [e1,e2,e,ut (fun h=>a3 h.ul)];rfl
 have e3:(((afa be):Int) !=((afa au):Int))=afk:=bz (by omega)
 by_cases a4:(afa au)<afa fr
 · have e:afl (((afa au):Int)<((afa fr):Int))=afd:=aM (by omega)
   rw [e1,e2,e3,e,ut (fun h=>by have:=h.fl;dsimp only at this;omega)];rfl
 have e4:afl (((afa au):Int)<((afa fr):Int))=afk:=aJ (by omega);simp only [e1,e2,e3,e4,pp,beq_self_eq_true,pi,QS afk (show (afa au)<=1048576 by omega),ax];have ml: ∀k,(marks (AC (afa au) afk) (fr.take k)).length=(afa au):=fun k=>by rw [kM,UV]
 have ml':(marks (AC (afa au) afk) fr).length=(afa au):=by rw [kM,UV]
 have rep: ∀i:Nat,(AC (afa au) afk)[i]! =afk:=by
  intro i
  by_cases h:i<afa au
  · rw [getElem!_pos _ i (by simpa using h),List.getElem_replicate]
  rw [getElem!_neg _ i (by simpa using h)];rfl
 have wK:=IU au be fr (marks (AC (afa au) afk) fr) (by omega) a3 ml';have key:=c7 (body:=mL) (fun k=>(((afa au):Int),(k:Int),au,be,fr,marks (AC (afa au) afk) (fr.take k))) (afa fr)
  (fun k=>fr[k]!<0\/((afa au):Int)<=fr[k]!\/(marks (AC (afa au) afk) (fr.take k))[(fr[k]!).toNat]! =afd) (r:=8)
  (e:=if (∀i,i<afa au->0<=au[i]!/\au[i]!<=1000000/\be[i]!≠(marks (AC (afa au) afk) fr)[i]!/\(be[i]! =afd->1<=au[i]!)) then 0 else 8) (fun k hk=>by
   have f1:afl ((k:Int)<((afa fr):Int))=afd:=aM (by omega);have f5:marks (AC (afa au) afk) (fr.take (k+1))=cb (marks (AC (afa au) afk) (fr.take k)) fr[k]! afd:=by rw [iU hk,yT]
   unfold mL;simp only [aB,f1,pi,az fr k hk,ax,ba (show k<1000000000 by omega),f5];clear f5;generalize fr[k]! =x
   by_cases b1:x<0
   · simp [b1]
   · by_cases b2:((afa au):Int)<=x
     · simp [b1,b2]
     simp only [b1,b2,decide_false,pp,false_or]
     rw [df (l:=marks (AC (afa au) afk) (fr.take k)) (i:=x) (by omega) (by rw [ml];omega)];simp only [ax];cases (marks (AC (afa au) afk) (fr.take k))[x.toNat]!<;>simp) (by
   have f1:afl (((afa fr):Int)<((afa fr):Int))=afk:=aJ (by omega);unfold mL;simp only [aB,f1,pp,aeJ]
   by_cases hx:(∀i,i<afa au->0<=au[i]!/\au[i]!<=1000000/\be[i]!≠(marks (AC (afa au) afk) fr)[i]!/\(be[i]! =afd->1<=au[i]!))
   · rw [rc hx];exact wK.1 hx
   rw [ut hx];exact wK.2 hx)
 have h0:marks (AC (afa au) afk) (fr.take 0)=AC (afa au) afk:=rfl;rw [show ((0:Nat):Int)=0 from rfl,h0] at key
 by_cases bad: ∃k,k<afa fr/\(fr[k]!<0\/((afa au):Int)<=fr[k]!\/(marks (AC (afa au) afk) (fr.take k))[(fr[k]!).toNat]! =afd)
 · rw [key.1 bad,ut]
   intro ok;obtain ⟨k,hk,hb⟩:=bad;have hr:=ok.fr fr[k]! (bj hk);dsimp only at hr;rcases hb with hb|hb|hb
   · omega
   · omega
   rw [lX _ _ _ (fun x hx=>(ok.fr x (adT hx)).1) (by rw [UV];omega),rep,aeE] at hb
   have hi:((fr[k]!).toNat:Int)=fr[k]!:=by omega
   rw [hi] at hb;have hm:fr[k]!∈fr.take k:=of_decide_eq_true hb;obtain ⟨j,h1,h2,h3⟩:=cN.1 hm;exact db.1 ok.fd j k h1 hk h3
 have KX: ∀k,k<afa fr->0<=fr[k]!/\fr[k]!<afa au/\(marks (AC (afa au) afk) (fr.take k))[(fr[k]!).toNat]! =afk:=by
  intro k hk;refine ⟨?_,?_,?_⟩
  · exact Int.not_lt.1 fun h=>bad ⟨k,hk,.inl h⟩
  · exact Int.not_le.1 fun h=>bad ⟨k,hk,.inr (.inl h)⟩
  exact aex _▸fun h=>bad ⟨k,hk,.inr (.inr h)⟩
 rw [key.2 fun k hk hb=>bad ⟨k,hk,hb⟩];have XJ: ∀x∈fr,0<=x/\x<((afa au):Int):=by intro x hx;obtain ⟨k,hk,rfl⟩:=aS.1 hx;exact ⟨(KX k hk).1,(KX k hk).2.1⟩
 have g2: ∀k,k<afa fr->fr[k]!∉fr.take k:=by intro k hk;obtain ⟨c1,c2,c3⟩:=KX k hk;rw [lX _ _ _ (fun x hx=>(XJ x (adT hx)).1) (by rw [UV];omega),show ((fr[k]!).toNat:Int)=fr[k]! by omega,rep,aeE] at c3;exact of_decide_eq_false c3
 have nd:fr.Nodup:=db.2 fun i j mf hj he=>g2 j hj (cN.2 ⟨i,mf,by omega,he⟩)
 have fl: ∀i,i<afa au->(marks (AC (afa au) afk) fr)[i]! =afl ((i:Int)∈fr):=by intro i hi;rw [lX _ _ _ (fun x hx=>(XJ x hx).1) (by rw [UV];omega),rep,aeE]
 by_cases hx:(∀i,i<afa au->0<=au[i]!/\au[i]!<=1000000/\be[i]!≠(marks (AC (afa au) afk) fr)[i]!/\(be[i]! =afd->1<=au[i]!))
 · rw [rc hx,rc]
   refine ⟨by show 1<=afa au;omega,by show (afa au)<=200;omega,a3,XJ,nd,fun i hi=>?_,fun i hi=>?_⟩
   · have:=(hx i hi).2.2.1
     rw [fl i hi] at this;dsimp only;cases h:be[i]! with
     |true=>rw [h] at this;refine ⟨fun _ hm=>?_,fun _=>rfl⟩;rw [aM hm] at this;exact this rfl
     |false=>rw [h] at this;refine ⟨fun h=>(by cases h),fun hm=>?_⟩;rw [aJ hm] at this;exact absurd rfl this
   have:=hx i hi
   exact ⟨this.1,this.2.1,this.2.2.2⟩
 rw [ut hx,ut]
 intro ok;refine hx fun i hi=>?_
 obtain ⟨u1,u2,u3⟩:=ok.us i hi;refine ⟨u1,u2,?_,u3⟩;rw [fl i hi];have:=ok.uf i hi;dsimp only at this;intro he
 by_cases hm:(i:Int)∈fr
 · rw [aM hm] at he;exact (this.1 he) hm
 rw [aJ hm] at he
 have:=this.2 hm;rw [he] at this;cases this
structure wN (a:aF):Prop where
 fr:(afa a.ae.bi)<=1000000
 hp:(afa a.bv)<=1000000
 wh:(afa a.aj)<=1000000
 D5: ∀w,w<afa a.bv->jw ((a.bv[w]!).1,(a.bv[w]!).2.1)
structure dT (a:aF):Prop where
 so:dW a.ae
 wl:(afa a.aj)=afa a.ae.au
 hl:(afa a.bv)+afa a.ae.bi=afa a.ae.au
 fwd: ∀i,i<afa a.ae.au->a.ae.be[i]! =afd->0<=a.aj[i]!/\a.aj[i]!<afa a.bv/\(Ev.ix a.bv[(a.aj[i]!).toNat]!)=i/\(a.bv[(a.aj[i]!).toNat]!).2.2.2.2=a.ae.au[i]!
 un: ∀i,i<afa a.ae.au->a.ae.be[i]! =afk->a.aj[i]! = -1
 ev: ∀w,w<afa a.bv->nV a.bv[w]!
 nd: ∀v w,v<w->w<afa a.bv->(Ev.num a.bv[v]!)≠(Ev.num a.bv[w]!)
 ord: ∀k,0<k->k<afa a.bv-> ¬less a.bv[k]! a.bv[(k-1) / 2]!
theorem cover: ∀(n:Nat) (l:List Nat),(∀x,x<n->x∈l)->n<=afa l
 |0,_,_=>Nat.zero_le _
 |n+1,l,h=>by have hn:=h n (by omega);have:=cover n (l.erase n) (fun x hx=>by rw [List.mem_erase_of_ne (by omega)];exact h x (by omega));rw [List.length_erase_of_mem hn] at this;have:=List.length_pos_of_mem hn;omega
def FA (s:aQ):List Nat:=(List.range (afa s.au)).filter fun i=>s.be[i]!
theorem xx {s:aQ} {i:Nat}:i∈FA s↔i<afa s.au/\s.be[i]! =afd:=by unfold FA;rw [aeQ,List.mem_range]
theorem xy {α β:Type} {f:α->β}: ∀{l:List α},l.Nodup->(∀x∈l,∀y∈l,f x=f y->x=y)->(l.map f).Nodup
 | [],_,_=>by simp
 |a::l,h,hf=>by rw [ae6] at h;rw [List.map_cons,ae6];refine ⟨?_,xy h.2 fun x hx y hy=>hf x (by simp [hx]) y (by simp [hy])⟩;intro hm;obtain ⟨b,hb,e⟩:=adR.1 hm;have:=hf b (by simp [hb]) a (by simp) e;subst this;exact h.1 hb
theorem dT.back {a:aF} (ok:dT a) {w:Nat} (hw:w<afa a.bv):0<=(Ev.ix a.bv[w]!)/\(Ev.ix a.bv[w]!)<afa a.ae.au/\a.ae.be[(Ev.n a.bv[w]!)]! =afd/\a.ae.au[(Ev.n a.bv[w]!)]! =(a.bv[w]!).2.2.2.2/\a.aj[(Ev.n a.bv[w]!)]! =(w:Int):=by
 have so:=ok.so;have len:(afa a.ae.au)<=(FA a.ae).length+(afa a.ae.bi):=by
  have:=cover (afa a.ae.au) (FA a.ae++a.ae.bi.map af2) (fun x hx=>by
   rw [aey]
   by_cases hu:a.ae.be[x]! =afd
   · exact .inl (xx.2 ⟨hx,hu⟩)
   right
   have:=so.uf x hx;have hm:(x:Int)∈a.ae.bi:=NE fun hc=>hu (this.2 hc)
   exact adR.2 ⟨_,hm,by omega⟩)
  rw [List.length_append,ae7] at this;exact this
 have f0: ∀i∈FA a.ae,0<=a.aj[i]!/\a.aj[i]!<afa a.bv/\(Ev.ix a.bv[(a.aj[i]!).toNat]!)=i/\(a.bv[(a.aj[i]!).toNat]!).2.2.2.2=a.ae.au[i]!:=fun i hi=>ok.fwd i (xx.1 hi).1 (xx.1 hi).2
 have full:=BH (n:=afa a.bv) (l:=(FA a.ae).map fun i=>(a.aj[i]!).toNat) (by
  refine xy ?_ ?_
  · exact List.Pairwise.filter _ List.nodup_range
  · intro x hx y hy he
    have h1:=(f0 x hx).2.2.1;have h2:=(f0 y hy).2.2.1;rw [he] at h1;omega) (by
  intro x hx;obtain ⟨i,hi,rfl⟩:=adR.1 hx;have:=f0 i hi;omega) (by
  rw [ae7];have:=ok.hl;omega) w hw
 obtain ⟨i,hi,e⟩:=adR.1 full;obtain ⟨c1,c2,c3,c4⟩:=f0 i hi;obtain ⟨d1,d2⟩:=xx.1 hi;rw [e] at c3 c4;have hn:(Ev.n a.bv[w]!)=i:=by show ((Ev.ix a.bv[w]!)).toNat=i;omega
 rw [hn];refine ⟨by omega,by omega,d2,c4.symm,by omega⟩
noncomputable def K2 (x y:Ev):Int:=if bm (x.1,x.2.1)/\bm (y.1,y.2.1) then DZ x y else ir x.2.2.1 y.2.2.1
theorem yV {x y:Ev} (hx:jw (x.1,x.2.1)) (hy:jw (y.1,y.2.1)):bV x y=afb (K2 x y):=by
 unfold bV K2 DZ;rw [Ba hx hy]
 by_cases h:bm (x.1,x.2.1)/\bm (y.1,y.2.1)
 · rw [rc h,rc h]
   simp only [ax,iS,xt]
 rw [ut h,ut h]
 simp only [ax,iS,xt];simp
def D6 (a:aF) (i:Nat):Prop:=(a.ae.be[i]! =afd->0<=a.aj[i]!/\a.aj[i]!<afa a.bv/\(Ev.ix a.bv[(a.aj[i]!).toNat]!)=i/\(a.bv[(a.aj[i]!).toNat]!).2.2.2.2=a.ae.au[i]!)/\(a.ae.be[i]! =afk->a.aj[i]! = -1)
def EP (H:List Ev) (k:Nat):Prop:=bm ((H[k]!).1,(H[k]!).2.1)/\0<=(H[k]!).2.2.1/\(H[k]!).2.2.1<=1000000/\(∀j,j<k->(H[j]!).2.2.1≠(H[k]!).2.2.1)/\(0<k-> ¬K2 H[k]! H[(k-1) / 2]!<0)
theorem dT.of {a:aF} (fit:wN a) (so:dW a.ae) (wl:(afa a.aj)=afa a.ae.au) (hl:(afa a.bv)+afa a.ae.bi=afa a.ae.au) (wh: ∀i,i<afa a.ae.au->D6 a i) (hp: ∀k,k<afa a.bv->EP a.bv k):dT a:=by
 have ev: ∀w,w<afa a.bv->nV a.bv[w]!:=fun w hw=>⟨(hp w hw).1,fit.D5 w hw,(hp w hw).2.1,(hp w hw).2.2.1⟩
 refine ⟨so,wl,hl,fun i hi=>(wh i hi).1,fun i hi=>(wh i hi).2,ev,fun v w hv hw=>(hp w hw).2.2.2.1 v hv,fun k k0 hk=>?_⟩;have:=(hp k hk).2.2.2.2 k0;unfold K2 at this;rw [rc ⟨(hp k hk).1,(hp ((k-1) / 2) (by omega)).1⟩,z8] at this;exact this
theorem dT.to {a:aF} (ok:dT a):(∀i,i<afa a.ae.au->D6 a i)/\(∀k,k<afa a.bv->EP a.bv k):=by refine ⟨fun i hi=>⟨ok.fwd i hi,ok.un i hi⟩,fun k hk=>?_⟩;have e:=ok.ev k hk;refine ⟨e.1,e.2.2.1,e.2.2.2,fun j hj=>ok.nd j k hj hk,fun k0=>?_⟩;unfold K2;rw [rc ⟨e.1,(ok.ev ((k-1) / 2) (by omega)).1⟩,z8];exact ok.ord k k0 hk
theorem FB (H:List Ev) (k:Nat) (n:Int):mC [n] ((H.take k).map fun x=>[x.2.2.1])=afd:=by unfold mC;rw [List.all_eq_true];intro x hx;obtain ⟨y,hy,rfl⟩:=adR.1 hx;rfl
theorem FC (H:List Ev) (k:Nat) (n:Int):B1 ((H.take k).map fun x=>[x.2.2.1]) [n]=afl (∃j,j<k/\j<afa H/\(H[j]!).2.2.1=n):=by
 unfold B1;rw [Bool.eq_iff_iff,List.any_eq_true,decide_eq_true_iff];constructor
 · rintro ⟨x,hx,he⟩
   obtain ⟨y,hy,rfl⟩:=adR.1 hx;obtain ⟨j,h1,h2,rfl⟩:=cN.1 hy;have:[n]=[(H[j]!).2.2.1]:=by simpa using he
   exact ⟨j,h1,h2,by injection this with h;exact h.symm⟩
 rintro ⟨j,h1,h2,h3⟩
 refine ⟨[(H[j]!).2.2.1],adR.2 ⟨H[j]!,cN.2 ⟨j,h1,h2,rfl⟩,rfl⟩,?_⟩;rw [h3];simp
theorem GR (H:List Ev) (u fr W:List Int) (us:List Bool) (hl:(afa H)<=1000000) (mb: ∀w,w<afa H->jw ((H[w]!).1,(H[w]!).2.1)):
 ((∀k,k<afa H->EP H k)->aE gN (H,((afa H):Int),0,u,us,fr,H,W,[])=afb (.done 0))/\(¬(∀k,k<afa H->EP H k)->aE gN (H,((afa H):Int),0,u,us,fr,H,W,[])=afb (.done 8)):=by
 have key:=c7 (body:=gN) (fun k=>(H,((afa H):Int),(k:Int),u,us,fr,H,W,(H.take k).map fun x=>[x.2.2.1])) (afa H) (fun k=> ¬EP H k) (r:= .done 8) (e:= .done 0) (fun k hk=>by
  have e1:afl ((k:Int)<((afa H):Int))=afd:=aM (by omega);have ins: ∀n:Int,¬(∃j,j<k/\j<afa H/\(H[j]!).2.2.1=n)->HZ ((H.take k).map fun x=>[x.2.2.1]) [n]=afb (((H.take k).map fun x=>[x.2.2.1])++[[n]]):=by intro n hn;unfold HZ Kc;rw [FB,FC,aJ hn];rfl
  have has: ∀n:Int,HY ((H.take k).map fun x=>[x.2.2.1]) [n]=afb (afl (∃j,j<k/\j<afa H/\(H[j]!).2.2.1=n)):=by intro n;unfold HY;rw [FB,FC];rfl
  have nx:(H.take (k+1)).map (fun x=>[x.2.2.1])=((H.take k).map fun x=>[x.2.2.1])++[[(H[k]!).2.2.1]]:=by rw [iU hk,List.map_append];rfl
  unfold gN;simp only [e1,pi,az H k hk,ax,cw (mb k hk),ba (show k<1000000000 by omega),has,nx];unfold EP
  by_cases b1:bm ((H[k]!).1,(H[k]!).2.1)
  case neg=>rw [ut b1];exact ⟨fun _=>rfl,fun h=>absurd (ww.1 h).1 b1⟩
  rw [rc b1]
  by_cases b2:(H[k]!).2.2.1<0
  · rw [aM b2]
    exact ⟨fun _=>rfl,fun h=>absurd (ww.1 h).2.1 (by omega)⟩
  by_cases b3:1000000<(H[k]!).2.2.1
  · rw [aJ b2,aM b3]
    exact ⟨fun _=>rfl,fun h=>absurd (ww.1 h).2.2.1 (by omega)⟩
  rw [aJ b2,aJ b3]
  by_cases b4: ∃j,j<k/\j<afa H/\(H[j]!).2.2.1=(H[k]!).2.2.1
  · rw [aM b4]
    refine ⟨fun _=>rfl,fun h=>?_⟩;obtain ⟨j,j1,j2,j3⟩:=b4;exact absurd j3 ((ww.1 h).2.2.2.1 j j1)
  rw [aJ b4,ins _ b4];have b4': ∀j,j<k->(H[j]!).2.2.1≠(H[k]!).2.2.1:=fun j hj he=>b4 ⟨j,hj,by omega,he⟩
  simp only [show ((0:Int) !=0)=afk from rfl,pp,ax]
  by_cases b5:0<k
  · obtain ⟨m,rfl⟩: ∃m,k=m+1:=⟨k-1,by omega⟩
    have f1:afl ((0:Int)<((m+1:Nat):Int))=afd:=aM (by omega);simp only [f1,pi,pA (show m<1000000000 by omega),az H (m / 2) (by omega),ax,yV (mb (m+1) hk) (mb (m / 2) (by omega)),show (m+1-1) / 2=m / 2 by omega]
    by_cases b6:K2 H[m+1]! H[m / 2]!<0
    · rw [aM b6]
      exact ⟨fun _=>rfl,fun h=>absurd b6 ((ww.1 h).2.2.2.2 (by omega))⟩
    rw [aJ b6]
    exact ⟨fun h=>absurd ⟨b1,by omega,by omega,b4',fun _=>b6⟩ h,fun _=>rfl⟩
  · have f1:afl ((0:Int)<(k:Int))=afk:=aJ (by omega)
    rw [f1];exact ⟨fun h=>absurd ⟨b1,by omega,by omega,b4',fun h=>absurd h b5⟩ h,fun _=>rfl⟩) (by
  unfold gN;have:afl (((afa H):Int)<((afa H):Int))=afk:=aJ (by omega);simp only [this,pp])
 constructor
 · intro h
   exact key.2 fun i hi=>ww.2 (h i hi)
 intro h
 obtain ⟨i,h⟩:=IR.1 h;obtain ⟨hi,hx⟩:=ae2.1 h;exact key.1 ⟨i,hi,hx⟩
end Go.Proofs.YtclphlgnjkajbaaGreat
