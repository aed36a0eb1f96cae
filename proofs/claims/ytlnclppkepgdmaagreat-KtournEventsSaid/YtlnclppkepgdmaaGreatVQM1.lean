/- Plain laws (1). -/
import Derived.Test.YtlnclppkepgdmaaGreatVVm3
import Derived.Test.YtlnclppkepgdmaaGreatVVm1
import Derived.Test.YtlnclppkepgdmaaGreatVQTB
open List renaming length_set->pp,replicate->ut,length_replicate->M2,set_set->PP,mem_map->ab0,mem_of_mem_take->abA,length_take->abZ,nodup_cons->aci,length_map->acj,mem_singleton->acr,getElem?_eq_getElem->acw,mem_append->acE,set_comm->ad0,length_cons->adc,take_length->adh,mem_filter->ads,mem_cons->adE,length->adQ
open Int renaming ofNat->rc,mul_le_mul_of_nonneg_right->IR,tdiv->NE,mul_neg_of_neg_of_pos->ac2,eq_ofNat_of_zero_le->ac6,neg_mul->ach,mul_comm->acl,mul_lt_mul_of_pos_right->acn,fdiv_eq_ediv_of_nonneg->aco,mul_le_mul->acp,tdiv_eq_ediv_of_nonneg->acq,lt_of_mul_lt_mul_right->acs,lt_trichotomy->acu,mul_nonneg->acS,natCast_mul->adr,ofNat_tmod->adt,ofNat_tdiv->adu,mul_assoc->ady,toNat->adI
open Classical renaming not_not->sp,not_forall->Do,byContradiction->If,not_imp->acg
open Option.some renaming injEq->v6
open Nat renaming gcd->ww,gcd_comm->acf,gcd_dvd_right->acv,gcd_pos_of_pos_right->acy,le_refl->acF,mul_div_cancel'->acX,gcd_zero_right->ad3,gcd_dvd_left->ada,strongRecOn->adk,div_le_self->adm,le_trans->adK
open Bool renaming not_false->AC,not_true->EQ,not_eq_true->acA,or_eq_false_iff->acV,false_or->ad2,false_eq_true->ad7,true->aec,false->ael
open Prod.mk renaming injEq->UV
open Option renaming some->adX,none->adZ
open Decidable renaming decide->aen
namespace Go.Vm
instance lpN:LP:=⟨adZ⟩
section
variable {σ ρ : Type}
theorem yQ {body:σ->Option (Step σ ρ)} {x:σ} {r:ρ}:aB body x=adX r↔ ∃n,od body n x=adX r:=DY
theorem aT {body:σ->Option (Step σ ρ)} {x y:σ} (h:body x=adX (.next y)):aB body x=aB body y:=by
 apply Option.ext;intro r;rw [yQ,yQ];constructor
 · rintro ⟨n,hn⟩
   cases n with
   |zero=>cases hn
   |succ n=>simp only [od,h] at hn;exact ⟨n,hn⟩
 rintro ⟨n,hn⟩
 exact ⟨n+1,by simp only [od,h];exact hn⟩
theorem aG {body:σ->Option (Step σ ρ)} {x:σ} {r:ρ} (h:body x=adX (.done r)):aB body x=adX r:=
 yQ.2 ⟨1,by simp only [od,h]⟩
end
end Go.Vm
namespace Go.Proofs.YtlnclppkepgdmaaGreat
open Go.Vm
noncomputable def w5 (p0:Field):Option Field:=
 (bN p0.am).bind fun l0=>
 adX (Field.mk l0)
noncomputable def w8 (p0:bm):Option bm:=
 (bN p0.ce).bind fun l0=>
 adX (bm.mk p0.aL l0)
noncomputable def sW (p0:aS):Option aS:=
 (bN p0.az).bind fun l0=>
 (bN p0.be).bind fun l1=>
 (bN p0.bi).bind fun l2=>
 adX (aS.mk l0 l1 l2)
noncomputable def pA (p0:aK):Option aK:=
 (sW p0.af).bind fun r0=>
 (bN p0.bv).bind fun l1=>
 (bN p0.aj).bind fun l2=>
 adX (aK.mk r0 l1 l2)
noncomputable def pB (p0:aI):Option aI:=
 (w5 p0.ii).bind fun r0=>
 (w8 p0.ai).bind fun r1=>
 (pA p0.ae).bind fun r2=>
 (bN p0.io).bind fun l3=>
 adX (aI.mk p0.ci r0 r1 r2 l3)
noncomputable def jN (s:(Int×Int×Int×(List (Int×Int×Int))×Int×Int×(List (Int×Int×Int)))):Option (Step (Int×Int×Int×(List (Int×Int×Int))×Int×Int×(List (Int×Int×Int))) bm):=
 bif aen (s.2.1<(rc (adQ s.2.2.2.1))) then
  (aH s.2.2.2.1 s.2.1).bind fun a0=>
  bif a0.1 !=s.1 then
   (aH s.2.2.2.1 s.2.1).bind fun a1=>
   (bK s.2.2.2.2.2.2 [a1]).bind fun l2=>
   adX (.next (s.1,aa .i64 (s.2.1+1),s.2.2.1,s.2.2.2.1,s.2.2.2.2.1,s.2.2.2.2.2.1,l2))
  else
   adX (.next (s.1,aa .i64 (s.2.1+1),s.2.2))
 else
  adX (.done (bm.mk s.2.2.2.2.2.1 s.2.2.2.2.2.2))
noncomputable def uM (p0:bm) (p1:Int):Option bm:=
 aB jN (p1,0,p0.aL,p0.ce,0,p0.aL,[])
noncomputable def oH (s:(Int×Int×Int×Int×(List (Int×Int×Int))×Int×(List (Int×Int×Int))×(List Int)×(List Bool)×(List Int)×(List (Int×Int×Int×Int×Int))×(List Int)×(List (Int×Int×Int)))):Option (Step (Int×Int×Int×Int×(List (Int×Int×Int))×Int×(List (Int×Int×Int))×(List Int)×(List Bool)×(List Int)×(List (Int×Int×Int×Int×Int))×(List Int)×(List (Int×Int×Int))) Int):=
 bif aen (s.2.1<(rc (adQ s.2.2.2.2.2.2.2.2.2.2.2.2))) then
  (aH s.2.2.2.2.2.2.2.2.2.2.2.2 s.2.1).bind fun a0=>
  bif a0.1==s.1 then
   adX (.done s.2.1)
  else
   adX (.next (s.1,aa .i64 (s.2.1+1),s.2.2))
 else
  adX (.done (-1))
noncomputable def qM (p0:aI) (p1:Int):Option Int:=
 aB oH (p1,0,p0.ci.1,p0.ci.2,p0.ii.am,p0.ai.aL,p0.ai.ce,p0.ae.af.az,p0.ae.af.be,p0.ae.af.bi,p0.ae.bv,p0.ae.aj,p0.io)
noncomputable def qN (p0:aS) (p1:Int×Int):Option aS:=
 (sW p0).bind fun r0=>
 (aH r0.be p1.1).bind fun b1=>
 (bK r0.bi [p1.1]).bind fun l2=>
 adX (aS.mk r0.az (cp r0.be p1.1 ael) l2)
noncomputable def fL (a:(Int×Int×(List Int)×(List Bool)×(List Int)×(List (Int×Int×Int×Int×Int))×(List Int))):Option ((List Int)×(List Bool)×(List Int)×(List (Int×Int×Int×Int×Int))×(List Int)):=
 (aH a.2.2.2.2.2.1 a.2.1).bind fun a0=>
 (aH a.2.2.2.2.2.1 a.1).bind fun a1=>
 (aH a.2.2.2.2.2.1 a.1).bind fun a2=>
 (aH (cp a.2.2.2.2.2.1 a.1 a0) a.2.1).bind fun a3=>
 (aH (cp (cp a.2.2.2.2.2.1 a.1 a0) a.2.1 a1) a.1).bind fun a4=>
 (aH (cp (cp a.2.2.2.2.2.1 a.1 a0) a.2.1 a1) a.2.1).bind fun a5=>
 (aH a.2.2.2.2.2.2 a4.2.2.2.1).bind fun n6=>
 (aH (cp a.2.2.2.2.2.2 a4.2.2.2.1 a.1) a5.2.2.2.1).bind fun n7=>
 bif (adQ a.2.2.1)==(adQ a.2.2.1) then
  bif (adQ a.2.2.2.1)==(adQ a.2.2.2.1) then
   bif (adQ a.2.2.2.2.1)==(adQ a.2.2.2.2.1) then
    bif ((cp (cp a.2.2.2.2.2.1 a.1 a0) a.2.1 a1).length)==(adQ a.2.2.2.2.2.1) then
     bif ((cp (cp a.2.2.2.2.2.2 a4.2.2.2.1 a.1) a5.2.2.2.1 a.2.1).length)==(adQ a.2.2.2.2.2.2) then
      adX (a.2.2.1,a.2.2.2.1,a.2.2.2.2.1,cp (cp a.2.2.2.2.2.1 a.1 a0) a.2.1 a1,cp (cp a.2.2.2.2.2.2 a4.2.2.2.1 a.1) a5.2.2.2.1 a.2.1)
     else
      adZ
    else
     adZ
   else
    adZ
  else
   adZ
 else
  adZ
noncomputable def ie (a:((List Int)×(List Bool)×(List Int)×Nat×Nat×Int×Int×(List (Int×Int×Int×Int×Int))×(List Int))):Option ((List (Int×Int×Int×Int×Int))×(List Int)):=
 (aH (a.2.2.2.2.2.2.2.1.take a.2.2.2.1) a.2.2.2.2.2.2.1).bind fun a0=>
 (aH (a.2.2.2.2.2.2.2.1.take a.2.2.2.1) a.2.2.2.2.2.1).bind fun a1=>
 (aH (a.2.2.2.2.2.2.2.1.take a.2.2.2.1) a.2.2.2.2.2.1).bind fun a2=>
 (aH ((cp a.2.2.2.2.2.2.2.1 a.2.2.2.2.2.1 a0).take a.2.2.2.1) a.2.2.2.2.2.2.1).bind fun a3=>
 (aH ((cp (cp a.2.2.2.2.2.2.2.1 a.2.2.2.2.2.1 a0) a.2.2.2.2.2.2.1 a1).take a.2.2.2.1) a.2.2.2.2.2.1).bind fun a4=>
 (aH ((cp (cp a.2.2.2.2.2.2.2.1 a.2.2.2.2.2.1 a0) a.2.2.2.2.2.2.1 a1).take a.2.2.2.1) a.2.2.2.2.2.2.1).bind fun a5=>
 (aH a.2.2.2.2.2.2.2.2 a4.2.2.2.1).bind fun n6=>
 (aH (cp a.2.2.2.2.2.2.2.2 a4.2.2.2.1 a.2.2.2.2.2.1) a5.2.2.2.1).bind fun n7=>
 bif ((cp (cp a.2.2.2.2.2.2.2.1 a.2.2.2.2.2.1 a0) a.2.2.2.2.2.2.1 a1).length)==(adQ a.2.2.2.2.2.2.2.1) then
  bif ((cp (cp a.2.2.2.2.2.2.2.2 a4.2.2.2.1 a.2.2.2.2.2.1) a5.2.2.2.1 a.2.2.2.2.2.2.1).length)==(adQ a.2.2.2.2.2.2.2.2) then
   adX (cp (cp a.2.2.2.2.2.2.2.1 a.2.2.2.2.2.1 a0) a.2.2.2.2.2.2.1 a1,cp (cp a.2.2.2.2.2.2.2.2 a4.2.2.2.1 a.2.2.2.2.2.1) a5.2.2.2.1 a.2.2.2.2.2.2.1)
  else
   adZ
 else
  adZ
noncomputable def gq (c0:((List Int)×(List Bool)×(List Int)×Nat×Nat×Int×(List (Int×Int×Int×Int×Int))×(List Int))) (s:(Int×(List (Int×Int×Int×Int×Int))×(List Int)×(List Int)×(List Bool)×(List Int)×Nat×Nat)):Option (Step (Int×(List (Int×Int×Int×Int×Int))×(List Int)×(List Int)×(List Bool)×(List Int)×Nat×Nat) (Int×(List (Int×Int×Int×Int×Int))×(List Int))):=
 bif aen (0<s.1) then
  (aH (s.2.1.take s.2.2.2.2.2.2.1) s.1).bind fun a0=>
  (aH (s.2.1.take s.2.2.2.2.2.2.1) (aa .i64 (NE (aa .i64 (s.1-1)) 2))).bind fun a1=>
  (dY a0 a1).bind fun b2=>
  bif b2 then
   (ie (s.2.2.2.1,s.2.2.2.2.1,s.2.2.2.2.2.1,s.2.2.2.2.2.2.1,s.2.2.2.2.2.2.2,s.1,aa .i64 (NE (aa .i64 (s.1-1)) 2),s.2.1,s.2.2.1)).bind fun a3=>
   adX (.next (aa .i64 (NE (aa .i64 (s.1-1)) 2),a3.1,a3.2,s.2.2.2))
  else
   bif (adQ s.2.1)==(adQ c0.2.2.2.2.2.2.1) then
    bif (adQ s.2.2.1)==(adQ c0.2.2.2.2.2.2.2) then
     adX (.done (s.1,s.2.1,s.2.2.1))
    else
     adZ
   else
    adZ
 else
  bif (adQ s.2.1)==(adQ c0.2.2.2.2.2.2.1) then
   bif (adQ s.2.2.1)==(adQ c0.2.2.2.2.2.2.2) then
    adX (.done (s.1,s.2.1,s.2.2.1))
   else
    adZ
  else
   adZ
noncomputable def oI (a:((List Int)×(List Bool)×(List Int)×Nat×Nat×Int×(List (Int×Int×Int×Int×Int))×(List Int))):Option (Int×(List (Int×Int×Int×Int×Int))×(List Int)):=
 aB (gq a) (a.2.2.2.2.2.1,a.2.2.2.2.2.2.1,a.2.2.2.2.2.2.2,a.1,a.2.1,a.2.2.1,a.2.2.2.1,a.2.2.2.2.1)
noncomputable def jy (c0:((List Int)×(List Bool)×(List Int)×Nat×Nat×Int×(List (Int×Int×Int×Int×Int))×(List Int))) (s:(Int×(List (Int×Int×Int×Int×Int))×(List Int)×(List Int)×(List Bool)×(List Int)×Nat×Nat)):Option (Step (Int×(List (Int×Int×Int×Int×Int))×(List Int)×(List Int)×(List Bool)×(List Int)×Nat×Nat) ((List (Int×Int×Int×Int×Int))×(List Int))):=
 match s with
 |(a,b,d,e,f,g,h,i)=>
  bif aen ((rc h)<=(aa .i64 ((aa .i64 (2*a))+1))) then
   bif (adQ b)==(adQ c0.2.2.2.2.2.2.1) then
    bif (adQ d)==(adQ c0.2.2.2.2.2.2.2) then
     adX (.done (b,d))
    else
     adZ
   else
    adZ
  else
   bif aen ((aa .i64 ((aa .i64 ((aa .i64 (2*a))+1))+1))<(rc h)) then
    (aH (b.take h) (aa .i64 ((aa .i64 ((aa .i64 (2*a))+1))+1))).bind fun a0=>
    (aH (b.take h) (aa .i64 ((aa .i64 (2*a))+1))).bind fun a1=>
    (dY a0 a1).bind fun b2=>
    bif b2 then
     (aH (b.take h) (aa .i64 ((aa .i64 ((aa .i64 (2*a))+1))+1))).bind fun a3=>
     (aH (b.take h) a).bind fun a4=>
     (dY a3 a4).bind fun b5=>
     bif !b5 then
      bif (adQ b)==(adQ c0.2.2.2.2.2.2.1) then
       bif (adQ d)==(adQ c0.2.2.2.2.2.2.2) then
        adX (.done (b,d))
       else
        adZ
      else
       adZ
     else
      (ie (e,f,g,h,i,a,aa .i64 ((aa .i64 ((aa .i64 (2*a))+1))+1),b,d)).bind fun a6=>
      adX (.next (aa .i64 ((aa .i64 ((aa .i64 (2*a))+1))+1),a6.1,a6.2,(e,f,g,h,i)))
    else
     (aH (b.take h) (aa .i64 ((aa .i64 (2*a))+1))).bind fun a7=>
     (aH (b.take h) a).bind fun a8=>
     (dY a7 a8).bind fun b9=>
     bif !b9 then
      bif (adQ b)==(adQ c0.2.2.2.2.2.2.1) then
       bif (adQ d)==(adQ c0.2.2.2.2.2.2.2) then
        adX (.done (b,d))
       else
        adZ
      else
       adZ
     else
      (ie (e,f,g,h,i,a,aa .i64 ((aa .i64 (2*a))+1),b,d)).bind fun Ah=>
      adX (.next (aa .i64 ((aa .i64 (2*a))+1),Ah.1,Ah.2,(e,f,g,h,i)))
   else
    (aH (b.take h) (aa .i64 ((aa .i64 (2*a))+1))).bind fun CJ=>
    (aH (b.take h) a).bind fun a12=>
    (dY CJ a12).bind fun b13=>
    bif !b13 then
     bif (adQ b)==(adQ c0.2.2.2.2.2.2.1) then
      bif (adQ d)==(adQ c0.2.2.2.2.2.2.2) then
       adX (.done (b,d))
      else
       adZ
     else
      adZ
    else
     (ie (e,f,g,h,i,a,aa .i64 ((aa .i64 (2*a))+1),b,d)).bind fun Se=>
     adX (.next (aa .i64 ((aa .i64 (2*a))+1),Se.1,Se.2,(e,f,g,h,i)))
noncomputable def mg (a:((List Int)×(List Bool)×(List Int)×Nat×Nat×Int×(List (Int×Int×Int×Int×Int))×(List Int))):Option ((List (Int×Int×Int×Int×Int))×(List Int)):=
 aB (jy a) (a.2.2.2.2.2.1,a.2.2.2.2.2.2.1,a.2.2.2.2.2.2.2,a.1,a.2.1,a.2.2.1,a.2.2.2.1,a.2.2.2.2.1)
noncomputable def kM (p0:aK) (p1:Int×Int):Option aK:=
 (pA p0).bind fun r0=>
 (aH r0.aj p1.1).bind fun n1=>
 bif n1 !=(aa .i64 ((rc (adQ r0.bv)) -1)) then
  (fL (n1,aa .i64 ((rc (adQ r0.bv)) -1),r0.af.az,r0.af.be,r0.af.bi,r0.bv,r0.aj)).bind fun a2=>
  (fG a2.2.2.2.1 0 (aa .i64 ((rc (adQ r0.bv)) -1))).bind fun l3=>
  (aH a2.2.2.2.2 p1.1).bind fun n4=>
  (qN (aS.mk a2.1 a2.2.1 a2.2.2.1) p1).bind fun r5=>
  bif n1 !=(aa .i64 ((rc (adQ r0.bv)) -1)) then
   (oI (r5.az,r5.be,r5.bi,(aa .i64 ((rc (adQ r0.bv)) -1)).toNat,adQ a2.2.2.2.1,n1,a2.2.2.2.1,cp a2.2.2.2.2 p1.1 (-1))).bind fun a6=>
   (mg (r5.az,r5.be,r5.bi,(aa .i64 ((rc (adQ r0.bv)) -1)).toNat,adQ a2.2.2.2.1,a6)).bind fun a7=>
   adX (aK.mk r5 (a7.1.take ((aa .i64 ((rc (adQ r0.bv)) -1)).toNat)) a7.2)
  else
   adX (aK.mk r5 (a2.2.2.2.1.take ((aa .i64 ((rc (adQ r0.bv)) -1)).toNat)) (cp a2.2.2.2.2 p1.1 (-1)))
 else
  (fG r0.bv 0 (aa .i64 ((rc (adQ r0.bv)) -1))).bind fun l8=>
  (aH r0.aj p1.1).bind fun n9=>
  (qN r0.af p1).bind fun r10=>
  bif n1 !=(aa .i64 ((rc (adQ r0.bv)) -1)) then
   (oI (r10.az,r10.be,r10.bi,(aa .i64 ((rc (adQ r0.bv)) -1)).toNat,adQ r0.bv,n1,r0.bv,cp r0.aj p1.1 (-1))).bind fun CJ=>
   (mg (r10.az,r10.be,r10.bi,(aa .i64 ((rc (adQ r0.bv)) -1)).toNat,adQ r0.bv,CJ)).bind fun a12=>
   adX (aK.mk r10 (a12.1.take ((aa .i64 ((rc (adQ r0.bv)) -1)).toNat)) a12.2)
  else
   adX (aK.mk r10 (r0.bv.take ((aa .i64 ((rc (adQ r0.bv)) -1)).toNat)) (cp r0.aj p1.1 (-1)))
noncomputable def pC (p0:aI) (p1:Int):Option aI:=
 (pB p0).bind fun r0=>
 (uM p0.ai p1).bind fun r1=>
 (qM p0 p1).bind fun n2=>
 bif aen (0<=n2) then
  (aH p0.io n2).bind fun a3=>
  (kM p0.ae a3.2).bind fun r4=>
  (fG p0.io 0 n2).bind fun l5=>
  (bN l5).bind fun l6=>
  (fG p0.io (aa .i64 (n2+1)) (rc (adQ p0.io))).bind fun l7=>
  bif l7.isEmpty then
   adX (aI.mk r0.ci r0.ii r1 r4 l6)
  else
   (bK l6 l7).bind fun l8=>
   adX (aI.mk r0.ci r0.ii r1 r4 l8)
 else
  adX (aI.mk r0.ci r0.ii r1 r0.ae r0.io)
noncomputable def gr (c0:(Int×(List Int)×(List Bool)×(List Int)×(List (Int×Int×Int×Int×Int))×(List Int))) (s:(Int×(List Int)×(List Bool)×(List Int)×(List (Int×Int×Int×Int×Int))×(List Int))):Option (Step (Int×(List Int)×(List Bool)×(List Int)×(List (Int×Int×Int×Int×Int))×(List Int)) (Int×(List Int)×(List Bool)×(List Int)×(List (Int×Int×Int×Int×Int))×(List Int))):=
 bif aen (0<s.1) then
  (aH s.2.2.2.2.1 s.1).bind fun a0=>
  (aH s.2.2.2.2.1 (aa .i64 (NE (aa .i64 (s.1-1)) 2))).bind fun a1=>
  (dY a0 a1).bind fun b2=>
  bif b2 then
   (fL (s.1,aa .i64 (NE (aa .i64 (s.1-1)) 2),s.2)).bind fun a3=>
   adX (.next (aa .i64 (NE (aa .i64 (s.1-1)) 2),a3))
  else
   bif (adQ s.2.1)==(adQ c0.2.1) then
    bif (adQ s.2.2.1)==(adQ c0.2.2.1) then
     bif (adQ s.2.2.2.1)==(adQ c0.2.2.2.1) then
      bif (adQ s.2.2.2.2.1)==(adQ c0.2.2.2.2.1) then
       bif (adQ s.2.2.2.2.2)==(adQ c0.2.2.2.2.2) then
        adX (.done s)
       else
        adZ
      else
       adZ
     else
      adZ
    else
     adZ
   else
    adZ
 else
  bif (adQ s.2.1)==(adQ c0.2.1) then
   bif (adQ s.2.2.1)==(adQ c0.2.2.1) then
    bif (adQ s.2.2.2.1)==(adQ c0.2.2.2.1) then
     bif (adQ s.2.2.2.2.1)==(adQ c0.2.2.2.2.1) then
      bif (adQ s.2.2.2.2.2)==(adQ c0.2.2.2.2.2) then
       adX (.done s)
      else
       adZ
     else
      adZ
    else
     adZ
   else
    adZ
  else
   adZ
noncomputable def sX (a:(Int×(List Int)×(List Bool)×(List Int)×(List (Int×Int×Int×Int×Int))×(List Int))):Option (Int×(List Int)×(List Bool)×(List Int)×(List (Int×Int×Int×Int×Int))×(List Int)):=
 aB (gr a) a
noncomputable def jz (c0:(Int×(List Int)×(List Bool)×(List Int)×(List (Int×Int×Int×Int×Int))×(List Int))) (s:(Int×(List Int)×(List Bool)×(List Int)×(List (Int×Int×Int×Int×Int))×(List Int))):Option (Step (Int×(List Int)×(List Bool)×(List Int)×(List (Int×Int×Int×Int×Int))×(List Int)) ((List Int)×(List Bool)×(List Int)×(List (Int×Int×Int×Int×Int))×(List Int))):=
 bif aen ((rc (adQ s.2.2.2.2.1))<=(aa .i64 ((aa .i64 (2*s.1))+1))) then
  bif (adQ s.2.1)==(adQ c0.2.1) then
   bif (adQ s.2.2.1)==(adQ c0.2.2.1) then
    bif (adQ s.2.2.2.1)==(adQ c0.2.2.2.1) then
     bif (adQ s.2.2.2.2.1)==(adQ c0.2.2.2.2.1) then
      bif (adQ s.2.2.2.2.2)==(adQ c0.2.2.2.2.2) then
       adX (.done s.2)
      else
       adZ
     else
      adZ
    else
     adZ
   else
    adZ
  else
   adZ
 else
  bif aen ((aa .i64 ((aa .i64 ((aa .i64 (2*s.1))+1))+1))<(rc (adQ s.2.2.2.2.1))) then
   (aH s.2.2.2.2.1 (aa .i64 ((aa .i64 ((aa .i64 (2*s.1))+1))+1))).bind fun a0=>
   (aH s.2.2.2.2.1 (aa .i64 ((aa .i64 (2*s.1))+1))).bind fun a1=>
   (dY a0 a1).bind fun b2=>
   bif b2 then
    (aH s.2.2.2.2.1 (aa .i64 ((aa .i64 ((aa .i64 (2*s.1))+1))+1))).bind fun a3=>
    (aH s.2.2.2.2.1 s.1).bind fun a4=>
    (dY a3 a4).bind fun b5=>
    bif !b5 then
     bif (adQ s.2.1)==(adQ c0.2.1) then
      bif (adQ s.2.2.1)==(adQ c0.2.2.1) then
       bif (adQ s.2.2.2.1)==(adQ c0.2.2.2.1) then
        bif (adQ s.2.2.2.2.1)==(adQ c0.2.2.2.2.1) then
         bif (adQ s.2.2.2.2.2)==(adQ c0.2.2.2.2.2) then
          adX (.done s.2)
         else
          adZ
        else
         adZ
       else
        adZ
      else
       adZ
     else
      adZ
    else
     (fL (s.1,aa .i64 ((aa .i64 ((aa .i64 (2*s.1))+1))+1),s.2)).bind fun a6=>
     adX (.next (aa .i64 ((aa .i64 ((aa .i64 (2*s.1))+1))+1),a6))
   else
    (aH s.2.2.2.2.1 (aa .i64 ((aa .i64 (2*s.1))+1))).bind fun a7=>
    (aH s.2.2.2.2.1 s.1).bind fun a8=>
    (dY a7 a8).bind fun b9=>
    bif !b9 then
     bif (adQ s.2.1)==(adQ c0.2.1) then
      bif (adQ s.2.2.1)==(adQ c0.2.2.1) then
       bif (adQ s.2.2.2.1)==(adQ c0.2.2.2.1) then
        bif (adQ s.2.2.2.2.1)==(adQ c0.2.2.2.2.1) then
         bif (adQ s.2.2.2.2.2)==(adQ c0.2.2.2.2.2) then
          adX (.done s.2)
         else
          adZ
        else
         adZ
       else
        adZ
      else
       adZ
     else
      adZ
    else
     (fL (s.1,aa .i64 ((aa .i64 (2*s.1))+1),s.2)).bind fun Ah=>
     adX (.next (aa .i64 ((aa .i64 (2*s.1))+1),Ah))
  else
   (aH s.2.2.2.2.1 (aa .i64 ((aa .i64 (2*s.1))+1))).bind fun CJ=>
   (aH s.2.2.2.2.1 s.1).bind fun a12=>
   (dY CJ a12).bind fun b13=>
   bif !b13 then
    bif (adQ s.2.1)==(adQ c0.2.1) then
     bif (adQ s.2.2.1)==(adQ c0.2.2.1) then
      bif (adQ s.2.2.2.1)==(adQ c0.2.2.2.1) then
       bif (adQ s.2.2.2.2.1)==(adQ c0.2.2.2.2.1) then
        bif (adQ s.2.2.2.2.2)==(adQ c0.2.2.2.2.2) then
         adX (.done s.2)
        else
         adZ
       else
        adZ
      else
       adZ
     else
      adZ
    else
     adZ
   else
    (fL (s.1,aa .i64 ((aa .i64 (2*s.1))+1),s.2)).bind fun Se=>
    adX (.next (aa .i64 ((aa .i64 (2*s.1))+1),Se))
noncomputable def pD (a:(Int×(List Int)×(List Bool)×(List Int)×(List (Int×Int×Int×Int×Int))×(List Int))):Option ((List Int)×(List Bool)×(List Int)×(List (Int×Int×Int×Int×Int))×(List Int)):=
 aB (jz a) a
noncomputable def uN (p0:aK) (p1:Int×Int) (p2:Int×Int):Option aK:=
 (pA p0).bind fun r0=>
 (aH r0.aj p1.1).bind fun n1=>
 (aH r0.bv n1).bind fun a2=>
 (sX (n1,r0.af.az,r0.af.be,r0.af.bi,cp r0.bv n1 (p2.1,p2.2,a2.2.2),r0.aj)).bind fun a3=>
 (pD a3).bind fun a4=>
 adX (aK.mk (aS.mk a4.1 a4.2.1 a4.2.2.1) a4.2.2.2.1 a4.2.2.2.2)
noncomputable def gH (p0:aS):Option Bool:=
 bif aen (0<(rc (adQ p0.bi))) then
  (aH p0.bi (aa .i64 ((rc (adQ p0.bi)) -1))).bind fun n0=>
  (aH p0.az n0).bind fun n1=>
  adX (aen (n1<1000000))
 else
  adX ael
noncomputable def yR (p0:aS):Option (aS×(Int×Int)):=
 (sW p0).bind fun r0=>
 (aH r0.bi (aa .i64 ((rc (adQ r0.bi)) -1))).bind fun n1=>
 (fG r0.bi 0 (aa .i64 ((rc (adQ r0.bi)) -1))).bind fun l2=>
 (aH r0.az n1).bind fun n3=>
 (aH r0.az n1).bind fun n4=>
 (aH r0.be n1).bind fun b5=>
 (aH (cp r0.az n1 (aa .i64 (n3+1))) n1).bind fun n6=>
 adX (aS.mk (cp r0.az n1 (aa .i64 (n3+1))) (cp r0.be n1 aec) (r0.bi.take ((aa .i64 ((rc (adQ r0.bi)) -1)).toNat)),n1,n6)
noncomputable def pE (a:((List Int)×(List Bool)×(List Int)×Int×Int×(List (Int×Int×Int×Int×Int))×(List Int))):Option ((List (Int×Int×Int×Int×Int))×(List Int)):=
 (aH a.2.2.2.2.2.1 a.2.2.2.2.1).bind fun a0=>
 (aH a.2.2.2.2.2.1 a.2.2.2.1).bind fun a1=>
 (aH a.2.2.2.2.2.1 a.2.2.2.1).bind fun a2=>
 (aH (cp a.2.2.2.2.2.1 a.2.2.2.1 a0) a.2.2.2.2.1).bind fun a3=>
 (aH (cp (cp a.2.2.2.2.2.1 a.2.2.2.1 a0) a.2.2.2.2.1 a1) a.2.2.2.1).bind fun a4=>
 (aH (cp (cp a.2.2.2.2.2.1 a.2.2.2.1 a0) a.2.2.2.2.1 a1) a.2.2.2.2.1).bind fun a5=>
 (aH a.2.2.2.2.2.2 a4.2.2.2.1).bind fun n6=>
 (aH (cp a.2.2.2.2.2.2 a4.2.2.2.1 a.2.2.2.1) a5.2.2.2.1).bind fun n7=>
 bif ((cp (cp a.2.2.2.2.2.1 a.2.2.2.1 a0) a.2.2.2.2.1 a1).length)==(adQ a.2.2.2.2.2.1) then
  bif ((cp (cp a.2.2.2.2.2.2 a4.2.2.2.1 a.2.2.2.1) a5.2.2.2.1 a.2.2.2.2.1).length)==(adQ a.2.2.2.2.2.2) then
   adX (cp (cp a.2.2.2.2.2.1 a.2.2.2.1 a0) a.2.2.2.2.1 a1,cp (cp a.2.2.2.2.2.2 a4.2.2.2.1 a.2.2.2.1) a5.2.2.2.1 a.2.2.2.2.1)
  else
   adZ
 else
  adZ
noncomputable def gu (c0:((List Int)×(List Bool)×(List Int)×Int×(List (Int×Int×Int×Int×Int))×(List Int))) (s:(Int×(List (Int×Int×Int×Int×Int))×(List Int)×(List Int)×(List Bool)×(List Int))):Option (Step (Int×(List (Int×Int×Int×Int×Int))×(List Int)×(List Int)×(List Bool)×(List Int)) (Int×(List (Int×Int×Int×Int×Int))×(List Int))):=
 bif aen (0<s.1) then
  (aH s.2.1 s.1).bind fun a0=>
  (aH s.2.1 (aa .i64 (NE (aa .i64 (s.1-1)) 2))).bind fun a1=>
  (dY a0 a1).bind fun b2=>
  bif b2 then
   (pE (s.2.2.2.1,s.2.2.2.2.1,s.2.2.2.2.2,s.1,aa .i64 (NE (aa .i64 (s.1-1)) 2),s.2.1,s.2.2.1)).bind fun a3=>
   adX (.next (aa .i64 (NE (aa .i64 (s.1-1)) 2),a3.1,a3.2,s.2.2.2))
  else
   bif (adQ s.2.1)==(adQ c0.2.2.2.2.1) then
    bif (adQ s.2.2.1)==(adQ c0.2.2.2.2.2) then
     adX (.done (s.1,s.2.1,s.2.2.1))
    else
     adZ
   else
    adZ
 else
  bif (adQ s.2.1)==(adQ c0.2.2.2.2.1) then
   bif (adQ s.2.2.1)==(adQ c0.2.2.2.2.2) then
    adX (.done (s.1,s.2.1,s.2.2.1))
   else
    adZ
  else
   adZ
noncomputable def sY (a:((List Int)×(List Bool)×(List Int)×Int×(List (Int×Int×Int×Int×Int))×(List Int))):Option (Int×(List (Int×Int×Int×Int×Int))×(List Int)):=
 aB (gu a) (a.2.2.2.1,a.2.2.2.2.1,a.2.2.2.2.2,a.1,a.2.1,a.2.2.1)
noncomputable def eL (p0:aK) (p1:Int×Int) (p2:Int):Option (aK×(Int×Int)):=
 (pA p0).bind fun r0=>
 (yR r0.af).bind fun a1=>
 (bK r0.bv [(p1.1,p1.2,p2,a1.2)]).bind fun l2=>
 (aH r0.aj a1.2.1).bind fun n3=>
 (sY (a1.1.az,a1.1.be,a1.1.bi,aa .i64 ((rc (adQ l2)) -1),l2,cp r0.aj a1.2.1 (aa .i64 ((rc (adQ l2)) -1)))).bind fun a4=>
 adX (aK.mk a1.1 a4.2.1 a4.2.2,a1.2)
noncomputable def cB (s:(Int×Int×Int×(List (Int×Int×Int))×Int×(List (Int×Int×Int))×(List Int)×(List Bool)×(List Int)×(List (Int×Int×Int×Int×Int))×(List Int)×(List (Int×Int×Int))×(List (Int×Int×Int))×Int×Int×Int×Int×Int×(List (Int×Int×Int))×Int×(List (Int×Int×Int))×(List Int)×(List Bool)×(List Int)×(List (Int×Int×Int×Int×Int))×(List Int)×(List (Int×Int×Int)))):Option (Step (Int×Int×Int×(List (Int×Int×Int))×Int×(List (Int×Int×Int))×(List Int)×(List Bool)×(List Int)×(List (Int×Int×Int×Int×Int))×(List Int)×(List (Int×Int×Int))×(List (Int×Int×Int))×Int×Int×Int×Int×Int×(List (Int×Int×Int))×Int×(List (Int×Int×Int))×(List Int)×(List Bool)×(List Int)×(List (Int×Int×Int×Int×Int))×(List Int)×(List (Int×Int×Int))) (aI×Int)):=
 match s with
 |(a,b,d,e,f,g,h,i,j,k,l,m,n,o,q,r,t,u,v,w,x,y,z,A,B,C,D)=>
  bif aen (a<(rc (adQ g))) then
   (aH g a).bind fun a0=>
   (qM (aI.mk (b,d) (Field.mk e) (bm.mk f g) (aK.mk (aS.mk h i j) k l) m) a0.1).bind fun n1=>
   (pz (Field.mk n) a0.2 (b,d)).bind fun a2=>
   bif a2.2 then
    bif aen (0<=n1) then
     (aH m n1).bind fun a3=>
     (uN (aK.mk (aS.mk y z A) B C) a3.2 a2.1).bind fun r4=>
     (aH m n1).bind fun a5=>
     (bK D [a5]).bind fun l6=>
     bif !a2.2 then
      bif aen (0<=n1) then
       (aH m n1).bind fun a7=>
       (kM r4 a7.2).bind fun r8=>
       bif !a2.2 then
        adX (.next (aa .i64 (a+1),b,d,e,f,g,h,i,j,k,l,m,n,o,q,r,t,u,v,w,x,r8.af.az,r8.af.be,r8.af.bi,r8.bv,r8.aj,l6))
       else
        bif aen (0<=n1) then
         adX (.next (aa .i64 (a+1),b,d,e,f,g,h,i,j,k,l,m,n,o,q,r,t,u,v,w,x,r8.af.az,r8.af.be,r8.af.bi,r8.bv,r8.aj,l6))
        else
         (gH r8.af).bind fun b9=>
         bif !b9 then
          adX (.done (aI.mk (0,0) (Field.mk []) (bm.mk 0 []) (aK.mk (aS.mk [] [] []) [] []) [],18))
         else
          (eL r8 a2.1 a0.1).bind fun Ah=>
          (bK l6 [(a0.1,Ah.2)]).bind fun l11=>
          adX (.next (aa .i64 (a+1),b,d,e,f,g,h,i,j,k,l,m,n,o,q,r,t,u,v,w,x,Ah.1.af.az,Ah.1.af.be,Ah.1.af.bi,Ah.1.bv,Ah.1.aj,l11))
      else
       bif !a2.2 then
        adX (.next (aa .i64 (a+1),b,d,e,f,g,h,i,j,k,l,m,n,o,q,r,t,u,v,w,x,r4.af.az,r4.af.be,r4.af.bi,r4.bv,r4.aj,l6))
       else
        bif aen (0<=n1) then
         adX (.next (aa .i64 (a+1),b,d,e,f,g,h,i,j,k,l,m,n,o,q,r,t,u,v,w,x,r4.af.az,r4.af.be,r4.af.bi,r4.bv,r4.aj,l6))
        else
         (gH r4.af).bind fun b12=>
         bif !b12 then
          adX (.done (aI.mk (0,0) (Field.mk []) (bm.mk 0 []) (aK.mk (aS.mk [] [] []) [] []) [],18))
         else
          (eL r4 a2.1 a0.1).bind fun PZ=>
          (bK l6 [(a0.1,PZ.2)]).bind fun l14=>
          adX (.next (aa .i64 (a+1),b,d,e,f,g,h,i,j,k,l,m,n,o,q,r,t,u,v,w,x,PZ.1.af.az,PZ.1.af.be,PZ.1.af.bi,PZ.1.bv,PZ.1.aj,l14))
     else
      bif !a2.2 then
       adX (.next (aa .i64 (a+1),b,d,e,f,g,h,i,j,k,l,m,n,o,q,r,t,u,v,w,x,r4.af.az,r4.af.be,r4.af.bi,r4.bv,r4.aj,l6))
      else
       bif aen (0<=n1) then
        adX (.next (aa .i64 (a+1),b,d,e,f,g,h,i,j,k,l,m,n,o,q,r,t,u,v,w,x,r4.af.az,r4.af.be,r4.af.bi,r4.bv,r4.aj,l6))
       else
        (gH r4.af).bind fun b15=>
        bif !b15 then
         adX (.done (aI.mk (0,0) (Field.mk []) (bm.mk 0 []) (aK.mk (aS.mk [] [] []) [] []) [],18))
        else
         (eL r4 a2.1 a0.1).bind fun Ku=>
         (bK l6 [(a0.1,Ku.2)]).bind fun l17=>
         adX (.next (aa .i64 (a+1),b,d,e,f,g,h,i,j,k,l,m,n,o,q,r,t,u,v,w,x,Ku.1.af.az,Ku.1.af.be,Ku.1.af.bi,Ku.1.bv,Ku.1.aj,l17))
    else
     bif !a2.2 then
      bif aen (0<=n1) then
       (aH m n1).bind fun a18=>
       (kM (aK.mk (aS.mk y z A) B C) a18.2).bind fun Sf=>
       bif !a2.2 then
        adX (.next (aa .i64 (a+1),b,d,e,f,g,h,i,j,k,l,m,n,o,q,r,t,u,v,w,x,Sf.af.az,Sf.af.be,Sf.af.bi,Sf.bv,Sf.aj,D))
       else
        bif aen (0<=n1) then
         adX (.next (aa .i64 (a+1),b,d,e,f,g,h,i,j,k,l,m,n,o,q,r,t,u,v,w,x,Sf.af.az,Sf.af.be,Sf.af.bi,Sf.bv,Sf.aj,D))
        else
         (gH Sf.af).bind fun b20=>
         bif !b20 then
          adX (.done (aI.mk (0,0) (Field.mk []) (bm.mk 0 []) (aK.mk (aS.mk [] [] []) [] []) [],18))
         else
          (eL Sf a2.1 a0.1).bind fun a21=>
          (bK D [(a0.1,a21.2)]).bind fun l22=>
          adX (.next (aa .i64 (a+1),b,d,e,f,g,h,i,j,k,l,m,n,o,q,r,t,u,v,w,x,a21.1.af.az,a21.1.af.be,a21.1.af.bi,a21.1.bv,a21.1.aj,l22))
      else
       bif !a2.2 then
        adX (.next (aa .i64 (a+1),(b,d,e,f,g,h,i,j,k,l,m,n,o,q,r,t,u,v,w,x,y,z,A,B,C,D)))
       else
        bif aen (0<=n1) then
         adX (.next (aa .i64 (a+1),(b,d,e,f,g,h,i,j,k,l,m,n,o,q,r,t,u,v,w,x,y,z,A,B,C,D)))
        else
         (gH (aS.mk y z A)).bind fun b23=>
         bif !b23 then
          adX (.done (aI.mk (0,0) (Field.mk []) (bm.mk 0 []) (aK.mk (aS.mk [] [] []) [] []) [],18))
         else
          (eL (aK.mk (aS.mk y z A) B C) a2.1 a0.1).bind fun a24=>
          (bK D [(a0.1,a24.2)]).bind fun l25=>
          adX (.next (aa .i64 (a+1),b,d,e,f,g,h,i,j,k,l,m,n,o,q,r,t,u,v,w,x,a24.1.af.az,a24.1.af.be,a24.1.af.bi,a24.1.bv,a24.1.aj,l25))
     else
      bif !a2.2 then
       adX (.next (aa .i64 (a+1),(b,d,e,f,g,h,i,j,k,l,m,n,o,q,r,t,u,v,w,x,y,z,A,B,C,D)))
      else
       bif aen (0<=n1) then
        adX (.next (aa .i64 (a+1),(b,d,e,f,g,h,i,j,k,l,m,n,o,q,r,t,u,v,w,x,y,z,A,B,C,D)))
       else
        (gH (aS.mk y z A)).bind fun b26=>
        bif !b26 then
         adX (.done (aI.mk (0,0) (Field.mk []) (bm.mk 0 []) (aK.mk (aS.mk [] [] []) [] []) [],18))
        else
         (eL (aK.mk (aS.mk y z A) B C) a2.1 a0.1).bind fun a27=>
         (bK D [(a0.1,a27.2)]).bind fun l28=>
         adX (.next (aa .i64 (a+1),b,d,e,f,g,h,i,j,k,l,m,n,o,q,r,t,u,v,w,x,a27.1.af.az,a27.1.af.be,a27.1.af.bi,a27.1.bv,a27.1.aj,l28))
   else
    bif !a2.2 then
     bif aen (0<=n1) then
      (aH m n1).bind fun a29=>
      (kM (aK.mk (aS.mk y z A) B C) a29.2).bind fun Sg=>
      bif !a2.2 then
       adX (.next (aa .i64 (a+1),b,d,e,f,g,h,i,j,k,l,m,n,o,q,r,t,u,v,w,x,Sg.af.az,Sg.af.be,Sg.af.bi,Sg.bv,Sg.aj,D))
      else
       bif aen (0<=n1) then
        adX (.next (aa .i64 (a+1),b,d,e,f,g,h,i,j,k,l,m,n,o,q,r,t,u,v,w,x,Sg.af.az,Sg.af.be,Sg.af.bi,Sg.bv,Sg.aj,D))
       else
        (gH Sg.af).bind fun b31=>
        bif !b31 then
         adX (.done (aI.mk (0,0) (Field.mk []) (bm.mk 0 []) (aK.mk (aS.mk [] [] []) [] []) [],18))
        else
         (eL Sg a2.1 a0.1).bind fun a32=>
         (bK D [(a0.1,a32.2)]).bind fun l33=>
         adX (.next (aa .i64 (a+1),b,d,e,f,g,h,i,j,k,l,m,n,o,q,r,t,u,v,w,x,a32.1.af.az,a32.1.af.be,a32.1.af.bi,a32.1.bv,a32.1.aj,l33))
     else
      bif !a2.2 then
       adX (.next (aa .i64 (a+1),(b,d,e,f,g,h,i,j,k,l,m,n,o,q,r,t,u,v,w,x,y,z,A,B,C,D)))
      else
       bif aen (0<=n1) then
        adX (.next (aa .i64 (a+1),(b,d,e,f,g,h,i,j,k,l,m,n,o,q,r,t,u,v,w,x,y,z,A,B,C,D)))
       else
        (gH (aS.mk y z A)).bind fun b34=>
        bif !b34 then
         adX (.done (aI.mk (0,0) (Field.mk []) (bm.mk 0 []) (aK.mk (aS.mk [] [] []) [] []) [],18))
        else
         (eL (aK.mk (aS.mk y z A) B C) a2.1 a0.1).bind fun a35=>
         (bK D [(a0.1,a35.2)]).bind fun l36=>
         adX (.next (aa .i64 (a+1),b,d,e,f,g,h,i,j,k,l,m,n,o,q,r,t,u,v,w,x,a35.1.af.az,a35.1.af.be,a35.1.af.bi,a35.1.bv,a35.1.aj,l36))
    else
     bif !a2.2 then
      adX (.next (aa .i64 (a+1),(b,d,e,f,g,h,i,j,k,l,m,n,o,q,r,t,u,v,w,x,y,z,A,B,C,D)))
     else
      bif aen (0<=n1) then
       adX (.next (aa .i64 (a+1),(b,d,e,f,g,h,i,j,k,l,m,n,o,q,r,t,u,v,w,x,y,z,A,B,C,D)))
      else
       (gH (aS.mk y z A)).bind fun b37=>
       bif !b37 then
        adX (.done (aI.mk (0,0) (Field.mk []) (bm.mk 0 []) (aK.mk (aS.mk [] [] []) [] []) [],18))
       else
        (eL (aK.mk (aS.mk y z A) B C) a2.1 a0.1).bind fun a38=>
        (bK D [(a0.1,a38.2)]).bind fun l39=>
        adX (.next (aa .i64 (a+1),b,d,e,f,g,h,i,j,k,l,m,n,o,q,r,t,u,v,w,x,a38.1.af.az,a38.1.af.be,a38.1.af.bi,a38.1.bv,a38.1.aj,l39))
  else
   adX (.done (aI.mk (t,u) (Field.mk v) (bm.mk w x) (aK.mk (aS.mk y z A) B C) D,0))
noncomputable def mI (p0:aI) (p1:Field):Option (aI×Int):=
 (pB p0).bind fun r0=>
 (w5 p1).bind fun r1=>
 aB cB (0,p0.ci.1,p0.ci.2,p0.ii.am,p0.ai.aL,p0.ai.ce,p0.ae.af.az,p0.ae.af.be,p0.ae.af.bi,p0.ae.bv,p0.ae.aj,p0.io,p1.am,0,0,0,r0.ci.1,r0.ci.2,r1.am,r0.ai.aL,r0.ai.ce,r0.ae.af.az,r0.ae.af.be,r0.ae.af.bi,r0.ae.bv,r0.ae.aj,[])
noncomputable def Ds (p0:bm) (p1:Int×Int):Option (bm×Int×Int):=
 (qG p0).bind fun n0=>
 bif n0 !=0 then
  adX (bm.mk 0 [],0,8)
 else
  (sR p1).bind fun b1=>
  bif !b1 then
   adX (bm.mk 0 [],0,8)
  else
   (sq p0 p1).bind fun b2=>
   bif b2 then
    adX (bm.mk 0 [],0,14)
   else
    bif (rc (adQ p0.ce))==200 then
     adX (bm.mk 0 [],0,18)
    else
     bif p0.aL==1000000 then
      adX (bm.mk 0 [],0,18)
     else
      (w8 p0).bind fun r3=>
      (bK r3.ce [(p0.aL,p1)]).bind fun l4=>
      adX (bm.mk (aa .i64 (r3.aL+1)) l4,p0.aL,0)
noncomputable def lN (p0:aI) (p1:Int×Int):Option (aI×Int×Int):=
 (Ds p0.ai p1).bind fun a0=>
 bif a0.2.2 !=0 then
  adX (aI.mk (0,0) (Field.mk []) (bm.mk 0 []) (aK.mk (aS.mk [] [] []) [] []) [],0,a0.2.2)
 else
  (pB p0).bind fun r1=>
  (pz p0.ii p1 p0.ci).bind fun a2=>
  bif !a2.2 then
   adX (aI.mk r1.ci r1.ii a0.1 r1.ae r1.io,a0.2.1,0)
  else
   (gH p0.ae.af).bind fun b3=>
   bif !b3 then
    adX (aI.mk (0,0) (Field.mk []) (bm.mk 0 []) (aK.mk (aS.mk [] [] []) [] []) [],0,18)
   else
    (eL p0.ae a2.1 a0.2.1).bind fun a4=>
    (bK r1.io [(a0.2.1,a4.2)]).bind fun l5=>
    adX (aI.mk r1.ci r1.ii a0.1 a4.1 l5,a0.2.1,0)
noncomputable def dH (s:((List (Int×Int))×Int×Int×Int×Int×Int×Int×(List (Int×Int×Int))×Int×(List (Int×Int×Int))×(List Int)×(List Bool)×(List Int)×(List (Int×Int×Int×Int×Int))×(List Int)×(List (Int×Int×Int)))):Option (Step ((List (Int×Int))×Int×Int×Int×Int×Int×Int×(List (Int×Int×Int))×Int×(List (Int×Int×Int))×(List Int)×(List Bool)×(List Int)×(List (Int×Int×Int×Int×Int))×(List Int)×(List (Int×Int×Int))) (Step ((List (Int×Int))×Int×Int×Int×(List (Int×Int×Int))×Int×(List (Int×Int×Int))×(List Int)×(List Bool)×(List Int)×(List (Int×Int×Int×Int×Int))×(List Int)×(List (Int×Int×Int))×(List (Int×Int×Int))×Int×Int×Int×Int×Int×(List (Int×Int×Int))×Int×(List (Int×Int×Int))×(List Int)×(List Bool)×(List Int)×(List (Int×Int×Int×Int×Int))×(List Int)×(List (Int×Int×Int))) (aI×Int))):=
 match s with
 |(a,b,d,e,f,g,h,i,j,k,l,m,n,o,q,r)=>
  bif aen (b<(rc (adQ a))) then
   (aH a b).bind fun a0=>
   (sq (bm.mk j k) a0).bind fun b1=>
   bif b1 then
    adX (.next (a,aa .i64 (b+1),(d,e,f,g,h,i,j,k,l,m,n,o,q,r)))
   else
    (aH a b).bind fun a2=>
    (lN (aI.mk (g,h) (Field.mk i) (bm.mk j k) (aK.mk (aS.mk l m n) o q) r) a2).bind fun a3=>
    bif a3.2.2 !=0 then
     adX (.done (.done (aI.mk (0,0) (Field.mk []) (bm.mk 0 []) (aK.mk (aS.mk [] [] []) [] []) [],a3.2.2)))
    else
     adX (.next (a,aa .i64 (b+1),d,e,f,a3.1.ci.1,a3.1.ci.2,a3.1.ii.am,a3.1.ai.aL,a3.1.ai.ce,a3.1.ae.af.az,a3.1.ae.af.be,a3.1.ae.af.bi,a3.1.ae.bv,a3.1.ae.aj,a3.1.io))
  else
   adX (.done (.done (aI.mk (g,h) (Field.mk i) (bm.mk j k) (aK.mk (aS.mk l m n) o q) r,0)))
noncomputable def dw (s:((List (Int×Int))×Int×Int×Int×(List (Int×Int×Int))×Int×(List (Int×Int×Int))×(List Int)×(List Bool)×(List Int)×(List (Int×Int×Int×Int×Int))×(List Int)×(List (Int×Int×Int))×(List (Int×Int×Int))×Int×Int×Int×Int×Int×(List (Int×Int×Int))×Int×(List (Int×Int×Int))×(List Int)×(List Bool)×(List Int)×(List (Int×Int×Int×Int×Int))×(List Int)×(List (Int×Int×Int)))):Option (Step ((List (Int×Int))×Int×Int×Int×(List (Int×Int×Int))×Int×(List (Int×Int×Int))×(List Int)×(List Bool)×(List Int)×(List (Int×Int×Int×Int×Int))×(List Int)×(List (Int×Int×Int))×(List (Int×Int×Int))×Int×Int×Int×Int×Int×(List (Int×Int×Int))×Int×(List (Int×Int×Int))×(List Int)×(List Bool)×(List Int)×(List (Int×Int×Int×Int×Int))×(List Int)×(List (Int×Int×Int))) (aI×Int)):=
 match s with
 |(a,b,d,e,f,g,h,i,j,k,l,m,n,o,q,r,t,u,v,w,x,y,z,A,B,C,D,E)=>
  bif aen (b<(rc (adQ h))) then
   (aH h b).bind fun a0=>
   (vF a a0.2).bind fun b1=>
   bif !b1 then
    (aH h b).bind fun a2=>
    (pC (aI.mk (u,v) (Field.mk w) (bm.mk x y) (aK.mk (aS.mk z A B) C D) E) a2.1).bind fun r3=>
    adX (.next (a,aa .i64 (b+1),d,e,f,g,h,i,j,k,l,m,n,o,q,r,t,r3.ci.1,r3.ci.2,r3.ii.am,r3.ai.aL,r3.ai.ce,r3.ae.af.az,r3.ae.af.be,r3.ae.af.bi,r3.ae.bv,r3.ae.aj,r3.io))
   else
    adX (.next (a,aa .i64 (b+1),(d,e,f,g,h,i,j,k,l,m,n,o,q,r,t,u,v,w,x,y,z,A,B,C,D,E)))
  else
   (sV (Field.mk w) (Field.mk o)).bind fun b4=>
   bif !b4 then
    (mI (aI.mk (u,v) (Field.mk w) (bm.mk x y) (aK.mk (aS.mk z A B) C D) E) (Field.mk o)).bind fun a5=>
    bif a5.2 !=0 then
     adX (.done (aI.mk (0,0) (Field.mk []) (bm.mk 0 []) (aK.mk (aS.mk [] [] []) [] []) [],a5.2))
    else
     aB dH (a,0,q,r,t,a5.1.ci.1,a5.1.ci.2,a5.1.ii.am,a5.1.ai.aL,a5.1.ai.ce,a5.1.ae.af.az,a5.1.ae.af.be,a5.1.ae.af.bi,a5.1.ae.bv,a5.1.ae.aj,a5.1.io)
   else
    aB dH (a,0,(q,r,t,u,v,w,x,y,z,A,B,C,D,E))
noncomputable def mJ (p0:aI) (p1:Field) (p2:List (Int×Int)):Option (aI×Int):=
 (pB p0).bind fun r0=>
 aB dw (p2,0,p0.ci.1,p0.ci.2,p0.ii.am,p0.ai.aL,p0.ai.ce,p0.ae.af.az,p0.ae.af.be,p0.ae.af.bi,p0.ae.bv,p0.ae.aj,p0.io,p1.am,0,0,0,r0.ci.1,r0.ci.2,r0.ii.am,r0.ai.aL,r0.ai.ce,r0.ae.af.az,r0.ae.af.be,r0.ae.af.bi,r0.ae.bv,r0.ae.aj,r0.io)
structure adb where
 jp:aI
 bv:List Int
noncomputable def uo (s:(Int×Int×Int×(List (Int×Int×Int)))):Option (Step (Int×Int×Int×(List (Int×Int×Int))) Int):=
 bif aen (s.2.1<(rc (adQ s.2.2.2))) then
  (aH s.2.2.2 s.2.1).bind fun a0=>
  bif a0.1==s.1 then
   adX (.done s.2.1)
  else
   adX (.next (s.1,aa .i64 (s.2.1+1),s.2.2))
 else
  adX (.done (-1))
noncomputable def L4 (p0:bm) (p1:Int):Option Int:=
 aB uo (p1,0,p0.aL,p0.ce)
noncomputable def Ch (p0:aI):Option (aI×(Int×Int×Int×Int×Int)×(Int×Int)):=
 (aH p0.ae.bv 0).bind fun a0=>
 (L4 p0.ai a0.2.2.1).bind fun n1=>
 (aH p0.ai.ce n1).bind fun a2=>
 (pC p0 a0.2.2.1).bind fun r3=>
 adX (aI.mk (a0.1,a0.2.1) r3.ii r3.ai r3.ae r3.io,a0,a2.2)
noncomputable def Al (p0:Int×Int×Int) (p1:List (Int×Int)):Option Bool:=
 (dU p1 p0.2).bind fun b0=>
 adX (!b0)
noncomputable def bE (s:((List (Int×Int×Int))×(List (Int×Int))×Int×Int)):Option (Step ((List (Int×Int×Int))×(List (Int×Int))×Int×Int) Int):=
 bif aen (s.2.2.2<s.2.2.1) then
  (aH s.1 s.2.2.2).bind fun a0=>
  (Al a0 s.2.1).bind fun b1=>
  bif b1 then
   adX (.done s.2.2.2)
  else
   adX (.next (s.1,s.2.1,s.2.2.1,aa .i64 (s.2.2.2+1)))
 else
  adX (.done (-1))
noncomputable def gQ (p0:List (Int×Int×Int)) (p1:(List (Int×Int))):Option Int:=
 aB bE (p0,p1,rc (adQ p0),0)
noncomputable def fP (p0:List (Int×Int×Int)) (p1:(List (Int×Int))):Option Bool:=
 (gQ p0 p1).bind fun n0=>
 adX (aen (0<=n0))
noncomputable def yS (p0:aI) (p1:List (Int×Int)):Option Bool:=
 bif (rc (adQ p1))==(rc (adQ p0.ai.ce)) then
  (fP p0.ai.ce p1).bind fun b0=>
  adX (!b0)
 else
  adX ael
noncomputable def iK (s:(Bool×(List (Int×Int))×(List (Int×Int×Int×Int))×Int×Bool×Int)):Option (Step (Bool×(List (Int×Int))×(List (Int×Int×Int×Int))×Int×Bool×Int) (Step (Bool×(List (Int×Int))×(List (Int×Int×Int×Int))×Int) Bool)):=
 match s with
 |(a,b,d,e,f,g)=>
  bif aen (g<(rc (adQ d))) then
   bif f then
    adX (.next (a,b,d,e,aec,aa .i64 (g+1)))
   else
    (aH d g).bind fun a0=>
    (aH b e).bind fun a1=>
    (aH b e).bind fun a2=>
    bif a0.2.2.1==(if a2.2<a1.1 then a2.2 else a1.1) then
     (aH d g).bind fun a3=>
     (aH b e).bind fun a4=>
     (aH b e).bind fun a5=>
     adX (.next (a,b,d,e,a3.2.2.2==(if a5.2>a4.1 then a5.2 else a4.1),aa .i64 (g+1)))
    else
     adX (.next (a,b,d,e,ael,aa .i64 (g+1)))
  else
   bif !f then
    adX (.done (.done ael))
   else
    (fG b 0 e).bind fun l6=>
    (aH b e).bind fun a7=>
    (vF l6 a7).bind fun b8=>
    bif b8 then
     adX (.done (.done ael))
    else
     adX (.done (.next (a,b,d,aa .i64 (e+1))))
noncomputable def dN (s:(Bool×(List (Int×Int))×(List (Int×Int×Int×Int))×Int)):Option (Step (Bool×(List (Int×Int))×(List (Int×Int×Int×Int))×Int) Bool):=
 bif aen (s.2.2.2<(rc (adQ s.2.1))) then
  aB iK (s.1,s.2.1,s.2.2.1,s.2.2.2,ael,0)
 else
  adX (.done s.1)
noncomputable def lO (s:(Int×(List (Int×Int×Int))×Int×Int×(List Int)×(List Int))):Option (Step (Int×(List (Int×Int×Int))×Int×Int×(List Int)×(List Int)) bq):=
 bif aen (0<=s.1) then
  (iC (bq.mk s.2.2.2.2.1 s.2.2.2.2.2) (aa .i64 ((aa .i64 (2*s.1))+1))).bind fun n0=>
  (iC (bq.mk s.2.2.2.2.1 s.2.2.2.2.2) (aa .i64 ((aa .i64 (2*s.1))+2))).bind fun n1=>
  (sm (Field.mk s.2.1) (s.2.2.1,s.2.2.2.1) n0 n1).bind fun n2=>
  (aH s.2.2.2.2.2 s.1).bind fun n3=>
  adX (.next (aa .i64 (s.1-1),s.2.1,s.2.2.1,s.2.2.2.1,s.2.2.2.2.1,cp s.2.2.2.2.2 s.1 n2))
 else
  adX (.done (bq.mk s.2.2.2.2.1 s.2.2.2.2.2))
noncomputable def yT (p0:Field) (p1:Int×Int) (p2:List Int):Option bq:=
 (bN p2).bind fun l0=>
 bif (aa .i64 ((rc (adQ p2)) -1))==(aa .i64 ((rc (adQ p2)) -1)) then
  (vt (aa .i64 ((rc (adQ p2)) -1)) (0:Int)).bind fun l1=>
  aB lO (aa .i64 ((rc (adQ l1)) -1),p0.am,p1.1,p1.2,l0,l1)
 else
  adZ
noncomputable def Bg (p0:Field) (p1:Int×Int) (p2:List Int):Option bq:=
 (yT p0 p1 p2).bind fun r0=>
 adX r0
noncomputable def uO (p0:aI) (p1:Field) (p2:List Int):Option (cV×Int):=
 (Bg p1 p0.ci p2).bind fun r0=>
 (vD r0).bind fun l1=>
 (mJ p0 p1 l1).bind fun a2=>
 bif a2.2 !=0 then
  adX (cV.mk (aI.mk (0,0) (Field.mk []) (bm.mk 0 []) (aK.mk (aS.mk [] [] []) [] []) []) (bq.mk [] []),a2.2)
 else
  adX (cV.mk a2.1 r0,0)
abbrev w9 (n:Int):Prop:= -9223372036854775808<=n/\n<9223372036854775808
abbrev UP (n:Int):Prop:=0<=n/\n<18446744073709551616
theorem wi (n:Int):aa .i64 n=(n+9223372036854775808)%18446744073709551616-9223372036854775808:=by
 rw [sB];simp only [IntKind.wrap,IntKind.bits,IntKind.signed,Bool.true_and];have e1:(2:Int)^64=18446744073709551616:=by decide
 have e2:(2:Int)^(64-1)=9223372036854775808:=by decide
 simp only [e1,e2,decide_eq_true_eq];split<;>omega
theorem wu (n:Int):aa .u64 n=n%18446744073709551616:=by
 rw [sB];simp only [IntKind.wrap,IntKind.bits,IntKind.signed,Bool.false_and];have e1:(2:Int)^64=18446744073709551616:=by decide
 simp only [e1];simp
theorem nJ {n:Int} (h:w9 n):aa .i64 n=n:=by rw [wi];omega
theorem cO {a b:Int} (h:a≠b):(a !=b)=aec:=by simpa using h
theorem bF {a b:Int} (h:a=b):(a !=b)=ael:=by simpa using h
theorem dy {a b:Int} (h:a=b):(a==b)=aec:=by simpa using h
theorem dE {a b:Int} (h:a≠b):(a==b)=ael:=by simpa using h
theorem P0 (a b:Int):(a==b)=aen (a=b):=by
 by_cases h:a=b
 · rw [dy h,decide_eq_true h]
 rw [dE h,decide_eq_false h]
theorem lt_or_ge (a b:Int):a<b\/b<=a:=by omega
theorem aiY (a:Int):mw .u64 a 32=a / 4294967296:=by unfold mw;rw [show (min (32:Int).toNat (IntKind.bits .u64))=32 from by decide,show (2:Int)^32=4294967296 from by decide];exact aco _ (by decide)
theorem Oe {a:Int} (h:UP a):AS .u64 a 4294967295=a%4294967296:=by
 obtain ⟨n,rfl⟩:=ac6 h.1;unfold AS;have e:(BitVec.ofInt (IntKind.bits .u64) (n:Int)&&&BitVec.ofInt (IntKind.bits .u64) 4294967295).toNat=n%4294967296:=by
  rw [BitVec.toNat_and];have e1:(BitVec.ofInt (IntKind.bits .u64) (n:Int)).toNat=n:=by
   rw [BitVec.toNat_ofInt];have:((2^(IntKind.bits .u64):Nat):Int)=18446744073709551616:=by decide
   rw [this];omega
  have e2:(BitVec.ofInt (IntKind.bits .u64) (4294967295:Int)).toNat=2^32-1:=by decide
  rw [e1,e2,Nat.and_two_pow_sub_one_eq_mod]
 rw [e];have:=wu ((n%4294967296:Nat):Int);rw [sB] at this;rw [this];omega
theorem P1 {a b:Nat} (ha:a<1000000000) (hb:b<1000000000):aa .i64 (mw .u64 (aa .u64 (aa .i64 ((a:Int)+(b:Int)))) 1)=(((a+b) / 2:Nat):Int):=by unfold mw;rw [show (min (1:Int).toNat (IntKind.bits .u64))=1 from by decide,show (2:Int)^1=2 from by decide,aco _ (by decide),wi (_+_),wu,wi];omega
section
variable {σ ρ : Type} {body : σ -> Option (Step σ ρ)}
theorem bT (st:Nat->σ) (n:Nat) (h: ∀i,i<n->body (st i)=adX (.next (st (i+1)))):aB body (st 0)=aB body (st n):=by
 induction n with
 |zero=>rfl
 |succ n ih=>rw [ih fun i hi=>h i (by omega)];exact aT (h n (by omega))
theorem c7 (st:Nat->σ) (n:Nat) (c:Nat->Prop) {r e:ρ} (h: ∀i,i<n->(c i->body (st i)=adX (.done r))/\(¬c i->body (st i)=adX (.next (st (i+1)))))
 (UQ:body (st n)=adX (.done e)):((∃i,i<n/\c i)->aB body (st 0)=adX r)/\((∀i,i<n-> ¬c i)->aB body (st 0)=adX e):=by
 constructor
 · rintro ⟨i,hi,hc⟩
   have key: ∀k,k<=n->(∃i,i<n/\n-k<=i/\c i)->aB body (st (n-k))=adX r:=by
    intro k
    induction k with
    |zero=>rintro _ ⟨i,h1,h2,_⟩;omega
    |succ k ih=>
     rintro hk ⟨i,h1,h2,h3⟩
     by_cases hc:c (n- (k+1))
     · exact aG ((h _ (by omega)).1 hc)
     rw [aT ((h _ (by omega)).2 hc),show n- (k+1)+1=n-k by omega]
     refine ih (by omega) ⟨i,h1,?_,h3⟩
     by_cases he:i=n- (k+1)
     · subst he;exact absurd h3 hc
     omega
   have:=key n (acF n) ⟨i,hi,by omega,hc⟩
   rwa [Nat.sub_self] at this
 intro hn
 rw [bT st n fun i hi=>(h i hi).2 (hn i hi)];exact aG UQ
theorem least {c:Nat->Prop}: ∀{n:Nat},(∃i,i<n/\c i)-> ∃k,k<n/\c k/\ ∀j,j<k-> ¬c j
 |0,h=>by obtain ⟨i,hi,_⟩:=h;omega
 |n+1,h=>by
  by_cases hx: ∃i,i<n/\c i
  · obtain ⟨k,h1,h2,h3⟩:=least hx
    exact ⟨k,by omega,h2,h3⟩
  obtain ⟨i,hi,hc⟩:=h
  refine ⟨i,hi,hc,fun j hj hcj=>hx ⟨j,by omega,hcj⟩⟩
theorem jZ (st:Nat->σ) (n:Nat) (c:Nat->Prop) (r:Nat->ρ) {e:ρ} (h: ∀i,i<n->(c i->body (st i)=adX (.done (r i)))/\(¬c i->body (st i)=adX (.next (st (i+1)))))
 (UQ:body (st n)=adX (.done e)):(∀k,k<n->c k->(∀j,j<k-> ¬c j)->aB body (st 0)=adX (r k))/\((∀i,i<n-> ¬c i)->aB body (st 0)=adX e):=by
 constructor
 · intro k hk hc hj
   rw [bT st k fun i hi=>(h i (by omega)).2 (hj i hi)];exact aG ((h k hk).1 hc)
 intro hn
 rw [bT st n fun i hi=>(h i hi).2 (hn i hi)];exact aG UQ
theorem zA (st:Nat->Nat->σ) (n m:Nat) (c:Nat->Prop)
 (h: ∀lo hi,lo<hi->hi<=n->(c ((lo+hi) / 2)->body (st lo hi)=adX (.next (st ((lo+hi) / 2+1) hi)))/\(¬c ((lo+hi) / 2)->body (st lo hi)=adX (.next (st lo ((lo+hi) / 2)))))
 (h1: ∀i,i<m->c i) (h2: ∀i,m<=i->i<n-> ¬c i): ∀d lo hi,hi-lo<=d->lo<=m->m<=hi->hi<=n->aB body (st lo hi)=aB body (st m m)
 |0,lo,hi,hd,a,b,_=>by
  have e1:lo=m:=by omega
  have e2:hi=m:=by omega
  rw [e1,e2]
 |d+1,lo,hi,hd,a,b,e=>by
  by_cases hl:lo<hi
  · by_cases hc:c ((lo+hi) / 2)
    · rw [aT ((h lo hi hl e).1 hc)]
      refine zA st n m c h h1 h2 d _ _ (by omega) ?_ b e;refine If fun hx=>?_
      exact h2 ((lo+hi) / 2) (by omega) (by omega) hc
    rw [aT ((h lo hi hl e).2 hc)]
    refine zA st n m c h h1 h2 d _ _ (by omega) a ?_ (by omega);refine If fun hx=>?_
    exact hc (h1 ((lo+hi) / 2) (by omega))
  have e1:lo=m:=by omega
  have e2:hi=m:=by omega
  rw [e1,e2]
end
section
variable {α : Type} [Inhabited α]
theorem aq (l:List α) (n:Nat) (h:n<adQ l):aH l (n:Int)=adX l[n]!:=by show l[n]? =adX l[n]!;rw [acw h,getElem!_pos l n h]
theorem dD {l:List α} {i:Int} (h0:0<=i) (h:i<adQ l):aH l i=adX l[i.toNat]!:=by obtain ⟨n,rfl⟩:=ac6 h0;exact aq l n (by omega)
theorem vG {β:Type} (l:List β) (n:Nat) (a:β):cp l (n:Int) a=l.set n a:=rfl
theorem bj (l:List α) (n m:Nat) (a:α):(l.set n a)[m]! =if m=n/\n<(adQ l) then a else l[m]!:=by
 by_cases hm:m<adQ l
 · rw [getElem!_pos (l.set n a) m (by simpa using hm),getElem!_pos l m hm,List.getElem_set]
   split
   · rw [ls (by omega)]
   rw [lw (by omega)]
 rw [getElem!_neg (l.set n a) m (by simpa using hm),getElem!_neg l m hm]
 split
 · omega
 rfl
theorem aP {l:List α} {x:α}:x∈l↔ ∃i,i<adQ l/\l[i]! =x:=by
 rw [List.mem_iff_getElem];constructor
 · rintro ⟨i,h,rfl⟩;exact ⟨i,h,getElem!_pos l i h⟩
 rintro ⟨i,h,rfl⟩;exact ⟨i,h,(getElem!_pos l i h).symm⟩
theorem aV {l:List α} {i:Nat} (h:i<adQ l):l[i]!∈l:=aP.2 ⟨i,h,rfl⟩
theorem fU {l m:List α} {i:Nat} (h:i<adQ l):(l++m)[i]! =l[i]!:=by rw [getElem!_pos (l++m) i (by simp;omega),getElem!_pos l i h,List.getElem_append_left h]
theorem iD {l m:List α} {i:Nat} (h:(adQ l)<=i):(l++m)[i]! =m[i-(adQ l)]!:=by
 by_cases hi:i<adQ l+adQ m
 · rw [getElem!_pos (l++m) i (by simp;omega),getElem!_pos m (i-(adQ l)) (by omega),List.getElem_append_right h]
 rw [getElem!_neg (l++m) i (by simp;omega),getElem!_neg m (i-(adQ l)) (by omega)]
theorem kN {l:List α} {n i:Nat} (h:i<n):(l.take n)[i]! =l[i]!:=by
 by_cases hi:i<adQ l
 · rw [getElem!_pos (l.take n) i (by simp;omega),getElem!_pos l i hi,List.getElem_take]
 rw [getElem!_neg (l.take n) i (by simp;omega),getElem!_neg l i hi]
theorem pF {l:List α} {n i:Nat}:(l.drop n)[i]! =l[n+i]!:=by
 by_cases hi:n+i<adQ l
 · rw [getElem!_pos (l.drop n) i (by simp;omega),getElem!_pos l (n+i) hi,List.getElem_drop]
 rw [getElem!_neg (l.drop n) i (by simp;omega),getElem!_neg l (n+i) hi]
theorem sZ {l m:List α} (hl:(adQ l)=adQ m) (h: ∀i,i<adQ l->l[i]! =m[i]!):l=m:=by
 apply List.ext_getElem hl;intro i h1 h2;have:=h i h1
 rwa [getElem!_pos l i h1,getElem!_pos m i h2] at this
theorem UR {l:List α} {i:Nat} (h:i<adQ l):l=l.take i++l[i]!::l.drop (i+1):=by rw [getElem!_pos l i h,List.getElem_cons_drop,List.take_append_drop]
end
theorem bk {α:Type} {l:List α} (h:(adQ l)<=1048576):bN l=adX l:=by unfold bN;rw [ls h]
theorem dO {α:Type} {l m:List α} (h:(adQ l)+adQ m<=1048576):bK l m=adX (l++m):=by unfold bK;rw [ls h]
@[simp] theorem ao {α β:Type} (a:α) (f:α->Option β):(adX a).bind f=f a:=rfl
end Go.Proofs.YtlnclppkepgdmaaGreat
namespace Go.Proofs.YtlnclppkepgdmaaGreat
open Go.Vm Classical
theorem jo {n:Int} (h:w9 n):gG n=adX (n.natAbs:Int):=by
 unfold gG;simp only [wi,wu]
 by_cases hn:n<0
 · simp only [hn,decide_true,lc,v6];omega
 simp only [hn,decide_false,lm,v6];omega
theorem oJ {n:Int} (h:w9 n):kJ n=adX (n.natAbs:Int):=by
 unfold kJ;simp only [wu]
 by_cases hn:n<0
 · simp only [hn,decide_true,lc,v6];omega
 simp only [hn,decide_false,lm,v6];omega
theorem pG (m n:Nat):ox m n=adX (ww m n:Int):=by
 unfold ox
 induction n using adk generalizing m with
 |ind n ih=>
  by_cases h0:n=0
  · subst h0
    rw [ad3];exact aG (by simp [mR])
  have e:mR ((m:Int),(n:Int))=adX (.next ((n:Int),((m%n:Nat):Int))):=by
   have h1:((n:Int) !=0)=aec:=by simp;omega
   have h2:((n:Int)==0)=ael:=by simp;omega
   simp only [mR,h1,h2,lc,lm,adt]
  rw [aT e,ih (m%n) (Nat.mod_lt _ (by omega)) n,acf m n,Nat.gcd_rec n m,acf]
theorem Am (m n:Nat):vC m n=adX (ww m n:Int):=by
 unfold vC
 induction n using adk generalizing m with
 |ind n ih=>
  by_cases h0:n=0
  · subst h0
    rw [ad3];exact aG (by simp [rR])
  have e:rR ((m:Int),(n:Int))=adX (.next ((n:Int),((m%n:Nat):Int))):=by
   have h1:aen (0<(n:Int))=aec:=by simp;omega
   have h2:((n:Int)==0)=ael:=by simp;omega
   simp only [rR,h1,h2,lc,lm,adt]
  rw [aT e,ih (m%n) (Nat.mod_lt _ (by omega)) n,acf m n,Nat.gcd_rec n m,acf]
def aX (r:Int×Int):Prop:=1<=r.2/\r.1≠ -9223372036854775808/\ww r.2.natAbs r.1.natAbs=1
abbrev jf (r:Int×Int):Prop:=w9 r.1/\w9 r.2
theorem dz {r:Int×Int} (h:jf r):dS r=adX (if aX r then 0 else 8):=by
 obtain ⟨a,b⟩:=r;obtain ⟨ha,hb⟩:=h;unfold dS aX;dsimp only at ha hb ⊢
 by_cases h1:b<1
 · rw [lw (by omega)];simp [h1]
 by_cases h2:a= -9223372036854775808
 · rw [lw (by omega)];simp [h1,h2]
 have e2:(a== -9223372036854775808)=ael:=by simpa using h2
 have e3:aa .u64 b=(b.natAbs:Int):=by rw [wu];omega
 simp only [h1,decide_false,lm,e2,oJ ha,ao,e3,Am];have hp:0<ww b.natAbs a.natAbs:=Nat.gcd_pos_of_pos_left _ (by omega)
 by_cases h3:ww b.natAbs a.natAbs=1
 · rw [ls ⟨by omega,h2,h3⟩,h3];rfl
 rw [lw (fun h=>h3 h.2.2)]
 have:aen (1<(ww b.natAbs a.natAbs:Int))=aec:=by simp;omega
 rw [this];rfl
theorem lP {r:Int×Int} (h:jf r):jY r=adX (if aX r then 0 else 8):=by
 obtain ⟨a,b⟩:=r;obtain ⟨ha,hb⟩:=h;unfold jY aX;dsimp only at ha hb ⊢
 by_cases h1:b<1
 · rw [lw (by omega)];simp [h1]
 by_cases h2:a= -9223372036854775808
 · rw [lw (by omega)];simp [h1,h2]
 have e2:(a== -9223372036854775808)=ael:=by simpa using h2
 have e3:aa .u64 b=(b.natAbs:Int):=by rw [wu];omega
 simp only [h1,decide_false,lm,e2,jo ha,ao,e3,pG];rw [acf]
 by_cases h3:ww b.natAbs a.natAbs=1
 · rw [ls ⟨by omega,h2,h3⟩,h3];rfl
 rw [lw (fun h=>h3 h.2.2)]
 have:((ww b.natAbs a.natAbs:Int) !=1)=aec:=by simp;omega
 rw [this];rfl
theorem US (x y:Int) (hx:UP x) (hy:UP y): ∃p q r s:Int,0<=p/\p<=18446744065119617025/\0<=q/\q<=18446744065119617025/\0<=r/\r<=18446744065119617025/\0<=s/\s<=18446744065119617025/\
 x / 4294967296*(y / 4294967296)=p/\x / 4294967296*(y%4294967296)=q/\x%4294967296*(y / 4294967296)=r/\x%4294967296*(y%4294967296)=s/\
 x*y=p*18446744073709551616+(q+r)*4294967296+s:=by
 have Sd:0<=x / 4294967296/\x / 4294967296<=4294967295:=by omega
 have Lh:0<=x%4294967296/\x%4294967296<=4294967295:=by omega
 have hy1:0<=y / 4294967296/\y / 4294967296<=4294967295:=by omega
 have Ra:0<=y%4294967296/\y%4294967296<=4294967295:=by omega
 have ex:x=x / 4294967296*4294967296+x%4294967296:=by omega
 have ey:y=y / 4294967296*4294967296+y%4294967296:=by omega
 generalize x / 4294967296=a at*;generalize x%4294967296=b at*;generalize y / 4294967296=c at*;generalize y%4294967296=d at*;have bd: ∀{u v:Int},0<=u/\u<=4294967295->0<=v/\v<=4294967295->0<=u*v/\u*v<=18446744065119617025:=by
  intro u v hu hv;refine ⟨acS hu.1 hv.1,?_⟩
  calc u*v<=4294967295*4294967295:=acp hu.2 hv.2 hv.1 (by decide)
   _=_:=by decide
 refine ⟨a*c,a*d,b*c,b*d,(bd Sd hy1).1,(bd Sd hy1).2,(bd Sd Ra).1,(bd Sd Ra).2,(bd Lh hy1).1,(bd Lh hy1).2,(bd Lh Ra).1,(bd Lh Ra).2,rfl,rfl,rfl,rfl,?_⟩;rw [ex,ey]
 grind
theorem Gx {x y:Int} (hx:UP x) (hy:UP y):gD x y=adX (x*y / 18446744073709551616,x*y%18446744073709551616):=by
 unfold gD;obtain ⟨p,q,r,s,p0,p1,q0,q1,r0,r1,s0,s1,ep,eq,er,es,exy⟩:=US x y hx hy;have key: ∀z:Int,AS .u64 (z%18446744073709551616) 4294967295=z%18446744073709551616%4294967296:=fun z=>Oe (by constructor<;>omega)
 simp only [aiY,Oe hx,Oe hy,wu,key,ep,eq,er,es,exy,v6,UV,and_true];clear ep eq er es exy key hx hy;have e1:s%18446744073709551616=s:=by omega
 have e2:(q+s / 4294967296)%18446744073709551616=q+s / 4294967296:=by omega
 have ep:p%18446744073709551616=p:=by omega
 have eq:q%18446744073709551616=q:=by omega
 have er:r%18446744073709551616=r:=by omega
 rw [e1,ep,eq,er,e2];have e3:s=s / 4294967296*4294967296+s%4294967296:=by omega
 have e4:q+s / 4294967296=(q+s / 4294967296) / 4294967296*4294967296+(q+s / 4294967296)%4294967296:=by omega
 have b1:0<=s%4294967296/\s%4294967296<4294967296:=by omega
 have b2:0<=(q+s / 4294967296)%4294967296/\(q+s / 4294967296)%4294967296<4294967296:=by omega
 have b3:0<=(q+s / 4294967296) / 4294967296/\(q+s / 4294967296) / 4294967296<=4294967295:=by omega
 have b4:0<=s / 4294967296/\s / 4294967296<=4294967295:=by omega
 generalize (q+s / 4294967296) / 4294967296=t1 at*;generalize (q+s / 4294967296)%4294967296=t0 at*;generalize s / 4294967296=c1 at*;generalize s%4294967296=c0 at*;clear e1 e2;have e5:(t0+r)%18446744073709551616=t0+r:=by omega
 rw [e5];have e6:t0+r=(t0+r) / 4294967296*4294967296+(t0+r)%4294967296:=by omega
 have b5:0<=(t0+r)%4294967296/\(t0+r)%4294967296<4294967296:=by omega
 have b6:0<=(t0+r) / 4294967296/\(t0+r) / 4294967296<=4294967295:=by omega
 generalize (t0+r) / 4294967296=u1 at*;generalize (t0+r)%4294967296=u0 at*;omega
theorem Of {x y:Int} (hx:UP x) (hy:UP y):pZ x y=adX (ael,x*y / 18446744073709551616,x*y%18446744073709551616):=by
 unfold pZ;obtain ⟨p,q,r,s,p0,p1,q0,q1,r0,r1,s0,s1,ep,eq,er,es,exy⟩:=US x y hx hy;have t1: ∀a:Int,0<=a->NE a 4294967296=a / 4294967296:=fun a h=>acq h
 have t2: ∀a:Int,0<=a->Int.tmod a 4294967296=a%4294967296:=fun a h=>Int.tmod_eq_emod_of_nonneg h
 simp only [wu];rw [t1 x hx.1,t1 y hy.1,t2 x hx.1,t2 y hy.1];have f1:x / 4294967296%18446744073709551616=x / 4294967296:=by omega
 have f2:y / 4294967296%18446744073709551616=y / 4294967296:=by omega
 simp only [f1,f2,ep,eq,er,es];have g: ∀a:Int,NE (a%18446744073709551616) 4294967296=a%18446744073709551616 / 4294967296:=fun a=>t1 _ (by omega)
 have g2: ∀a:Int,Int.tmod (a%18446744073709551616) 4294967296=a%18446744073709551616%4294967296:=fun a=>t2 _ (by omega)
 simp only [g,g2,exy,v6,UV,true_and];constructor<;>omega
abbrev B64 (a:Bool×Int×Int):Prop:=UP a.2.1/\UP a.2.2
theorem zB {n:Int} (h:w9 n):UP (n.natAbs:Int):=by constructor<;>omega
theorem zC {n:Int} (h:w9 n):(n.natAbs:Int)<=9223372036854775808:=by omega
theorem Ci (a b:Int):((a.natAbs:Int)*(b.natAbs:Int))=((a*b).natAbs:Int):=by rw [Int.natAbs_mul];rfl
theorem s4 {a b:Int} (ha:w9 a) (hb:w9 b):((a*b).natAbs:Int)<=85070591730234615865843651857942052864:=by
 rw [<- Ci]
 calc (a.natAbs:Int)*(b.natAbs:Int)<=9223372036854775808*9223372036854775808:=acp (zC ha) (zC hb) (by omega) (by decide)
  _=_:=by decide
theorem xa {a b:Int} (ha:w9 a) (hb:w9 b):
 jm a b=adX (aen (a*b<0),((a*b).natAbs:Int) / 18446744073709551616,((a*b).natAbs:Int)%18446744073709551616):=by
 unfold jm;simp only [jo ha,jo hb,ao,Of (zB ha) (zB hb),Ci];have hs:(a*b<0)↔((a<0/\0<b)\/(0<a/\b<0)):=by
  constructor
  · intro h
    rcases acu a 0 with h1|h1|h1
    · rcases acu b 0 with h2|h2|h2
      · have:=Int.mul_pos_of_neg_of_neg h1 h2;omega
      · subst h2;simp at h
      exact .inl ⟨h1,h2⟩
    · subst h1;simp at h
    rcases acu b 0 with h2|h2|h2
    · exact .inr ⟨h1,h2⟩
    · subst h2;simp at h
    have:=Int.mul_pos h1 h2;omega
  rintro (⟨h1,h2⟩|⟨h1,h2⟩)
  · exact ac2 h1 h2
  exact Int.mul_neg_of_pos_of_neg h1 h2
 have hd:aen (a*b<0)=aen ((a<0/\0<b)\/(0<a/\b<0)):=by simp only [hs]
 rw [hd];clear hd hs;generalize ((a*b).natAbs:Int)=z
 by_cases h1:a<0
 · have MY: ¬0<a:=by omega
   have amt:(a !=0)=aec:=cO (by omega)
   by_cases h2:b<0
   · have Q1: ¬0<b:=by omega
     simp [h1,h2,MY,Q1]
   by_cases h3:b=0
   · simp [h1,h3,amt]
   have h3':0<b:=by omega
   simp [h1,h2,h3',amt,cO h3]
 by_cases h0:a=0
 · subst h0
   by_cases h2:b<0<;>simp [h2]
 have MY:0<a:=by omega
 by_cases h2:b<0
 · have Q1:(b !=0)=aec:=cO (by omega)
   simp [h1,h2,MY,cO h0,Q1]
 simp [h1,h2,MY]
theorem L5 {a b:Int} (ha:w9 a) (hb:w9 b):
 qx a b=adX (!(aen (a<0)==aen (b<0)),((a*b).natAbs:Int) / 18446744073709551616,((a*b).natAbs:Int)%18446744073709551616):=by
 unfold qx;simp only [oJ ha,oJ hb,ao,Gx (zB ha) (zB hb),Ci]
def iO (a b:Int):Int:=if a<b then -1 else if b<a then 1 else 0
theorem An (a b:Int):ja a b=adX (iO a b):=by
 unfold ja mQ iO
 by_cases h1:a<b<;>by_cases h2:b<a<;>simp [h1,h2]
theorem HL (a b:Int):iw a b=adX (iO a b):=by
 unfold iw lX iO
 by_cases h1:a<b<;>by_cases h2:b<a<;>simp [h1,h2]
theorem iE (a b:Int):df a b=adX (iO a b):=by
 unfold df cmp_isNaN_int iO
 by_cases h1:a<b<;>by_cases h2:b<a<;>simp [h1,h2]
theorem c6 (a b:Int):(a<b/\iO a b= -1)\/(a=b/\iO a b=0)\/(b<a/\iO a b=1):=by
 unfold iO
 by_cases h1:a<b
 · exact .inl ⟨h1,by rw [ls h1]⟩
 by_cases h2:b<a
 · exact .inr (.inr ⟨h2,by rw [lw h1,ls h2]⟩)
 exact .inr (.inl ⟨by omega,by rw [lw h1,lw h2]⟩)
theorem J0 (a b:Bool×Int×Int) (ha:B64 a) (hb:B64 b):px a b=adX (iO (a.2.1*18446744073709551616+a.2.2) (b.2.1*18446744073709551616+b.2.2)):=by
 obtain ⟨s,ah,al⟩:=a;obtain ⟨t,bh,bl⟩:=b;obtain ⟨⟨a1,a2⟩,a3,a4⟩:=ha;obtain ⟨⟨b1,b2⟩,b3,b4⟩:=hb;dsimp only at*;unfold px iO;dsimp only
 by_cases h1:ah=bh
 · subst h1
   by_cases h2:al=bl
   · subst h2;simp
   by_cases h3:al<bl
   · simp [cO h2,h3]
   rw [lw (by omega),ls (by omega)];simp [cO h2,h3]
 by_cases h3:ah<bh
 · rw [ls (by omega)];simp [cO h1,h3]
 rw [lw (by omega),ls (by omega)];simp [cO h1,h3]
theorem Og (a b:Bool×Int×Int) (ha:B64 a) (hb:B64 b):pT a b=adX (iO (a.2.1*18446744073709551616+a.2.2) (b.2.1*18446744073709551616+b.2.2)):=by
 obtain ⟨s,ah,al⟩:=a;obtain ⟨t,bh,bl⟩:=b;obtain ⟨⟨a1,a2⟩,a3,a4⟩:=ha;obtain ⟨⟨b1,b2⟩,b3,b4⟩:=hb;dsimp only at*;unfold pT;simp only [HL,ao];unfold iO
 by_cases h1:ah=bh
 · subst h1
   by_cases h3:al<bl
   · simp [h3]
   by_cases h2:bl<al
   · rw [lw (show¬(ah*18446744073709551616+al<ah*18446744073709551616+bl) by omega),ls (show ah*18446744073709551616+bl<ah*18446744073709551616+al by omega)];simp [h2,h3]
   have:al=bl:=by omega
   subst this;simp
 by_cases h3:ah<bh
 · rw [ls (show ah*18446744073709551616+al<bh*18446744073709551616+bl by omega)];simp [h3]
 rw [lw (show¬(ah*18446744073709551616+al<bh*18446744073709551616+bl) by omega),ls (show bh*18446744073709551616+bl<ah*18446744073709551616+al by omega)];simp [h3,show bh<ah by omega]
theorem uq (a:Bool) {n:Int} (h0:0<=n) (h:n<=85070591730234615865843651857942052864):B64 (a,n / 18446744073709551616,n%18446744073709551616):=by constructor<;>constructor<;>dsimp only<;>omega
theorem J1 {n:Int} (h:(n.natAbs:Int)<=85070591730234615865843651857942052864):kf (aen (n<0),(n.natAbs:Int) / 18446744073709551616,(n.natAbs:Int)%18446744073709551616)=adX (iO n 0):=by
 unfold kf iO;dsimp only
 by_cases h0:n=0
 · subst h0;simp
 by_cases h1:n<0
 · rw [ls h1]
   by_cases h2:(n.natAbs:Int) / 18446744073709551616=0
   · have h3: ¬((n.natAbs:Int)%18446744073709551616=0):=by omega
     simp [h1,h2,dE h3]
   simp [h1,dE h2]
 rw [lw h1,ls (by omega)]
 by_cases h2:(n.natAbs:Int) / 18446744073709551616=0
 · have h3: ¬((n.natAbs:Int)%18446744073709551616=0):=by omega
   simp [h1,h2,dE h3]
 simp [h1,dE h2]
def dP (a b:Int×Int):Int:=iO (a.1*b.2) (b.1*a.2)
theorem xb {a b:Int×Int} (ha:jf a) (hb:jf b):kL a b=adX (dP a b):=by
 unfold kL dP;have n1:=s4 ha.1 hb.2;have n2:=s4 hb.1 ha.2;simp only [xa ha.1 hb.2,xa hb.1 ha.2,ao,J1 n1,J1 n2];generalize a.1*b.2=x at*;generalize b.1*a.2=y at*;rw [J0 _ _ (uq _ (by omega) n1) (uq _ (by omega) n2),J0 _ _ (uq _ (by omega) n2) (uq _ (by omega) n1)];have ex:((x.natAbs:Int) / 18446744073709551616)*18446744073709551616+(x.natAbs:Int)%18446744073709551616=(x.natAbs:Int):=by omega
 have ey:((y.natAbs:Int) / 18446744073709551616)*18446744073709551616+(y.natAbs:Int)%18446744073709551616=(y.natAbs:Int):=by omega
 simp only [ex,ey,ao];rcases c6 x 0 with ⟨h1,e1⟩|⟨h1,e1⟩|⟨h1,e1⟩<;>rcases c6 y 0 with ⟨h2,e2⟩|⟨h2,e2⟩|⟨h2,e2⟩<;>rw [e1,e2]<;>simp<;>
  unfold iO<;>(repeat' split)<;>first|rfl|omega
theorem abG {a b:Int×Int} (ha:jf a) (hb:jf b):wN a b=adX (if aX a/\aX b then 0 else 8):=by
 unfold wN;simp only [dz ha,dz hb,ao]
 by_cases h1:aX a<;>by_cases h2:aX b<;>simp [h1,h2]
theorem Dt {a b:Int×Int} (ha:jf a) (hb:jf b):nE a b=adX (if aX a/\aX b then (dP a b,0) else (0,8)):=by
 unfold nE;rw [abG ha hb]
 by_cases h:aX a/\aX b
 · rw [ls h,ls h]
   obtain ⟨⟨a1,a2,a3⟩,b1,b2,b3⟩:=h;have n1:=s4 ha.1 hb.2;have n2:=s4 hb.1 ha.2;simp only [ao,An,L5 ha.1 hb.2,L5 hb.1 ha.2];rw [Og _ _ (uq _ (by omega) n1) (uq _ (by omega) n2)];have ex:((a.1*b.2).natAbs:Int) / 18446744073709551616*18446744073709551616+((a.1*b.2).natAbs:Int)%18446744073709551616=((a.1*b.2).natAbs:Int):=by omega
   have ey:((b.1*a.2).natAbs:Int) / 18446744073709551616*18446744073709551616+((b.1*a.2).natAbs:Int)%18446744073709551616=((b.1*a.2).natAbs:Int):=by omega
   simp only [ex,ey,ao];unfold dP;have s1:(a.1<0↔a.1*b.2<0):=by
    constructor
    · intro h;exact ac2 h (by omega)
    intro h;rcases lt_or_ge a.1 0 with h1|h1
    · exact h1
    have:=acS h1 (show 0<=b.2 by omega);omega
   have s2:(b.1<0↔b.1*a.2<0):=by
    constructor
    · intro h;exact ac2 h (by omega)
    intro h;rcases lt_or_ge b.1 0 with h1|h1
    · exact h1
    have:=acS h1 (show 0<=a.2 by omega);omega
   generalize a.1*b.2=x at*;generalize b.1*a.2=y at*
   by_cases h1:a.1<0<;>by_cases h2:b.1<0
   · have h3:=s1.1 h1;have h4:=s2.1 h2
     have:aa .i64 (-iO (x.natAbs:Int) (y.natAbs:Int))=iO x y:=by rw [wi];unfold iO;(repeat' split)<;>omega
     simp [h1,h2,this]
   · have h3:=s1.1 h1;have h4: ¬y<0:=fun h=>h2 (s2.2 h)
     have:iO a.1 b.1=iO x y:=by unfold iO;(repeat' split)<;>omega
     simp [h1,h2,this]
   · have h3: ¬x<0:=fun h=>h1 (s1.2 h);have h4:=s2.1 h2
     have:iO a.1 b.1=iO x y:=by unfold iO;(repeat' split)<;>omega
     simp [h1,h2,this]
   have h3: ¬x<0:=fun h=>h1 (s1.2 h);have h4: ¬y<0:=fun h=>h2 (s2.2 h)
   have:iO (x.natAbs:Int) (y.natAbs:Int)=iO x y:=by unfold iO;(repeat' split)<;>omega
   simp [h1,h2,this]
 rw [lw h,lw h];rfl
abbrev Pt:=Int×Int×Int
def ff (p:Pt):Prop:=0<=p.1/\p.1<=65535/\ -1048576<=p.2.1/\p.2.1<=1048576/\ -1048576<=p.2.2/\p.2.2<=1048576
theorem xG (p:Pt):lW p=adX (if ff p then 0 else 8):=by
 obtain ⟨i,a,b⟩:=p;unfold lW om ff;dsimp only
 by_cases h1:i<0
 · rw [lw (by omega)];simp [h1]
 by_cases h2:65535<i
 · rw [lw (by omega)];simp [h1,h2]
 by_cases h3:a< -1048576
 · rw [lw (by omega)];simp [h1,h2,h3]
 by_cases h4:1048576<a
 · rw [lw (by omega)];simp [h1,h2,h3,h4]
 by_cases h5:b< -1048576
 · rw [lw (by omega)];simp [h1,h2,h3,h4,h5]
 by_cases h6:1048576<b
 · rw [lw (by omega)];simp [h1,h2,h3,h4,h5,h6]
 rw [ls (by omega)];simp [h1,h2,h3,h4,h5,h6]
theorem Gy (p:Pt):tV p=adX (if ff p then 0 else 8):=by
 obtain ⟨i,a,b⟩:=p;unfold tV ff;dsimp only
 by_cases h1:i<0
 · rw [lw (by omega)];simp [h1]
 by_cases h2:65535<i
 · rw [lw (by omega)];simp [h1,h2]
 by_cases h3:a< -1048576
 · rw [lw (by omega)];simp [h1,h2,h3]
 by_cases h4:1048576<a
 · rw [lw (by omega)];simp [h1,h2,h3,h4]
 by_cases h5:b< -1048576
 · rw [lw (by omega)];simp [h1,h2,h3,h4,h5]
 by_cases h6:1048576<b
 · rw [lw (by omega)];simp [h1,h2,h3,h4,h5,h6]
 rw [ls (by omega)];simp [h1,h2,h3,h4,h5,h6]
theorem vH {x y:Int} (hx:w9 x) (hy:w9 y): -85070591730234615865843651857942052864<=x*y/\x*y<=85070591730234615865843651857942052864:=by have:=s4 hx hy;omega
theorem ade {x y:Int} (hx:w9 x) (hy:w9 y):(x%18446744073709551616)*(y%18446744073709551616)=x*y+(if x<0 then y else 0)*18446744073709551616+(if y<0 then x else 0)*18446744073709551616+(if x<0/\y<0 then 340282366920938463463374607431768211456 else 0):=by
 by_cases h1:x<0<;>by_cases h2:y<0
 · have e1:x%18446744073709551616=x+18446744073709551616:=by omega
   have e2:y%18446744073709551616=y+18446744073709551616:=by omega
   rw [e1,e2,ls h1,ls h2,ls ⟨h1,h2⟩];grind
 · have e1:x%18446744073709551616=x+18446744073709551616:=by omega
   have e2:y%18446744073709551616=y:=by omega
   rw [e1,e2,ls h1,lw h2,lw (fun h=>h2 h.2)];grind
 · have e1:x%18446744073709551616=x:=by omega
   have e2:y%18446744073709551616=y+18446744073709551616:=by omega
   rw [e1,e2,lw h1,ls h2,lw (fun h=>h1 h.1)];grind
 have e1:x%18446744073709551616=x:=by omega
 have e2:y%18446744073709551616=y:=by omega
 rw [e1,e2,lw h1,lw h2,lw (fun h=>h1 h.1)];grind
theorem L6 {a b:Int} (ha:0<=a) (hb:0<=b):o9 a b 0=adX ((a+b)%18446744073709551616,(a+b) / 18446744073709551616):=by unfold o9;simp [ha,hb]
theorem UT {a b c d u v:Int} (ha:w9 a) (hb:w9 b):mF (a,b,c,d,0,u,v,0,0)=adX (.next (a,b,c,d,1,u,v,a*b / 18446744073709551616,a*b%18446744073709551616)):=by
 unfold mF;have hm:=Gx (x:=aa .u64 a) (y:=aa .u64 b) (by rw [wu];constructor<;>omega) (by rw [wu];constructor<;>omega);have VH:=vH ha hb;have hu:=ade ha hb;simp only [hm,ao];simp only [wu,hu];generalize a*b=x at*
 by_cases h1:a<0<;>by_cases h2:b<0
 all_goals
  simp only [h1,h2,decide_true,decide_false,lc,lm,if_true,if_false,and_self,and_false,false_and];rw [L6 (by omega) (by omega)];simp only [wi,ao,show aen ((0:Int)<2)=aec from rfl,lc,show ((0:Int)==0)=aec from rfl,v6,Step.next.injEq,UV,true_and];refine ⟨by omega,?_,?_⟩<;>omega
theorem UU {a b c d u v h l:Int} (hc:w9 c) (hd:w9 d) (hl:UP l)
 (_hh: -9223372036854775808<=h/\h<9223372036854775808) (hs: -170141183460469231731687303715884105728<=h*18446744073709551616+l+c*d/\h*18446744073709551616+l+c*d<170141183460469231731687303715884105728):
 mF (a,b,c,d,1,u,v,h,l)=adX (.next (a,b,c,d,2,u,v,(h*18446744073709551616+l+c*d) / 18446744073709551616,(h*18446744073709551616+l+c*d)%18446744073709551616)):=by
 unfold mF;have hm:=Gx (x:=aa .u64 c) (y:=aa .u64 d) (by rw [wu];constructor<;>omega) (by rw [wu];constructor<;>omega);have VH:=vH hc hd;have hu:=ade hc hd;simp only [hm,ao];simp only [wu,hu];generalize c*d=x at*
 by_cases h1:c<0<;>by_cases h2:d<0
 all_goals
  simp only [h1,h2,decide_true,decide_false,lc,lm,if_true,if_false,and_self,and_false,false_and];rw [L6 (by omega) (by omega)];simp only [wi,ao,show aen ((1:Int)<2)=aec from rfl,lc,lm,show ((1:Int)==0)=ael from rfl,show ((1:Int)==1)=aec from rfl,v6,Step.next.injEq,UV,true_and];refine ⟨by omega,?_,?_⟩<;>omega
theorem HM {a b c d:Int} (ha:w9 a) (hb:w9 b) (hc:w9 c) (hd:w9 d) (hs: -170141183460469231731687303715884105728<=a*b+c*d/\a*b+c*d<170141183460469231731687303715884105728):
 wO (a,b,c,d)=adX ((a*b+c*d) / 18446744073709551616,(a*b+c*d)%18446744073709551616):=by
 unfold wO;dsimp only;have VH:=vH ha hb;have e:a*b / 18446744073709551616*18446744073709551616+a*b%18446744073709551616+c*d=a*b+c*d:=by omega
 rw [aT (UT ha hb),aT (UU hc hd (by constructor<;>omega) (by constructor<;>omega) (by rw [e];exact hs)),e];exact aG rfl
def xH (p q:Pt) (t:Int×Int):Int:=(p.2.1-q.2.1)*t.2+(p.2.2-q.2.2)*t.1
def leads (p q:Pt) (t:Int×Int):Prop:=0<xH p q t\/(xH p q t=0/\(q.2.2<p.2.2\/(p.2.2=q.2.2/\p.1<q.1)))
def Oh (p q:Pt) (t:Int×Int):Int:=if xH p q t<0 then -1 else if 0<xH p q t then 1 else if p.2.2<q.2.2 then -1 else if q.2.2<p.2.2 then 1 else iO q.1 p.1
theorem Gz (p q:Pt) (t:Int×Int):0<Oh p q t↔leads p q t:=by
 unfold Oh leads
 by_cases h1:xH p q t<0
 · rw [ls h1];omega
 by_cases h2:0<xH p q t
 · rw [lw h1,ls h2];simp [h2]
 rw [lw h1,lw h2]
 by_cases h3:p.2.2<q.2.2
 · rw [ls h3];omega
 by_cases h4:q.2.2<p.2.2
 · rw [lw h3,ls h4];omega
 rw [lw h3,lw h4]
 rcases c6 q.1 p.1 with ⟨h,e⟩|⟨h,e⟩|⟨h,e⟩<;>rw [e]<;>omega
theorem zD (a b:Int):lF [a,b]=adX (if a≠0 then a else b):=by
 unfold lF
 by_cases h1:a=0
 · subst h1
   rw [aT (y:=(0,[0,b],2,1)) (by rfl)]
   by_cases h2:b=0
   · subst h2
     rw [aT (y:=(0,[0,0],2,2)) (by rfl)];exact aG rfl
   refine (aG (r:=b) ?_).trans (by simp)
   have e:uH (0,[0,b],2,1)=(bif b !=0 then adX (.done b) else adX (.next (0,[0,b],2,aa .i64 (1+1)))):=rfl;rw [e,cO h2];rfl
 refine (aG (r:=a) ?_).trans (by simp [h1])
 have e:uH (0,[a,b],rc [a,b].length,0)=(bif a !=0 then adX (.done a) else adX (.next (0,[a,b],rc [a,b].length,aa .i64 (0+1)))):=rfl;rw [e,cO h1];rfl
theorem UW {p q:Pt} {t:Int×Int} (hp:ff p) (hq:ff q) (ht:jf t):w9 (p.2.1-q.2.1)/\w9 (p.2.2-q.2.2)/\ -170141183460469231731687303715884105728<=xH p q t/\xH p q t<170141183460469231731687303715884105728:=by
 obtain ⟨a1,a2,a3,a4,a5,a6⟩:=hp;obtain ⟨b1,b2,b3,b4,b5,b6⟩:=hq;have h1:w9 (p.2.1-q.2.1):=by constructor<;>omega
 have h2:w9 (p.2.2-q.2.2):=by constructor<;>omega
 refine ⟨h1,h2,?_⟩;have k: ∀{x y:Int},-2097152<=x/\x<=2097152->w9 y-> -19342813113834066795298816<=x*y/\x*y<=19342813113834066795298816:=by
  intro x y hx hy;have:((x*y).natAbs:Int)<=2097152*9223372036854775808:=by rw [<- Ci];exact acp (by omega) (zC hy) (by omega) (by decide)
  omega
 have k1:=k (x:=p.2.1-q.2.1) (by omega) ht.2;have k2:=k (x:=p.2.2-q.2.2) (by omega) ht.1;unfold xH;omega
theorem ur {p q:Pt} {t:Int×Int} (hp:ff p) (hq:ff q) (ht:jf t):lH p q t=adX (Oh p q t):=by
 obtain ⟨g1,g2,g3⟩:=UW hp hq ht;unfold lH;rw [nJ g1,nJ g2,HM g1 ht.2 g2 ht.1 g3];simp only [ao,An,iE,zD];rw [show (p.2.1-q.2.1)*t.2+(p.2.2-q.2.2)*t.1=xH p q t from rfl];unfold Oh;generalize xH p q t=n at*
 by_cases h1:n<0
 · have e1:(n / 18446744073709551616==0)=ael:=by simp;omega
   have e2:aen (n / 18446744073709551616<0)=aec:=by simp;omega
   rw [ls h1];simp [e1,e2]
 by_cases h2:0<n
 · have e1:((n / 18446744073709551616==0)&&(n%18446744073709551616==0))=ael:=by simp;omega
   have e2:aen (n / 18446744073709551616<0)=ael:=by simp;omega
   rw [lw h1,ls h2];simp only [e1,e2,AC,lc,lm]
 have:n=0:=by omega
 subst this;rw [lw h1,lw h2];unfold iO
 by_cases h3:p.2.2<q.2.2
 · simp [h3]
 by_cases h4:q.2.2<p.2.2
 · simp [h3,h4]
 simp [h3,h4]
theorem abH {x y:Int} (hx: -85070591730234615865843651857942052864<=x/\x<=85070591730234615865843651857942052864) (hy: -85070591730234615865843651857942052864<=y/\y<=85070591730234615865843651857942052864):
 wR (aen (x<0),(x.natAbs:Int) / 18446744073709551616,(x.natAbs:Int)%18446744073709551616) (aen (y<0),(y.natAbs:Int) / 18446744073709551616,(y.natAbs:Int)%18446744073709551616)=
  adX (aen (x+y<0),((x+y).natAbs:Int) / 18446744073709551616,((x+y).natAbs:Int)%18446744073709551616):=by
 have n1:(x.natAbs:Int)<=85070591730234615865843651857942052864:=by omega
 have n2:(y.natAbs:Int)<=85070591730234615865843651857942052864:=by omega
 unfold wR;rw [J0 _ _ (uq _ (by omega) n1) (uq _ (by omega) n2)];have ex:((x.natAbs:Int) / 18446744073709551616)*18446744073709551616+(x.natAbs:Int)%18446744073709551616=(x.natAbs:Int):=by omega
 have ey:((y.natAbs:Int) / 18446744073709551616)*18446744073709551616+(y.natAbs:Int)%18446744073709551616=(y.natAbs:Int):=by omega
 simp only [ex,ey,ao];have same: ∀{X Y Z:Int},0<=X->0<=Y->X<=85070591730234615865843651857942052864->Y<=85070591730234615865843651857942052864->Z=X+Y-> ∀b:Bool,
  (bif aen (aa .u64 (X%18446744073709551616+Y%18446744073709551616)<X%18446744073709551616) then adX (b,aa .u64 (aa .u64 (X / 18446744073709551616+Y / 18446744073709551616)+1),aa .u64 (X%18446744073709551616+Y%18446744073709551616))
   else adX (b,aa .u64 (X / 18446744073709551616+Y / 18446744073709551616),aa .u64 (X%18446744073709551616+Y%18446744073709551616)))=adX (b,Z / 18446744073709551616,Z%18446744073709551616):=by
  intro X Y Z h1 h2 h3 h4 h5 b;subst h5;simp only [wu]
  by_cases h:(X%18446744073709551616+Y%18446744073709551616)%18446744073709551616<X%18446744073709551616
  · simp only [h,decide_true,lc,v6,UV,true_and];constructor<;>omega
  simp only [h,decide_false,lm,v6,UV,true_and];constructor<;>omega
 have minus: ∀{X Y Z:Int} (b c:Bool),0<=X->0<=Y->X<=85070591730234615865843651857942052864->Y<=X->Z=X-Y->qJ (b,X / 18446744073709551616,X%18446744073709551616) (c,Y / 18446744073709551616,Y%18446744073709551616)=adX (ael,Z / 18446744073709551616,Z%18446744073709551616):=by
  intro X Y Z b c h1 h2 h3 h4 h5;subst h5;unfold qJ;simp only [wu]
  by_cases h:X%18446744073709551616<Y%18446744073709551616
  · simp only [h,decide_true,lc,v6,UV,true_and];constructor<;>omega
  simp only [h,decide_false,lm,v6,UV,true_and];constructor<;>omega
 by_cases h1:x<0<;>by_cases h2:y<0
 · have h3:x+y<0:=by omega
   simp only [h1,h2,h3,decide_true,beq_self_eq_true,lc];exact same (by omega) (by omega) n1 n2 (by omega) aec
 · simp only [h1,h2,decide_true,decide_false,show (aec==ael)=ael from rfl,lm,lc]
   by_cases h3:(y.natAbs:Int)<=(x.natAbs:Int)
   · have e:aen (0<=iO (x.natAbs:Int) (y.natAbs:Int))=aec:=by
      rcases c6 (x.natAbs:Int) (y.natAbs:Int) with ⟨h,e⟩|⟨h,e⟩|⟨h,e⟩<;>rw [e]<;>first|rfl|omega
     rw [e,minus (Z:=((x+y).natAbs:Int)) _ _ (by omega) (by omega) n1 h3 (by omega)];simp only [lc,ao]
     by_cases h4:x+y=0
     · rw [h4];rfl
     have h5:x+y<0:=by omega
     by_cases h6:0<((x+y).natAbs:Int) / 18446744073709551616
     · simp [h5,h6]
     have h7:0<((x+y).natAbs:Int)%18446744073709551616:=by omega
     simp only [h5,h6,h7,decide_true,decide_false,lm]
   have e:aen (0<=iO (x.natAbs:Int) (y.natAbs:Int))=ael:=by
    rcases c6 (x.natAbs:Int) (y.natAbs:Int) with ⟨h,e⟩|⟨h,e⟩|⟨h,e⟩<;>rw [e]<;>first|rfl|omega
   rw [e,minus (Z:=((x+y).natAbs:Int)) _ _ (by omega) (by omega) n2 (by omega) (by omega)];have h5: ¬(x+y<0):=by omega
   simp [h5]
 · simp only [h1,h2,decide_true,decide_false,show (ael==aec)=ael from rfl,lm]
   by_cases h3:(y.natAbs:Int)<=(x.natAbs:Int)
   · have e:aen (0<=iO (x.natAbs:Int) (y.natAbs:Int))=aec:=by
      rcases c6 (x.natAbs:Int) (y.natAbs:Int) with ⟨h,e⟩|⟨h,e⟩|⟨h,e⟩<;>rw [e]<;>first|rfl|omega
     rw [e,minus (Z:=((x+y).natAbs:Int)) _ _ (by omega) (by omega) n1 h3 (by omega)];have h5: ¬(x+y<0):=by omega
     simp [h5]
   have e:aen (0<=iO (x.natAbs:Int) (y.natAbs:Int))=ael:=by
    rcases c6 (x.natAbs:Int) (y.natAbs:Int) with ⟨h,e⟩|⟨h,e⟩|⟨h,e⟩<;>rw [e]<;>first|rfl|omega
   rw [e,minus (Z:=((x+y).natAbs:Int)) _ _ (by omega) (by omega) n2 (by omega) (by omega)];have h5:x+y<0:=by omega
   simp [h5]
 have h3: ¬(x+y<0):=by omega
 simp only [h1,h2,h3,decide_false,beq_self_eq_true,lc];exact same (by omega) (by omega) n1 n2 (by omega) ael
theorem aiZ {p q:Pt} {t:Int×Int} (hp:ff p) (hq:ff q) (ht:jf t):zx p q t=adX (iO (xH p q t) 0):=by
 obtain ⟨g1,g2,g3⟩:=UW hp hq ht;unfold zx;rw [nJ g1,nJ g2,xa g1 ht.2,xa g2 ht.1];simp only [ao];rw [abH (vH g1 ht.2) (vH g2 ht.1)];simp only [ao];rw [show (p.2.1-q.2.1)*t.2+(p.2.2-q.2.2)*t.1=xH p q t from rfl];obtain ⟨a1,a2,a3,a4,a5,a6⟩:=hp;obtain ⟨b1,b2,b3,b4,b5,b6⟩:=hq;have k: ∀{x y:Int},-2097152<=x/\x<=2097152->w9 y-> -19342813113834066795298816<=x*y/\x*y<=19342813113834066795298816:=by
  intro x y hx hy;have:((x*y).natAbs:Int)<=2097152*9223372036854775808:=by rw [<- Ci];exact acp (by omega) (zC hy) (by omega) (by decide)
  omega
 have k1:=k (x:=p.2.1-q.2.1) (by omega) ht.2;have k2:=k (x:=p.2.2-q.2.2) (by omega) ht.1;have:((xH p q t).natAbs:Int)<=85070591730234615865843651857942052864:=by unfold xH;omega
 rw [J1 this];rfl
theorem GA {p q:Pt} {t:Int×Int} (hp:ff p) (hq:ff q) (ht:jf t):nI p q t=adX (aen (leads p q t)):=by
 unfold nI leads;rw [aiZ hp hq ht];simp only [ao];rcases c6 (xH p q t) 0 with ⟨h,e⟩|⟨h,e⟩|⟨h,e⟩<;>rw [e]
 · have h1: ¬(0<xH p q t):=by omega
   have h2: ¬(xH p q t=0):=by omega
   simp [h1,h2]
 · rw [h]
   by_cases h3:p.2.2=q.2.2
   · simp [h3]
   simp [h3,cO h3]
 simp [h]
theorem qg {p q:Pt} {t:Int×Int} (ht:jf t):ph p q t=adX (if ff p/\ff q/\aX t then (if p.1=q.1 then 2 else 0) else 8):=by
 unfold ph;simp only [xG,dz ht,ao]
 by_cases h4:p.1=q.1
 · by_cases h1:ff p<;>by_cases h2:ff q<;>by_cases h3:aX t<;>simp [h1,h2,h3,h4]
 have h5:=dE h4
 by_cases h1:ff p<;>by_cases h2:ff q<;>by_cases h3:aX t<;>simp [h1,h2,h3,h4,h5]
theorem P2 {n d:Int} (hn:w9 n) (hd:w9 d):wM n d=lL n d:=by
 unfold wM lL
 by_cases h0:d=0
 · subst h0;rfl
 have e0:(d==0)=ael:=by simpa using h0
 simp only [e0,lm,oJ hn,oJ hd,jo hn,jo hd,ao,Am,pG];have hp:0<ww n.natAbs d.natAbs:=acy _ (by omega);have e1:((ww n.natAbs d.natAbs:Int)==0)=ael:=by simp;omega
 simp only [e1,lm];unfold yG py;simp only [show aen ((0:Int)<0)=ael from rfl,lm]
 by_cases h3:n=0
 · subst h3
   have z: ∀k:Int,aa .u64 (NE (((0:Int).natAbs:Nat):Int) k)=0:=fun k=>by rw [show (((0:Int).natAbs:Nat):Int)=0 from rfl,Int.zero_tdiv];rfl
   have z2:aa .i64 0=0:=rfl;have z3:aa .i64 (0-0)=0:=rfl;simp only [z,z2,z3,show ((0:Int) !=0)=ael from rfl,lm,show aen ((0:Int)<0)=ael from rfl];cases (!(ael==aen (d<0)))<;>simp
 simp only [cO h3]
 cases (!(aen (n<0)==aen (d<0)))<;>rfl
noncomputable def met (p q:Pt):Int×Int:=((lL (p.2.1-q.2.1) (q.2.2-p.2.2)).getD ((0,0),0)).1
theorem Oi {n d:Int} (hn: -2097152<=n/\n<=2097152) (hd: -2097152<=d/\d<=2097152) (h0:d≠0): ∃r,lL n d=adX (r,0)/\aX r/\jf r/\r.1*d=n*r.2:=by
 have hn':w9 n:=by constructor<;>omega
 have hd':w9 d:=by constructor<;>omega
 unfold lL;have e0:(d==0)=ael:=by simpa using h0
 have hp:0<ww n.natAbs d.natAbs:=acy _ (by omega);have e1:((ww n.natAbs d.natAbs:Int)==0)=ael:=by simp;omega
 simp only [e0,lm,jo hn',jo hd',ao,pG,e1];have q1:NE (n.natAbs:Int) (ww n.natAbs d.natAbs:Int)=((n.natAbs / ww n.natAbs d.natAbs:Nat):Int):=by rw [adu]
 have q2:NE (d.natAbs:Int) (ww n.natAbs d.natAbs:Int)=((d.natAbs / ww n.natAbs d.natAbs:Nat):Int):=by rw [adu]
 rw [q1,q2];have l1:n.natAbs / ww n.natAbs d.natAbs<=2097152:=adK (adm _ _) (by omega);have l2:d.natAbs / ww n.natAbs d.natAbs<=2097152:=adK (adm _ _) (by omega);have l3:1<=d.natAbs / ww n.natAbs d.natAbs:=Nat.div_pos (Nat.le_of_dvd (by omega) (acv _ _)) hp;have co:ww (d.natAbs / ww n.natAbs d.natAbs) (n.natAbs / ww n.natAbs d.natAbs)=1:=by rw [acf,Nat.gcd_div (ada _ _) (acv _ _)];exact Nat.div_self hp
 have v1:n.natAbs=ww n.natAbs d.natAbs*(n.natAbs / ww n.natAbs d.natAbs):=(acX (ada _ _)).symm;have v2:d.natAbs=ww n.natAbs d.natAbs*(d.natAbs / ww n.natAbs d.natAbs):=(acX (acv _ _)).symm;have val:(n.natAbs:Int)*((d.natAbs / ww n.natAbs d.natAbs:Nat):Int)=(d.natAbs:Int)*((n.natAbs / ww n.natAbs d.natAbs:Nat):Int):=by
  generalize n.natAbs / ww n.natAbs d.natAbs=a at*;generalize d.natAbs / ww n.natAbs d.natAbs=b at*;generalize ww n.natAbs d.natAbs=g at*;rw [v1,v2,adr,adr,ady,ady,acl (a:Int) (b:Int)]
 clear v1 v2;generalize n.natAbs / ww n.natAbs d.natAbs=a at*;generalize d.natAbs / ww n.natAbs d.natAbs=b at*;have w1:aa .u64 (a:Int)=a:=by rw [wu];omega
 have w2:aa .u64 (b:Int)=b:=by rw [wu];omega
 have made: ∀s:Bool,py s (ael,0,(a:Int)) (ael,0,(b:Int))=adX ((if s=aec then -(a:Int) else a,(b:Int)),0):=by
  intro s;unfold py;have d1:aen (9223372036854775807<(a:Int))=ael:=by simp;omega
  have d2:aen (9223372036854775807<(b:Int))=ael:=by simp;omega
  have v1:aa .i64 (a:Int)=a:=by rw [wi];omega
  have v2:aa .i64 (b:Int)=b:=by rw [wi];omega
  have v3:aa .i64 (0- (a:Int))= -(a:Int):=by rw [wi];omega
  simp only [show aen ((0:Int)<0)=ael from rfl,lm,d1,d2,v1,v2,v3];cases s<;>simp
 have fin: ∀s:Bool,(if s=aec then -(a:Int) else a)*d=n*b-> ∃r,(adX ((if s=aec then -(a:Int) else a,(b:Int)),(0:Int)):Option ((Int×Int)×Int))=adX (r,0)/\aX r/\jf r/\r.1*d=n*r.2:=by
  intro s hv;refine ⟨_,rfl,?_,?_,hv⟩
  · unfold aX
    dsimp only;refine ⟨by omega,?_,?_⟩
    · cases s
      · simp only [ad7,if_false];omega
      simp only [if_true];omega
    rw [show (if s=aec then -(a:Int) else (a:Int)).natAbs=a by cases s<;>simp,show ((b:Int)).natAbs=b by omega];exact co
  constructor
  · dsimp only;cases s
    · simp only [ad7,if_false];constructor<;>omega
    simp only [if_true];constructor<;>omega
  dsimp only;constructor<;>omega
 simp only [w1,w2,made,ao]
 by_cases h1:(!(aen (n<0)==aen (d<0)))=aec
 · rw [h1]
   refine fin (n !=0) ?_
   by_cases R9:n=0
   · subst R9
     have a0:(a:Int)=0:=by
      have:((d.natAbs:Nat):Int)*(a:Int)=0:=by rw [<- val];simp
      rcases Int.mul_eq_zero.1 this with h|h
      · omega
      exact h
     simp [a0]
   have e:(n !=0)=aec:=by simpa using R9
   rw [e,ls rfl]
   by_cases UX:n<0
   · have hd0: ¬d<0:=fun k=>by simp [UX,k] at h1
     have x1:(n.natAbs:Int)= -n:=by omega
     have x2:(d.natAbs:Int)=d:=by omega
     rw [x1,x2,ach] at val;rw [ach,acl];omega
   have hd0:d<0:=by
    by_cases k:d<0
    · exact k
    simp [UX,k] at h1
   have x1:(n.natAbs:Int)=n:=by omega
   have x2:(d.natAbs:Int)= -d:=by omega
   rw [x1,x2,ach] at val;rw [ach,acl];omega
 rw [acA] at h1;rw [h1]
 refine fin ael ?_;rw [lw (by simp)]
 by_cases UX:n<0
 · have hd0:d<0:=by
    by_cases k:d<0
    · exact k
    simp [UX,k] at h1
   have x1:(n.natAbs:Int)= -n:=by omega
   have x2:(d.natAbs:Int)= -d:=by omega
   rw [x1,x2,ach,ach] at val;rw [acl];omega
 have hd0: ¬d<0:=fun k=>by simp [UX,k] at h1
 have x1:(n.natAbs:Int)=n:=by omega
 have x2:(d.natAbs:Int)=d:=by omega
 rw [x1,x2] at val;rw [acl];omega
theorem uP {p q:Pt} (hp:ff p) (hq:ff q) (h:p.2.2≠q.2.2):lL (p.2.1-q.2.1) (q.2.2-p.2.2)=adX (met p q,0)/\aX (met p q)/\jf (met p q)/\(met p q).1*(q.2.2-p.2.2)=(p.2.1-q.2.1)*(met p q).2:=by
 obtain ⟨a1,a2,a3,a4,a5,a6⟩:=hp;obtain ⟨b1,b2,b3,b4,b5,b6⟩:=hq;obtain ⟨r,h1,h2,h3⟩:=Oi (n:=p.2.1-q.2.1) (d:=q.2.2-p.2.2) (by omega) (by omega) (by omega);have:met p q=r:=by unfold met;rw [h1];rfl
 rw [this];exact ⟨h1,h2,h3⟩
theorem Du {p q:Pt} (hp:ff p) (hq:ff q):aa .i64 (p.2.1-q.2.1)=p.2.1-q.2.1/\aa .i64 (q.2.2-p.2.2)=q.2.2-p.2.2/\w9 (p.2.1-q.2.1)/\w9 (q.2.2-p.2.2):=by
 obtain ⟨a1,a2,a3,a4,a5,a6⟩:=hp;obtain ⟨b1,b2,b3,b4,b5,b6⟩:=hq;have h1:w9 (p.2.1-q.2.1):=by constructor<;>omega
 have h2:w9 (q.2.2-p.2.2):=by constructor<;>omega
 exact ⟨nJ h1,nJ h2,h1,h2⟩
noncomputable def jO (h l:Pt) (t:Int×Int):(Int×Int)×Bool:=if leads l h t then (t,aec) else if h.2.2<l.2.2 then (met h l,aec) else ((0,0),ael)
theorem ai0 {p q:Pt} (hp:ff p) (hq:ff q) (h:p.2.2≠q.2.2):zy p q=adX (met p q):=by obtain ⟨w1,w2,_,_⟩:=Du hp hq;unfold zy;rw [w1,w2,(uP hp hq h).1];rfl
theorem Oj {h l:Pt} {t:Int×Int} (hh:ff h) (hl:ff l) (ht:jf t):p7 h l t=adX (jO h l t):=by
 unfold p7 jO;rw [GA hl hh ht];simp only [ao]
 by_cases h1:leads l h t
 · simp [h1]
 simp only [h1,decide_false,lm,if_false]
 by_cases h2:h.2.2<l.2.2
 · simp [h2,ai0 hh hl (by omega)]
 simp [h2]
theorem L7:aX (0,1):=by unfold aX;decide
theorem EB {h l:Pt} {t:Int×Int} (ht:jf t):
 rS h l t=adX (if ff h/\ff l/\aX t/\h.1≠l.1 then ((jO h l t).1,(jO h l t).2,0) else ((0,0),ael,if ff h/\ff l/\aX t then 2 else 8)):=by
 unfold rS;rw [qg ht]
 by_cases h1:ff h/\ff l/\aX t
 · rw [ls h1]
   by_cases h2:h.1=l.1
   · simp [h1,h2]
   obtain ⟨hh,hl,hr⟩:=h1
   rw [lw h2,ls ⟨hh,hl,hr,h2⟩];simp only [ao,show ((0:Int) !=0)=ael from rfl,lm,ur hl hh ht];unfold jO
   by_cases h3:leads l h t
   · have:aen (0<Oh l h t)=aec:=by simpa using (Gz l h t).2 h3
     rw [this];simp [h3]
   have:aen (0<Oh l h t)=ael:=decide_eq_false fun k=>h3 ((Gz l h t).1 k)
   rw [this,lw h3];simp only [lm]
   by_cases h4:h.2.2<l.2.2
   · have e:aen (l.2.2<=h.2.2)=ael:=by simp;omega
     rw [e,ls h4];unfold eC;obtain ⟨w1,w2,i1,i2⟩:=Du hh hl;have e2:(h.2.2==l.2.2)=ael:=by simp;omega
     rw [qg (by constructor<;>constructor<;>decide),ls ⟨hh,hl,L7⟩,lw h2];simp only [ao,show ((0:Int) !=0)=ael from rfl,lm,e2,w1,w2,P2 i1 i2,(uP hh hl (by omega)).1];rfl
   have e:aen (l.2.2<=h.2.2)=aec:=by simp;omega
   rw [e,lw h4];rfl
 rw [lw h1,lw (fun h=>h1 ⟨h.1,h.2.1,h.2.2.1⟩),lw h1];rfl
theorem Cj {h l:Pt} {t:Int×Int} (hh:ff h) (hl:ff l) (ht:jf t) (hr:aX t) (h2:(jO h l t).2=aec):aX (jO h l t).1/\jf (jO h l t).1:=by
 unfold jO at*
 by_cases h3:leads l h t
 · rw [ls h3];exact ⟨hr,ht⟩
 rw [lw h3] at h2 ⊢
 by_cases h4:h.2.2<l.2.2
 · rw [ls h4];have:=(uP hh hl (by omega)).2;exact ⟨this.1,this.2.1⟩
 rw [lw h4] at h2;cases h2
theorem Ol: ∀(n:Nat) (l:List Nat),l.Nodup->(∀x∈l,x<n)->adQ l<=n
 |0,l,_,h=>by
  cases l with
  |nil=>simp
  |cons a l=>exact absurd (h a (by simp)) (by omega)
 |n+1,l,hd,h=>by
  have h1:=Ol n (l.filter (fun x=>x≠n)) (hd.filter _) (by
   intro x hx;rw [ads] at hx;have:=h x hx.1;have h2:x≠n:=by simpa using hx.2
   omega)
  have h2:(adQ l)<=(l.filter (fun x=>x≠n)).length+1:=by
   clear h1 h
   induction l with
   |nil=>simp
   |cons a l ih=>
    rw [aci] at hd;have:=ih hd.2
    by_cases ha:a=n
    · subst ha
      have e:l.filter (fun x=>decide (x≠a))=l:=by rw [List.filter_eq_self];intro x hx;simp only [ne_eq,decide_eq_true_eq];rintro rfl;exact hd.1 hx
      rw [List.filter_cons_of_neg (by simp),e];simp
    rw [List.filter_cons_of_pos (by simpa using ha)]
    simp only [adc];omega
  omega
theorem D' {n:Nat} {l:List Nat} (hd:l.Nodup) (h: ∀x∈l,x<n) (hn:n<=adQ l): ∀x,x<n->x∈l:=by
 intro x hx;refine If fun hc=>?_
 have:=Ol n (x::l) (by rw [aci];exact ⟨hc,hd⟩) (by
  intro y hy;rcases adE.1 hy with rfl|hy
  · exact hx
  exact h y hy)
 simp only [adc] at this;omega
def iQ (l:List Pt):Prop:= ∀i,i+1<adQ l->(l[i]!).1<(l[i+1]!).1
def bM (l:List Pt):Prop:=adQ l<=64/\(∀p∈l,ff p)/\iQ l
noncomputable def s5 (l:List Pt):Int:=if 64<(adQ l) then 4 else if¬(∀p∈l,ff p) then 8 else if¬iQ l then 32 else 0
theorem j0 {l:List Pt}:s5 l=0↔bM l:=by
 unfold s5 bM
 by_cases h1:64<adQ l
 · rw [ls h1];simp;omega
 rw [lw h1]
 by_cases h2: ∀p∈l,ff p
 · rw [lw (sp.2 h2)]
   by_cases h3:iQ l
   · rw [lw (sp.2 h3)]
     exact ⟨fun _=>⟨by omega,h2,h3⟩,fun _=>rfl⟩
   rw [ls h3]
   exact ⟨fun h=>(by cases h),fun h=>absurd h.2.2 h3⟩
 rw [ls h2]
 constructor
 · intro h;cases h
 intro h;exact absurd h.2.1 h2
theorem aQ {n:Nat} (h:n<1000000000):aa .i64 ((n:Int)+1)=((n+1:Nat):Int):=by rw [wi];omega
theorem mU {n:Nat} (h:n<1000000000) (h1:1<=n):aa .i64 ((n:Int) -1)=((n-1:Nat):Int):=by rw [wi];omega
theorem ay (n:Nat):rc n=(n:Int):=rfl
theorem L8 (l:List Pt) (h:(adQ l)<=64):aB iB (1,l)=adX (.done (if iQ l then 0 else 32)):=by
 by_cases hl:(adQ l)<=1
 · have:iQ l:=fun i hi=>by omega
   rw [ls this];refine aG ?_;unfold iB;rw [ay];have:aen ((1:Int)<((adQ l):Int))=ael:=by simp;omega
   simp [this]
 have key:=c7 (body:=iB) (fun i=>(((i+1:Nat):Int),l)) (adQ l-1) (fun i=>(l[i+1]!).1<=(l[i]!).1) (r:= .done 32) (e:= .done 0) (by
  intro i hi;have e1:aen (((i+1:Nat):Int)<((adQ l):Int))=aec:=by simp;omega
  have e2:aa .i64 (((i+1:Nat):Int) -1)=(i:Int):=by rw [wi];omega
  have hb:iB (((i+1:Nat):Int),l)=bif aen ((l[i+1]!).1<=(l[i]!).1) then adX (.done (.done 32)) else adX (.next (((i+1+1:Nat):Int),l)):=by unfold iB;simp only [ay,e1,lc,e2,aq l i (by omega),aq l (i+1) (by omega),ao,aQ (show i+1<1000000000 by omega)]
  constructor
  · intro hc;rw [hb,decide_eq_true hc];rfl
  · intro hc;rw [hb,decide_eq_false hc];rfl) (by
  unfold iB;have:aen (((adQ l-1+1:Nat):Int)<rc (adQ l))=ael:=by rw [ay];simp;omega
  simp only [this,lm])
 by_cases hs:iQ l
 · rw [ls hs]
   refine key.2 fun i hi=>?_
   have:=hs i (by omega);omega
 rw [lw hs]
 refine key.1 ?_;unfold iQ at hs;simp only [Do] at hs;obtain ⟨i,hi,h2⟩:=hs;exact ⟨i,by omega,by omega⟩
theorem GB (f:Field):tX f=adX (s5 f.am):=by
 unfold tX s5;rw [ay]
 by_cases h:64<adQ f.am
 · have:aen ((64:Int)<((adQ f.am):Int))=aec:=by simp;omega
   rw [this,ls h];rfl
 have:aen ((64:Int)<((adQ f.am):Int))=ael:=by simp;omega
 rw [this,lw h];simp only [lm];generalize f.am=l at*;have key:=c7 (body:=lK) (fun i=>((i:Int),l)) (adQ l) (fun i=> ¬ff l[i]!) (r:=8) (e:=if iQ l then 0 else 32) (by
  intro i hi;have e1:aen ((i:Int)<((adQ l):Int))=aec:=by simp;omega
  have hb:lK ((i:Int),l)=bif (if ff l[i]! then (0:Int) else 8) !=0 then adX (.done 8) else adX (.next (((i+1:Nat):Int),l)):=by unfold lK;simp only [ay,e1,lc,aq l i (by omega),ao,Gy,aQ (show i<1000000000 by omega)]
  constructor
  · intro hc;rw [hb,lw hc];rfl
  · intro hc;rw [hb,ls (sp.1 hc)];rfl) (by
  unfold lK;have:aen (((adQ l):Int)<rc (adQ l))=ael:=by rw [ay];simp
  simp only [this,lm];exact L8 l (by omega))
 by_cases hp: ∀p∈l,ff p
 · rw [lw (sp.2 hp)]
   refine (key.2 fun i hi=>?_).trans ?_
   · exact sp.2 (hp _ (aV hi))
   by_cases hs:iQ l
   · simp [hs]
   simp [hs]
 rw [ls hp]
 refine key.1 ?_;obtain ⟨p,hp⟩:=Do.1 hp;obtain ⟨hm,h2⟩:=acg.1 hp;obtain ⟨i,hi,rfl⟩:=aP.1 hm;exact ⟨i,hi,h2⟩
theorem L9 (l:List Pt) (h:(adQ l)<=64):aB iz (l,((adQ l):Int),0,l)=adX (.done (if iQ l then 0 else 32)):=by
 have key:=c7 (body:=iz) (fun i=>(l,((adQ l):Int),(i:Int),l)) (adQ l) (fun i=>0<i/\(l[i]!).1<=(l[i-1]!).1) (r:= .done 32) (e:= .done 0) (by
  intro i hi;have e1:aen ((i:Int)<((adQ l):Int))=aec:=by simp;omega
  by_cases h0:0<i
  · have e3:aen ((0:Int)<(i:Int))=aec:=by simp;omega
    have hb:iz (l,((adQ l):Int),(i:Int),l)=bif aen ((l[i]!).1<=(l[i-1]!).1) then adX (.done (.done 32)) else adX (.next (l,((adQ l):Int),((i+1:Nat):Int),l)):=by unfold iz;simp only [e1,e3,lc,aq l i (by omega),mU (show i<1000000000 by omega) h0,aq l (i-1) (by omega),ao,aQ (show i<1000000000 by omega)]
    constructor
    · intro hc;rw [hb,decide_eq_true hc.2];rfl
    intro hc
    have: ¬(l[i]!).1<=(l[i-1]!).1:=fun h=>hc ⟨h0,h⟩
    rw [hb,decide_eq_false this];rfl
  · have e3:aen ((0:Int)<(i:Int))=ael:=by simp;omega
    constructor
    · intro hc;exact absurd hc.1 h0
    intro _
    unfold iz;simp only [e1,e3,lc,lm,aq l i (by omega),ao,aQ (show i<1000000000 by omega)]) (by
  unfold iz;have:aen (((adQ l):Int)<((adQ l):Int))=ael:=by simp
  simp only [this,lm])
 by_cases hs:iQ l
 · rw [ls hs]
   refine key.2 fun i hi=>?_
   rintro ⟨h0,h1⟩;have:=hs (i-1) (by omega);rw [show i-1+1=i by omega] at this;omega
 rw [lw hs]
 refine key.1 ?_;unfold iQ at hs;simp only [Do] at hs;obtain ⟨i,hi,h2⟩:=hs;exact ⟨i+1,by omega,by omega,by rw [show i+1-1=i by omega];omega⟩
theorem jP (f:Field):eD f=adX (s5 f.am):=by
 unfold eD s5;rw [ay]
 by_cases h:64<adQ f.am
 · have:aen ((64:Int)<((adQ f.am):Int))=aec:=by simp;omega
   rw [this,ls h];rfl
 have:aen ((64:Int)<((adQ f.am):Int))=ael:=by simp;omega
 rw [this,lw h];simp only [lm];generalize f.am=l at*;have key:=c7 (body:=lG) (fun i=>(l,((adQ l):Int),(i:Int),l)) (adQ l) (fun i=> ¬ff l[i]!) (r:=8) (e:=if iQ l then 0 else 32) (by
  intro i hi;have e1:aen ((i:Int)<((adQ l):Int))=aec:=by simp;omega
  have hb:lG (l,((adQ l):Int),(i:Int),l)=bif (if ff l[i]! then (0:Int) else 8) !=0 then adX (.done (if ff l[i]! then (0:Int) else 8)) else adX (.next (l,((adQ l):Int),((i+1:Nat):Int),l)):=by unfold lG;simp only [e1,lc,aq l i (by omega),ao,xG,aQ (show i<1000000000 by omega)]
  constructor
  · intro hc;rw [hb,lw hc];rfl
  · intro hc;rw [hb,ls (sp.1 hc)];rfl) (by
  unfold lG;have:aen (((adQ l):Int)<((adQ l):Int))=ael:=by simp
  simp only [this,lm];exact L9 l (by omega))
 by_cases hp: ∀p∈l,ff p
 · rw [lw (sp.2 hp)]
   refine (key.2 fun i hi=>?_).trans ?_
   · exact sp.2 (hp _ (aV hi))
   by_cases hs:iQ l
   · simp [hs]
   simp [hs]
 rw [ls hp]
 refine key.1 ?_;obtain ⟨p,hp⟩:=Do.1 hp;obtain ⟨hm,h2⟩:=acg.1 hp;obtain ⟨i,hi,rfl⟩:=aP.1 hm;exact ⟨i,hi,h2⟩
theorem nK {l:List Pt} (h:iQ l) {i j:Nat} (lS:i<j) (hj:j<adQ l):(l[i]!).1<(l[j]!).1:=by
 induction j with
 |zero=>omega
 |succ j ih=>
  have h1:=h j hj
  by_cases he:i=j
  · subst he;exact h1
  have:=ih (by omega) (by omega);omega
theorem Om {l:List Pt} (h:iQ l) {i j:Nat} (hi:i<adQ l) (hj:j<adQ l) (he:(l[i]!).1=(l[j]!).1):i=j:=by
 rcases Nat.lt_trichotomy i j with h1|h1|h1
 · have:=nK h h1 hj;omega
 · exact h1
 have:=nK h h1 hi;omega
theorem Ea (l:List Pt) (id:Int) (hl:(adQ l)<=1000000):(∀k,k<adQ l->(l[k]!).1=id->(∀j,j<k->(l[j]!).1≠id)->ga ⟨l⟩ id=adX (k:Int))/\((∀k,k<adQ l->(l[k]!).1≠id)->ga ⟨l⟩ id=adX (-1)):=by
 unfold ga;refine jZ (body:=qH) (fun i=>(id,(i:Int),l)) (adQ l) (fun i=>(l[i]!).1=id) (fun i=>(i:Int)) (fun i hi=>?_) ?_
 · have e1:aen ((i:Int)<((adQ l):Int))=aec:=by simp;omega
   have hb:qH (id,(i:Int),l)=bif (l[i]!).1==id then adX (.done (i:Int)) else adX (.next (id,((i+1:Nat):Int),l)):=by unfold qH;simp only [ay,e1,lc,aq l i hi,ao,aQ (show i<1000000000 by omega)]
   constructor
   · intro hc;rw [hb,dy hc];rfl
   intro hc;rw [hb,dE hc];rfl
 unfold qH
 have:aen (((adQ l):Int)<((adQ l):Int))=ael:=by simp
 simp only [ay,this,lm]
theorem RD {l:List Pt} (hs:iQ l) (hl:(adQ l)<=1000000) {k:Nat} (hk:k<adQ l) {id:Int} (he:(l[k]!).1=id):ga ⟨l⟩ id=adX (k:Int):=by
 refine (Ea l id hl).1 k hk he fun j hj hc=>?_
 have:=nK hs hj hk;omega
theorem abI {l:List Pt} (hl:(adQ l)<=1000000) {id:Int} (h: ∀k,k<adQ l->(l[k]!).1≠id):ga ⟨l⟩ id=adX (-1):=(Ea l id hl).2 h
theorem L' (f:Nat->Int) (id:Int): ∀(n:Nat),(∀i j,i<j->j<n->f i<f j)-> ∃m,m<=n/\(∀i,i<m->f i<id)/\(∀i,m<=i->i<n->id<=f i)
 |0,_=>⟨0,acF _,fun i h=>by omega,fun i _ h=>by omega⟩
 |n+1,h=>by
  obtain ⟨m,h1,h2,h3⟩:=L' f id n fun i j a b=>h i j a (by omega)
  by_cases hm:m=n
  · by_cases hf:f n<id
    · refine ⟨n+1,acF _,fun i hi=>?_,fun i a b=>by omega⟩
      by_cases he:i=n
      · subst he;exact hf
      exact h2 i (by omega)
    refine ⟨n,by omega,fun i hi=>h2 i (by omega),fun i a b=>?_⟩
    have:i=n:=by omega
    subst this;omega
  refine ⟨m,by omega,h2,fun i a b=>?_⟩
  by_cases he:i=n
  · subst he
    have:=h m i (by omega) (by omega);have:=h3 m (acF _) (by omega);omega
  exact h3 i a (by omega)
theorem iF {α:Type} [Inhabited α] {l:List α}:l.Nodup↔ ∀i j,i<j->j<adQ l->l[i]!≠l[j]!:=by
 unfold List.Nodup;rw [List.pairwise_iff_getElem];constructor
 · intro h i j lS hj
   rw [getElem!_pos l i (by omega),getElem!_pos l j hj];exact h i j (by omega) hj lS
 intro h i j hi hj lS
 have:=h i j lS hj
 rwa [getElem!_pos l i hi,getElem!_pos l j hj] at this
theorem bS {α:Type} [Inhabited α] {l:List α} {k:Nat} {x:α}:x∈l.take k↔ ∃i,i<k/\i<adQ l/\l[i]! =x:=by
 rw [aP];constructor
 · rintro ⟨i,hi,rfl⟩
   rw [abZ] at hi;exact ⟨i,by omega,by omega,(kN (by omega)).symm⟩
 rintro ⟨i,h1,h2,rfl⟩
 exact ⟨i,by rw [abZ];omega,kN h1⟩
theorem gb {α:Type} [Inhabited α] {l:List α} {k:Nat} (h:k<adQ l):l.take (k+1)=l.take k++[l[k]!]:=by rw [List.take_add_one,acw h,getElem!_pos l k h];rfl
def marks (l:List Bool):List Int->List Bool
 | []=>l
 |x::r=>marks (cp l x aec) r
theorem mh: ∀(r:List Int) (l:List Bool),(marks l r).length=adQ l
 | [],_=>rfl
 |x::r,l=>by rw [marks,mh r,yr]
theorem Bh: ∀(r:List Int) (l:List Bool) (x:Int),marks l (r++[x])=cp (marks l r) x aec
 | [],_,_=>rfl
 |y::r,l,x=>by show marks (cp l y aec) (r++[x])=_;rw [Bh r];rfl
theorem nL : ∀ (r : List Int) (l : List Bool) (i : Nat), (∀ x ∈ r, 0 <= x) -> i < (adQ l) -> (marks l r)[i]! = (l[i]! || aen ((i : Int) ∈ r))
  | [], l, i, _, _ => by simp [marks]
  | x :: r, l, i, h, hi => by
    rw [marks, nL r _ i (fun y hy => h y (by simp [hy])) (by rw [yr]; exact hi)]
    obtain ⟨k, rfl⟩ := ac6 (h x (by simp))
    rw [vG, bj]
    by_cases e : i = k
    · subst e; rw [ls ⟨rfl, hi⟩]; simp
    rw [lw (fun h => e h.1)]
    have : ((i : Int) ∈ (k : Int) :: r) ↔ (i : Int) ∈ r := by
      rw [adE]
      constructor
      · rintro (h | h)
        · omega
        exact h
      exact .inr
    simp only [this]
theorem GC (l:List Bool) (h:(adQ l)<=1000000):dT l ael=adX (aen (ael∈l)):=by
 unfold dT oq;have key:=jZ (body:=fY) (fun i=>(l,ael,((adQ l):Int),(i:Int))) (adQ l) (fun i=>l[i]! =ael) (fun i=>(i:Int)) (e:= -1) (fun i hi=>by
  have e1:aen ((i:Int)<((adQ l):Int))=aec:=by simp;omega
  have hb:fY (l,ael,((adQ l):Int),(i:Int))=bif ael==l[i]! then adX (.done (i:Int)) else adX (.next (l,ael,((adQ l):Int),((i+1:Nat):Int))):=by unfold fY;simp only [e1,lc,aq l i hi,ao,aQ (show i<1000000000 by omega)]
  constructor
  · intro hc;rw [hb,hc];rfl
  · intro hc
    have:l[i]! =aec:=by simpa using hc
    rw [hb,this];rfl) (by
  unfold fY;have:aen (((adQ l):Int)<((adQ l):Int))=ael:=by simp
  simp only [this,lm])
 rw [ay]
 by_cases hx:ael∈l
 · obtain ⟨i,hi,he⟩:=aP.1 hx
   obtain ⟨k,h1,h2,h3⟩:=least (c:=fun i=>l[i]! =ael) ⟨i,hi,he⟩;have:=key.1 k h1 h2 h3;rw [show ((0:Nat):Int)=0 from rfl] at this;rw [this];have e:aen ((0:Int)<=(k:Int))=aec:=by simp
   simp [hx]
 have:=key.2 fun i hi he=>hx (aP.2 ⟨i,hi,he⟩)
 rw [show ((0:Nat):Int)=0 from rfl] at this;rw [this];simp [hx]
structure eE (s:aS):Prop where
 n1:1<=adQ s.az
 n2:(adQ s.az)<=200
 ul:(adQ s.be)=adQ s.az
 fr: ∀x∈s.bi,0<=x/\x<adQ s.az
 fd:s.bi.Nodup
 uf: ∀i,i<adQ s.az->(s.be[i]! =aec↔(i:Int)∉s.bi)
 us: ∀i,i<adQ s.az->0<=s.az[i]!/\s.az[i]!<=1000000/\(s.be[i]! =aec->1<=s.az[i]!)
theorem On (az:List Int) (be:List Bool) (fr:List Int) (h1:(adQ az)<=200) (h2:(adQ be)=adQ az):
 aB fT (az,((adQ az):Int),0,az,be,fr)=adX (.done (if∀i,i<adQ az->0<=az[i]!/\az[i]!<=1000000/\(be[i]! =aec->1<=az[i]!) then 0 else 8)):=by
 have key:=c7 (body:=fT) (fun i=>(az,((adQ az):Int),(i:Int),az,be,fr)) (adQ az) (fun i=> ¬(0<=az[i]!/\az[i]!<=1000000/\(be[i]! =aec->1<=az[i]!))) (r:= .done 8) (e:= .done 0) (fun i hi=>by
  have e1:aen ((i:Int)<((adQ az):Int))=aec:=by simp;omega
  have hb:fT (az,((adQ az):Int),(i:Int),az,be,fr)=bif aen (az[i]!<0) then adX (.done (.done 8)) else bif aen (1000000<az[i]!) then adX (.done (.done 8)) else bif az[i]! ==0 then (bif be[i]! then adX (.done (.done 8)) else adX (.next (az,((adQ az):Int),((i+1:Nat):Int),az,be,fr))) else adX (.next (az,((adQ az):Int),((i+1:Nat):Int),az,be,fr)):=by unfold fT;simp only [e1,lc,aq az i hi,aq be i (by omega),ao,aQ (show i<1000000000 by omega)]
  rw [hb];generalize az[i]! =u at*
  by_cases a1:u<0
  · simp [a1];omega
  · by_cases a2:1000000<u
    · simp [a1,a2];omega
    by_cases a3:u=0
    · subst a3
      cases be[i]!<;>simp
    have a4:1<=u:=by omega
    have a5:0<=u:=by omega
    have a6:u<=1000000:=by omega
    simp [a1,a2,dE a3,a4,a5,a6]) (by
  unfold fT;have:aen (((adQ az):Int)<((adQ az):Int))=ael:=by simp
  simp only [this,lm])
 by_cases hc: ∀i,i<adQ az->0<=az[i]!/\az[i]!<=1000000/\(be[i]! =aec->1<=az[i]!)
 · rw [ls hc]
   exact key.2 fun i hi=>sp.2 (hc i hi)
 rw [lw hc]
 simp only [Do] at hc;obtain ⟨i,hi,hx⟩:=hc;exact key.1 ⟨i,hi,by simpa only [Do] using hx⟩
theorem uQ (s:aS) (hf:(adQ s.bi)<=1000000):pk s=adX (if eE s then 0 else 8):=by
 obtain ⟨az,be,fr⟩:=s;dsimp only at hf;unfold pk;simp only [ay]
 by_cases a1:(adQ az)<1
 · have e:aen (((adQ az):Int)<1)=aec:=by simp;omega
   rw [e,lw (fun h=>by have:=h.n1;dsimp only at this;omega)];rfl
 have e1:aen (((adQ az):Int)<1)=ael:=by simp;omega
 by_cases a2:200<adQ az
 · have e:aen (200<((adQ az):Int))=aec:=by simp;omega
   rw [e1,e,lw (fun h=>by have:=h.n2;dsimp only at this;omega)];rfl
 have e2:aen (200<((adQ az):Int))=ael:=by simp;omega
 by_cases a3:(adQ be)=adQ az
 case neg=>
  have e:(((adQ be):Int) !=((adQ az):Int))=aec:=by simp;omega
  rw [e1,e2,e,lw (fun h=>a3 h.ul)];rfl
 have e3:(((adQ be):Int) !=((adQ az):Int))=ael:=by simp;omega
 simp only [e1,e2,e3,lm,bk (show (adQ be)<=1048576 by omega),ao];have GD:=On az be fr (by omega) a3;have key:=c7 (body:=pX be) (fun k=>(fr,((adQ fr):Int),(k:Int),az,be,fr,((adQ az):Int),marks be (fr.take k))) (adQ fr)
  (fun k=>fr[k]!<0\/((adQ az):Int)<=fr[k]!\/(marks be (fr.take k))[(fr[k]!).toNat]! =aec) (r:=8)
  (e:=if ael∈marks be fr then 8 else if∀i,i<adQ az->0<=az[i]!/\az[i]!<=1000000/\(be[i]! =aec->1<=az[i]!) then 0 else 8) (fun k hk=>by
   have f1:aen ((k:Int)<((adQ fr):Int))=aec:=by simp;omega
   have f2:((marks be (fr.take k)).length==adQ be)=aec:=by rw [mh];simp
   have f3:aen ((0:Int)<=(k:Int))=aec:=by simp
   have f4: ∀x:Int,((cp (marks be (fr.take k)) x aec).length==(marks be (fr.take k)).length)=aec:=by intro x;rw [yr];simp
   have f5:marks be (fr.take (k+1))=cp (marks be (fr.take k)) fr[k]! aec:=by rw [gb hk,Bh]
   unfold pX;simp only [f1,f2,f3,f4,lc,beq_self_eq_true,aq fr k hk,ao,aQ (show k<1000000000 by omega),f5];clear f5;generalize fr[k]! =x
   by_cases b1:x<0
   · simp [b1]
   · by_cases b2:((adQ az):Int)<=x
     · simp [b1,b2]
     simp only [b1,b2,decide_false,lm,false_or]
     rw [dD (l:=marks be (fr.take k)) (i:=x) (by omega) (by rw [mh];omega)];simp only [ao];cases (marks be (fr.take k))[x.toNat]!<;>simp) (by
   have f1:aen (((adQ fr):Int)<((adQ fr):Int))=ael:=by simp
   unfold pX;simp only [f1,lm,adh];rw [GC _ (by rw [mh];omega)];have f2:((marks be fr).length==adQ be)=aec:=by rw [mh];simp
   simp only [f2,lc,ao,ay,GD]
   by_cases hx:ael∈marks be fr
   · simp [hx]
   simp [hx])
 have h0:marks be (fr.take 0)=be:=rfl;rw [show ((0:Nat):Int)=0 from rfl,h0] at key
 by_cases bad: ∃k,k<adQ fr/\(fr[k]!<0\/((adQ az):Int)<=fr[k]!\/(marks be (fr.take k))[(fr[k]!).toNat]! =aec)
 · rw [key.1 bad,lw]
   intro ok;obtain ⟨k,hk,hb⟩:=bad;have hr:=ok.fr fr[k]! (aV hk);dsimp only at hr;rcases hb with hb|hb|hb
   · omega
   · omega
   rw [nL _ _ _ (fun x hx=>(ok.fr x (abA hx)).1) (by omega)] at hb
   have hi:((fr[k]!).toNat:Int)=fr[k]!:=by omega
   rw [hi,Bool.or_eq_true] at hb;rcases hb with hb|hb
   · have:=(ok.uf (fr[k]!).toNat (by show _<adQ az;omega)).1 hb
     rw [hi] at this;exact this (aV hk)
   have hm:fr[k]!∈fr.take k:=by simpa using hb
   obtain ⟨j,h1,h2,h3⟩:=bS.1 hm;exact iF.1 ok.fd j k h1 hk h3
 have Oo: ∀k,k<adQ fr->0<=fr[k]!/\fr[k]!<adQ az/\(marks be (fr.take k))[(fr[k]!).toNat]! =ael:=by
  intro k hk;refine ⟨?_,?_,?_⟩
  · exact Int.not_lt.1 fun h=>bad ⟨k,hk,.inl h⟩
  · exact Int.not_le.1 fun h=>bad ⟨k,hk,.inr (.inl h)⟩
  exact acA _▸fun h=>bad ⟨k,hk,.inr (.inr h)⟩
 rw [key.2 fun k hk hb=>bad ⟨k,hk,hb⟩];have P3: ∀x∈fr,0<=x/\x<((adQ az):Int):=by intro x hx;obtain ⟨k,hk,rfl⟩:=aP.1 hx;exact ⟨(Oo k hk).1,(Oo k hk).2.1⟩
 have g2: ∀k,k<adQ fr->be[(fr[k]!).toNat]! =ael/\fr[k]!∉fr.take k:=by intro k hk;obtain ⟨c1,c2,c3⟩:=Oo k hk;rw [nL _ _ _ (fun x hx=>(P3 x (abA hx)).1) (by omega),show ((fr[k]!).toNat:Int)=fr[k]! by omega,acV] at c3;exact ⟨c3.1,by simpa using c3.2⟩
 have nd:fr.Nodup:=iF.2 fun i j lS hj he=>(g2 j hj).2 (bS.2 ⟨i,lS,by omega,he⟩)
 by_cases hx:ael∈marks be fr
 · rw [ls hx,lw]
   intro ok;obtain ⟨i,hi,he⟩:=aP.1 hx;rw [mh] at hi;rw [nL _ _ _ (fun x hx=>(P3 x hx).1) hi,acV] at he;have h3:(i:Int)∉fr:=by simpa using he.2
   have:=(ok.uf i (by show _<adQ az;omega)).2 h3;rw [show be[i]! =ael from he.1] at this;cases this
 rw [lw hx]
 by_cases hu: ∀i,i<adQ az->0<=az[i]!/\az[i]!<=1000000/\(be[i]! =aec->1<=az[i]!)
 · rw [ls hu,ls]
   refine ⟨by show 1<=adQ az;omega,by show (adQ az)<=200;omega,a3,P3,nd,fun i hi=>?_,hu⟩;dsimp only at hi ⊢;constructor
   · intro h1 h2
     obtain ⟨k,hk,he⟩:=aP.1 h2;have:=(g2 k hk).1;rw [he,show ((i:Int)).toNat=i by omega,h1] at this;cases this
   intro h1
   refine If fun h2=>hx ?_
   refine aP.2 ⟨i,by rw [mh];omega,?_⟩;rw [nL _ _ _ (fun x hx=>(P3 x hx).1) (by omega)];have:be[i]! =ael:=by simpa using h2
   rw [this];simpa using h1
 rw [lw hu,lw]
 intro ok;exact hu ok.us
theorem eE.fl {s:aS} (ok:eE s):(adQ s.bi)<=(adQ s.az):=by
 have h:=Ol (adQ s.az) (s.bi.map adI) (by
  rw [iF];intro i j lS hj he;rw [acj] at hj;have e: ∀k,k<adQ s.bi->(s.bi.map adI)[k]! =(s.bi[k]!).toNat:=by intro k hk;rw [getElem!_pos _ k (by simpa using hk),List.getElem_map,getElem!_pos s.bi k hk]
  rw [e i (by omega),e j hj] at he;have h1:=(ok.fr _ (aV (show i<(adQ s.bi) by omega))).1;have h2:=(ok.fr _ (aV hj)).1;exact iF.1 ok.fd i j lS hj (by omega)) (by
  intro x hx;obtain ⟨y,hy,rfl⟩:=ab0.1 hx;have:=ok.fr y hy;omega)
 rwa [acj] at h
def uu (s:aS) (h:Int×Int):Prop:=0<=h.1/\h.1<adQ s.az/\s.be[h.1.toNat]! =aec/\s.az[h.1.toNat]! =h.2
def fh (s:aS) (h:Int×Int):aS:=⟨s.az,s.be.set h.1.toNat ael,s.bi++[h.1]⟩
def cS (s:aS):Nat:=(s.bi[adQ s.bi-1]!).toNat
def xI (s:aS):Prop:=0<adQ s.bi/\s.az[cS s]!<1000000
def gd (s:aS):aS:=⟨s.az.set (cS s) (s.az[cS s]!+1),s.be.set (cS s) aec,s.bi.take (adQ s.bi-1)⟩
def kq (s:aS):Int×Int:=((cS s:Int),s.az[cS s]!+1)
theorem Eb {s:aS} (ok:eE s) (h:Int×Int):yI s h=adX (aen (uu s h),0):=by
 have hl:=ok.fl;have hn:=ok.n2;have hu:=ok.ul;unfold yI uu;rw [uQ s (by omega),ls ok];simp only [ao,show ((0:Int) !=0)=ael from rfl,lm,ay]
 by_cases a1:0<=h.1
 · by_cases a2:h.1<adQ s.az
   · have e2:aen (h.1<((adQ s.be):Int))=aec:=by simp;omega
     simp only [a1,a2,e2,decide_true,lc,dD (l:=s.be) a1 (by omega),dD (l:=s.az) a1 a2,ao,true_and];generalize s.az[h.1.toNat]! =u;cases s.be[h.1.toNat]!<;>simp [P0]
   have e2:aen (h.1<((adQ s.be):Int))=ael:=by simp;omega
   simp [a1,a2,e2]
 simp [a1]
theorem J2 {s:aS} (ok:eE s) {h:Int×Int} (lv:uu s h):zu s h=adX (fh s h,0):=by
 have hl:=ok.fl;have hn:=ok.n2;have hu:=ok.ul;unfold zu;rw [Eb ok,decide_eq_true lv];unfold q9;obtain ⟨l1,l2,l3,l4⟩:=lv;have e1:cp s.be h.1 ael=s.be.set h.1.toNat ael:=rfl;simp only [ao,show ((0:Int) !=0)=ael from rfl,lm,EQ,bk (show (adQ s.az)<=1048576 by omega),bk (show (adQ s.be)<=1048576 by omega),bk (show (adQ s.bi)<=1048576 by omega),
  dO (show (adQ s.bi)+[h.1].length<=1048576 by simp;omega),dD (l:=s.be) l1 (by omega),e1,fh]
theorem uR {s:aS} (ok:eE s):sW s=adX s:=by have hl:=ok.fl;have hn:=ok.n2;have hu:=ok.ul;unfold sW;simp only [ao,bk (show (adQ s.az)<=1048576 by omega),bk (show (adQ s.be)<=1048576 by omega),bk (show (adQ s.bi)<=1048576 by omega)]
theorem GF {s:aS} (ok:eE s) {h:Int×Int} (lv:uu s h):qN s h=adX (fh s h):=by have hl:=ok.fl;have hn:=ok.n2;have hu:=ok.ul;obtain ⟨l1,l2,l3,l4⟩:=lv;unfold qN;rw [uR ok];have e1:cp s.be h.1 ael=s.be.set h.1.toNat ael:=rfl;simp only [ao,dO (show (adQ s.bi)+[h.1].length<=1048576 by simp;omega),dD (l:=s.be) l1 (by omega),e1,fh]
theorem UY {s:aS} (ok:eE s) {h:Int×Int} (lv:uu s h):eE (fh s h):=by
 have hl:=ok.fl;have hn:=ok.n2;have hu:=ok.ul;obtain ⟨l1,l2,l3,l4⟩:=lv;have nf:h.1∉s.bi:=by
  have:=(ok.uf h.1.toNat (by omega)).1 l3
  rwa [show (h.1.toNat:Int)=h.1 by omega] at this
 refine ⟨ok.n1,ok.n2,?_,?_,?_,?_,?_⟩
 · show (s.be.set _ _).length=_;rw [pp];exact hu
 · intro x hx
   rcases acE.1 hx with hx|hx
   · exact ok.fr x hx
   rw [acr] at hx;subst hx;exact ⟨l1,l2⟩
 · show (s.bi++[h.1]).Nodup
   rw [List.nodup_append];refine ⟨ok.fd,by simp,?_⟩;intro x hx y hy he;rw [acr] at hy;subst hy;subst he;exact nf hx
 · intro i hi
   change i<(adQ s.az) at hi;show (s.be.set h.1.toNat ael)[i]! =aec↔(i:Int)∉s.bi++[h.1];rw [bj,acE,acr]
   by_cases e:i=h.1.toNat
   · rw [ls ⟨e,by omega⟩]
     have:(i:Int)=h.1:=by omega
     simp [this]
   rw [lw (fun k=>e k.1),ok.uf i hi]
   have: ¬(i:Int)=h.1:=by omega
   simp [this]
 intro i hi
 change i<(adQ s.az) at hi;obtain ⟨u1,u2,u3⟩:=ok.us i hi;refine ⟨u1,u2,?_⟩;show (s.be.set h.1.toNat ael)[i]! =aec->_;rw [bj];split
 · intro h;cases h
 exact u3
theorem zF {s:aS} (ok:eE s) (h:0<adQ s.bi):cS s<adQ s.az/\(cS s:Int)=s.bi[adQ s.bi-1]!/\(cS s:Int)∈s.bi:=by
 have hm:=aV (l:=s.bi) (i:=adQ s.bi-1) (by omega);have:=ok.fr _ hm;have e:(cS s:Int)=s.bi[adQ s.bi-1]!:=by unfold cS;omega
 refine ⟨by omega,e,by rw [e];exact hm⟩
theorem iU {α:Type} (l:List α) (n:Nat) (h:n<=adQ l):fG l 0 (n:Int)=adX (l.take n):=by unfold fG;rw [ls ⟨by omega,by omega,by omega⟩];simp
theorem Ck {s:aS} (ok:eE s):zw s=adX (if xI s then (gd s,kq s,0) else (⟨[],[],[]⟩,(0,0),18)):=by
 have hl:=ok.fl;have hn:=ok.n2;have hu:=ok.ul;unfold zw xI;rw [uQ s (by omega),ls ok];simp only [ao,show ((0:Int) !=0)=ael from rfl,lm,ay]
 by_cases a1:0<adQ s.bi
 · obtain ⟨n1,n2,n3⟩:=zF ok a1
   have e1:(((adQ s.bi):Int)==0)=ael:=dE (by omega);have e2:aa .i64 (((adQ s.bi):Int) -1)=((adQ s.bi-1:Nat):Int):=mU (by omega) (by omega);unfold sO;simp only [e1,lm,ay,e2,iU s.bi (adQ s.bi-1) (by omega),ao,bk (show (s.bi.take (adQ s.bi-1)).length<=1048576 by rw [abZ];omega),
    aq s.bi (adQ s.bi-1) (by omega),<- n2,aq s.az (cS s) n1]
   obtain ⟨u1,u2,u3⟩:=ok.us (cS s) n1
   by_cases a2:s.az[cS s]! =1000000
   · have e3:(s.az[cS s]! ==1000000)=aec:=by simpa using a2
     rw [e3,lw (by omega)];rfl
   have e3:(s.az[cS s]! ==1000000)=ael:=by simpa using a2
   have e4:aa .i64 (s.az[cS s]!+1)=s.az[cS s]!+1:=by rw [wi];omega
   rw [e3,ls (by omega)];simp only [lm,bk (show (adQ s.az)<=1048576 by omega),bk (show (adQ s.be)<=1048576 by omega),ao,aq s.be (cS s) (by omega),aq s.az (cS s) n1,e4,vG,
    aq (s.az.set (cS s) (s.az[cS s]!+1)) (cS s) (by rw [pp];exact n1),bj,n1,and_self,if_true,gd,kq]
 have e1:(((adQ s.bi):Int)==0)=aec:=dy (by omega)
 rw [e1,lw (fun h=>a1 h.1)];rfl
theorem qh {s:aS} (ok:eE s):gH s=adX (aen (xI s)):=by
 have hl:=ok.fl;have hn:=ok.n2;have hu:=ok.ul;unfold gH xI;simp only [ay]
 by_cases a1:0<adQ s.bi
 · obtain ⟨n1,n2,n3⟩:=zF ok a1
   have e1:aen ((0:Int)<((adQ s.bi):Int))=aec:=by simp;omega
   have e2:aa .i64 (((adQ s.bi):Int) -1)=((adQ s.bi-1:Nat):Int):=mU (by omega) (by omega);simp only [e1,e2,lc,aq s.bi (adQ s.bi-1) (by omega),ao,<- n2,aq s.az (cS s) n1,a1,true_and]
 have e1:aen ((0:Int)<((adQ s.bi):Int))=ael:=decide_eq_false (by omega)
 rw [e1];simp [a1]
theorem GG {s:aS} (ok:eE s) (h:xI s):yR s=adX (gd s,kq s):=by
 have hl:=ok.fl;have hn:=ok.n2;have hu:=ok.ul;obtain ⟨a1,a2⟩:=h;obtain ⟨n1,n2,n3⟩:=zF ok a1;obtain ⟨u1,u2,u3⟩:=ok.us (cS s) n1;unfold yR;rw [uR ok];have e2:aa .i64 (((adQ s.bi):Int) -1)=((adQ s.bi-1:Nat):Int):=mU (by omega) (by omega);have e4:aa .i64 (s.az[cS s]!+1)=s.az[cS s]!+1:=by rw [wi];omega
 simp only [ao,ay,e2,aq s.bi (adQ s.bi-1) (by omega),iU s.bi (adQ s.bi-1) (by omega),<- n2,aq s.az (cS s) n1,aq s.be (cS s) (by omega),e4,vG,
  aq (s.az.set (cS s) (s.az[cS s]!+1)) (cS s) (by rw [pp];exact n1),bj,n1,and_self,if_true,gd,kq,Int.toNat_natCast]
theorem UZ {s:aS} (ok:eE s) (h:xI s):eE (gd s):=by
 have hl:=ok.fl;have hn:=ok.n2;have hu:=ok.ul;obtain ⟨a1,a2⟩:=h;obtain ⟨n1,n2,n3⟩:=zF ok a1;have mt: ∀x:Int,x∈s.bi.take (adQ s.bi-1)↔(x∈s.bi/\x≠(cS s:Int)):=by
  intro x;rw [bS];constructor
  · rintro ⟨i,h1,h2,rfl⟩
    refine ⟨aV h2,?_⟩;rw [n2];exact iF.1 ok.fd i (adQ s.bi-1) h1 (by omega)
  rintro ⟨h1,h2⟩
  obtain ⟨i,hi,rfl⟩:=aP.1 h1;refine ⟨i,?_,hi,rfl⟩;refine If fun hc=>h2 ?_
  rw [n2,show i=adQ s.bi-1 by omega]
 refine ⟨?_,?_,?_,?_,?_,?_,?_⟩
 · show 1<=(s.az.set _ _).length;rw [pp];exact ok.n1
 · show (s.az.set _ _).length<=200;rw [pp];exact ok.n2
 · show (s.be.set _ _).length=(s.az.set _ _).length;rw [pp,pp];exact hu
 · intro x hx
   show 0<=x/\x<((s.az.set _ _).length:Int);rw [pp];exact ok.fr x ((mt x).1 hx).1
 · exact ok.fd.sublist (List.take_sublist _ _)
 · intro i hi
   change i<(s.az.set _ _).length at hi;rw [pp] at hi;show (s.be.set (cS s) aec)[i]! =aec↔(i:Int)∉s.bi.take (adQ s.bi-1);rw [bj,mt]
   by_cases e:i=cS s
   · rw [ls ⟨e,by omega⟩]
     simp [e]
   rw [lw (fun k=>e k.1),ok.uf i hi]
   have:(i:Int)≠(cS s:Int):=by omega
   simp [this]
 intro i hi
 change i<(s.az.set _ _).length at hi;rw [pp] at hi;obtain ⟨u1,u2,u3⟩:=ok.us i hi;show 0<=(s.az.set (cS s) (s.az[cS s]!+1))[i]!/\(s.az.set (cS s) (s.az[cS s]!+1))[i]!<=1000000/\((s.be.set (cS s) aec)[i]! =aec->1<=(s.az.set (cS s) (s.az[cS s]!+1))[i]!);rw [bj,bj]
 by_cases e:i=cS s
 · subst e
   rw [ls ⟨rfl,n1⟩];refine ⟨by omega,by omega,fun _=>by omega⟩
 rw [lw (fun k=>e k.1),lw (fun k=>e k.1)]
 exact ⟨u1,u2,u3⟩
abbrev Ev:=Int×Int×Int×Int×Int
abbrev Ev.at (x:Ev):Int×Int:=(x.1,x.2.1)
abbrev Ev.num (x:Ev):Int:=x.2.2.1
abbrev Ev.ix (x:Ev):Int:=x.2.2.2.1
abbrev Ev.n (x:Ev):Nat:=x.2.2.2.1.toNat
theorem amv {x:Ev} {k:Nat} (h:x.ix<(k:Int)) (h0:0<=x.ix):x.n<k:=by show x.ix.toNat<k;omega
theorem amw {x y:Ev} (h0:0<=x.ix) (h1:0<=y.ix) (h:x.ix≠y.ix):x.n≠y.n:=by
 show x.ix.toNat≠y.ix.toNat
 omega
def less (x y:Ev):Prop:=dP (x.1,x.2.1) (y.1,y.2.1)<0\/(dP (x.1,x.2.1) (y.1,y.2.1)=0/\x.2.2.1<y.2.2.1)
theorem rY {a b:Int×Int}:dP a b<0↔a.1*b.2<b.1*a.2:=by unfold dP;rcases c6 (a.1*b.2) (b.1*a.2) with ⟨h,e⟩|⟨h,e⟩|⟨h,e⟩<;>rw [e]<;>constructor<;>intro<;>omega
theorem P4 {a b:Int×Int}:dP a b=0↔a.1*b.2=b.1*a.2:=by unfold dP;rcases c6 (a.1*b.2) (b.1*a.2) with ⟨h,e⟩|⟨h,e⟩|⟨h,e⟩<;>rw [e]<;>constructor<;>intro<;>omega
theorem ni {x y:Ev} (h:less x y): ¬less y x:=by unfold less at*;rw [rY,P4] at*;dsimp only at*;rintro (k|k)<;>rcases h with h|h<;>omega
theorem gI {a1 a2 b1 b2 c1 c2:Int} (ha:1<=a2) (hb:1<=b2) (hc:1<=c2) (h1:a1*b2<=b1*a2) (h2:b1*c2<=c1*b2):a1*c2<=c1*a2:=by
 have e1:a1*b2*c2<=b1*a2*c2:=IR h1 (by omega);have e2:b1*c2*a2<=c1*b2*a2:=IR h2 (by omega);have e3:(a1*c2)*b2<=(c1*a2)*b2:=by
  have r1:(a1*c2)*b2=a1*b2*c2:=by grind
  have r2:b1*a2*c2=b1*c2*a2:=by grind
  have r3:c1*b2*a2=(c1*a2)*b2:=by grind
  omega
 exact Int.le_of_mul_le_mul_right e3 (by omega)
theorem mK {a1 a2 b1 b2 c1 c2:Int} (ha:1<=a2) (hb:1<=b2) (hc:1<=c2) (h1:a1*b2<b1*a2) (h2:b1*c2<=c1*b2):a1*c2<c1*a2:=by
 have e1:a1*b2*c2<b1*a2*c2:=acn h1 (by omega);have e2:b1*c2*a2<=c1*b2*a2:=IR h2 (by omega);have e3:(a1*c2)*b2<(c1*a2)*b2:=by
  have r1:(a1*c2)*b2=a1*b2*c2:=by grind
  have r2:b1*a2*c2=b1*c2*a2:=by grind
  have r3:c1*b2*a2=(c1*a2)*b2:=by grind
  omega
 exact acs e3 (by omega)
theorem oK {a1 a2 b1 b2 c1 c2:Int} (ha:1<=a2) (hb:1<=b2) (hc:1<=c2) (h1:a1*b2<=b1*a2) (h2:b1*c2<c1*b2):a1*c2<c1*a2:=by
 have e1:a1*b2*c2<=b1*a2*c2:=IR h1 (by omega);have e2:b1*c2*a2<c1*b2*a2:=acn h2 (by omega);have e3:(a1*c2)*b2<(c1*a2)*b2:=by
  have r1:(a1*c2)*b2=a1*b2*c2:=by grind
  have r2:b1*a2*c2=b1*c2*a2:=by grind
  have r3:c1*b2*a2=(c1*a2)*b2:=by grind
  omega
 exact acs e3 (by omega)
theorem vI {x y z:Ev} (hx:1<=x.2.1) (hy:1<=y.2.1) (hz:1<=z.2.1) (h1: ¬less y x) (h2: ¬less z y): ¬less z x:=by
 unfold less at*;rw [rY,P4] at*;dsimp only at*;have t1:= @gI x.1 x.2.1 y.1 y.2.1 z.1 z.2.1 hx hy hz;have t2:= @mK x.1 x.2.1 y.1 y.2.1 z.1 z.2.1 hx hy hz;have t3:= @oK x.1 x.2.1 y.1 y.2.1 z.1 z.2.1 hx hy hz;generalize x.1*y.2.1=p at*;generalize y.1*x.2.1=q at*;generalize y.1*z.2.1=r at*;generalize z.1*y.2.1=s at*;generalize x.1*z.2.1=u at*;generalize z.1*x.2.1=v at*;have a1:p<=q:=by omega
 have a2:r<=s:=by omega
 have a3:=t1 a1 a2;rintro (k|k)
 · omega
 by_cases b1:p<q
 · have:=t2 b1 a2;omega
 by_cases b2:r<s
 · have:=t3 a1 b2;omega
 omega
structure Bi (n:Nat) (x:Ev) (M:Ev->Prop) (H:List Ev) (W:List Int) (i:Nat):Prop where
 lt:i<n
 hn:n<=adQ H
 ix: ∀w,w<n->w≠i->0<=(H[w]!).ix/\(H[w]!).ix<adQ W/\W[(H[w]!).n]! =(w:Int)/\(H[w]!).ix≠x.ix
 x0:0<=x.ix
 x1:x.ix<adQ W
 mem: ∀e,(∃w,w<n/\w≠i/\H[w]! =e)↔M e
theorem Bi.move {n:Nat} {x:Ev} {M:Ev->Prop} {H:List Ev} {W:List Int} {i j:Nat} (h:Bi n x M H W i) (hj:j<n) (lS:j≠i):Bi n x M (H.set i H[j]!) (W.set (H[j]!).n (i:Int)) j:=by
 have hn:=h.hn;have hi:=h.lt;obtain ⟨j1,j2,j3,j4⟩:=h.ix j hj lS;have cell: ∀w,(H.set i H[j]!)[w]! =if w=i then H[j]! else H[w]!:=by
  intro w;rw [bj]
  by_cases e:w=i
  · rw [ls ⟨e,by omega⟩,ls e]
  rw [lw (fun k=>e k.1),lw e]
 refine ⟨hj,by rw [pp];exact hn,?_,h.x0,by rw [pp];exact h.x1,?_⟩
 · intro w hw hwj
   rw [cell,pp]
   by_cases e:w=i
   · rw [ls e,bj,ls ⟨rfl,amv j2 j1⟩]
     exact ⟨j1,j2,by rw [e],j4⟩
   rw [lw e,bj]
   obtain ⟨k1,k2,k3,k4⟩:=h.ix w hw e;refine ⟨k1,k2,?_,k4⟩;rw [lw,k3];rintro ⟨c,_⟩;rw [c,j3] at k3;omega
 intro e
 rw [<- h.mem e];constructor
 · rintro ⟨w,hw,hwj,he⟩
   rw [cell] at he
   by_cases c:w=i
   · rw [ls c] at he;exact ⟨j,hj,lS,he⟩
   rw [lw c] at he;exact ⟨w,hw,c,he⟩
 rintro ⟨w,hw,J3,he⟩
 by_cases c:w=j
 · refine ⟨i,hi,fun h=>lS h.symm,?_⟩
   rw [cell,ls rfl,<- c];exact he
 exact ⟨w,hw,c,by rw [cell,lw J3];exact he⟩
theorem Bi.fill {n:Nat} {x:Ev} {M:Ev->Prop} {H:List Ev} {W:List Int} {i:Nat} (h:Bi n x M H W i):
 (∀w,w<n->0<=((H.set i x)[w]!).ix/\((H.set i x)[w]!).ix<adQ W/\(W.set x.n (i:Int))[((H.set i x)[w]!).n]! =(w:Int))/\
  (∀e,(∃w,w<n/\(H.set i x)[w]! =e)↔(e=x\/M e)):=by
 have hn:=h.hn;have hi:=h.lt;have x0:=h.x0;have x1:=h.x1;have cell: ∀w,(H.set i x)[w]! =if w=i then x else H[w]!:=by
  intro w;rw [bj]
  by_cases e:w=i
  · rw [ls ⟨e,by omega⟩,ls e]
  rw [lw (fun k=>e k.1),lw e]
 constructor
 · intro w hw
   rw [cell]
   by_cases e:w=i
   · rw [ls e,bj,ls ⟨rfl,amv x1 x0⟩]
     exact ⟨x0,x1,by rw [e]⟩
   rw [lw e,bj]
   obtain ⟨k1,k2,k3,k4⟩:=h.ix w hw e;exact ⟨k1,k2,by rw [lw (fun c=>amw k1 x0 k4 c.1),k3]⟩
 intro e
 rw [<- h.mem e];constructor
 · rintro ⟨w,hw,he⟩
   rw [cell] at he
   by_cases c:w=i
   · rw [ls c] at he;exact .inl he.symm
   rw [lw c] at he;exact .inr ⟨w,hw,c,he⟩
 rintro (he|⟨w,hw,J3,he⟩)
 · exact ⟨i,hi,by rw [cell,ls rfl,he]⟩
 exact ⟨w,hw,by rw [cell,lw J3];exact he⟩
noncomputable def iG (x:Ev):Nat->List Ev->List Int->Nat×List Ev×List Int
 |0,H,W=>(0,H,W)
 |i+1,H,W=>if less x H[i / 2]! then iG x (i / 2) (H.set (i+1) H[i / 2]!) (W.set (H[i / 2]!).n ((i+1:Nat):Int)) else (i+1,H,W)
termination_by i=>i
decreasing_by omega
noncomputable def gJ (n:Nat) (H:List Ev) (i:Nat):Nat:=if 2*i+2<n/\less H[2*i+2]! H[2*i+1]! then 2*i+2 else 2*i+1
theorem nM (n:Nat) (H:List Ev) (i:Nat):gJ n H i=2*i+1\/(gJ n H i=2*i+2/\2*i+2<n):=by
 unfold gJ;split
 · rename_i h;exact .inr ⟨rfl,h.1⟩
 exact .inl rfl
noncomputable def dG (n:Nat) (x:Ev) (i:Nat) (H:List Ev) (W:List Int):Nat×List Ev×List Int:=
 if _h:2*i+1<n then
  if less H[gJ n H i]! x then dG n x (gJ n H i) (H.set i H[gJ n H i]!) (W.set (H[gJ n H i]!).n (i:Int)) else (i,H,W)
 else (i,H,W)
termination_by n-i
decreasing_by
 rcases nM n H i with h|h<;>omega
structure Ord (n:Nat) (H:List Ev) (i:Nat):Prop where
 den: ∀w,w<n->1<=(H[w]!).2.1
 ord: ∀k,0<k->k<n->k≠i->(k-1) / 2≠i-> ¬less H[k]! H[(k-1) / 2]!
 Ma:0<i-> ∀k,0<k->k<n->(k-1) / 2=i-> ¬less H[k]! H[(i-1) / 2]!
theorem EU {n : Nat} {x : Ev} {M : Ev -> Prop} (dx : 1 <= x.2.1) : ∀ (i : Nat) (H : List Ev) (W : List Int), Bi n x M H W i -> Ord n H i ->
    ∃ j H1 W1, iG x i H W = (j, H1, W1) /\ Bi n x M H1 W1 j /\ Ord n H1 j /\ (adQ H1) = (adQ H) /\ (adQ W1) = (adQ W) /\ (0 < j -> ¬ less x H1[(j - 1) / 2]!) /\
      (∀ k, n <= k -> H1[k]! = H[k]!) /\ (∀ k, (∀ w, w < n -> w ≠ i -> (H[w]!).n ≠ k) -> W1[k]! = W[k]!) /\
      ((∀ k, 0 < k -> k < n -> (k - 1) / 2 = i -> ¬ less H[k]! x) -> ∀ k, 0 < k -> k < n -> (k - 1) / 2 = j -> ¬ less H1[k]! x)
  | 0, H, W, h, o => ⟨0, H, W, by rw [iG], h, o, rfl, rfl, fun h => by omega, fun _ _ => rfl, fun _ _ => rfl, fun h => h⟩
  | i + 1, H, W, h, o => by
    rw [iG]
    by_cases hl : less x H[i / 2]!
    · rw [ls hl]
      have hi := h.lt
      have hn := h.hn
      have hp : i / 2 < n := by omega
      have ec : i / 2 ≠ i + 1 := by omega
      have hm := h.move hp ec
      have cell : ∀ w, (H.set (i + 1) H[i / 2]!)[w]! = if w = i + 1 then H[i / 2]! else H[w]! := by
        intro w
        rw [bj]
        by_cases e : w = i + 1
        · rw [ls ⟨e, by omega⟩, ls e]
        rw [lw (fun k => e k.1), lw e]
      have o' : Ord n (H.set (i + 1) H[i / 2]!) (i / 2) := by
        refine ⟨?_, ?_, ?_⟩
        · intro w hw
          rw [cell]
          split
          · exact o.den _ hp
          exact o.den _ hw
        · intro k k0 kn k1 k2
          rw [cell, cell]
          by_cases e : k = i + 1
          · subst e; exact absurd (by omega) k2
          rw [lw e]
          by_cases e2 : (k - 1) / 2 = i + 1
          · rw [ls e2]
            have := o.Ma (by omega) k k0 kn e2
            rwa [show (i + 1 - 1) / 2 = i / 2 by omega] at this
          rw [lw e2]
          exact o.ord k k0 kn e e2
        intro p0 k k0 kn k1
        rw [cell, cell, lw (show (i / 2 - 1) / 2 ≠ i + 1 by omega)]
        have up1 : ¬ less H[i / 2]! H[(i / 2 - 1) / 2]! := o.ord (i / 2) p0 hp ec (by omega)
        by_cases e : k = i + 1
        · rw [ls e]; exact up1
        rw [lw e]
        have up2 : ¬ less H[k]! H[i / 2]! := by
          have := o.ord k k0 kn e (by omega)
          rwa [k1] at this
        exact vI (o.den _ (by omega)) (o.den _ hp) (o.den _ kn) up1 up2
      obtain ⟨j, H1, W1, e1, e3, e4, e5, e6, e7, e8, e9, e10⟩ := EU dx (i / 2) _ _ hm o'
      rw [pp] at e5 e6
      refine ⟨j, H1, W1, e1, e3, e4, e5, e6, e7, ?_, ?_, ?_⟩
      · intro k hk
        rw [e8 k hk, cell, lw (by omega)]
      · intro k hk
        rw [e9 k ?_, bj, lw (fun c => hk (i / 2) hp ec c.1.symm)]
        intro w hw JN
        rw [cell]
        split
        · exact hk (i / 2) hp ec
        rename_i e; exact hk w hw e
      intro _
      refine e10 fun k k0 kn k1 => ?_
      rw [cell]
      by_cases e : k = i + 1
      · rw [ls e]; exact ni hl
      rw [lw e]
      have up2 : ¬ less H[k]! H[i / 2]! := by
        have := o.ord k k0 kn e (by omega)
        rwa [k1] at this
      exact vI dx (o.den _ hp) (o.den _ kn) (ni hl) up2
    rw [lw hl]
    refine ⟨i + 1, H, W, rfl, h, o, rfl, rfl, fun _ => ?_, fun _ _ => rfl, fun _ _ => rfl, fun h => h⟩
    rwa [show (i + 1 - 1) / 2 = i / 2 by omega]
termination_by i=>i
decreasing_by omega
theorem RE {n:Nat} {x:Ev} {i:Nat} {H:List Ev} {W:List Int} (h: ∀k,0<k->k<n->(k-1) / 2=i-> ¬less H[k]! x):dG n x i H W=(i,H,W):=by
 rw [dG];split
 · rename_i hk
   rw [lw];rcases nM n H i with e|⟨e,e2⟩
   · rw [e];exact h _ (by omega) hk (by omega)
   rw [e];exact h _ (by omega) e2 (by omega)
 rfl
theorem IJ {n : Nat} {x : Ev} {M : Ev -> Prop} (dx : 1 <= x.2.1) : ∀ (d i : Nat) (H : List Ev) (W : List Int), n - i <= d -> Bi n x M H W i -> Ord n H i -> (0 < i -> ¬ less x H[(i - 1) / 2]!) ->
    ∃ j H1 W1, dG n x i H W = (j, H1, W1) /\ Bi n x M H1 W1 j /\ Ord n H1 j /\ (adQ H1) = (adQ H) /\ (adQ W1) = (adQ W) /\ (0 < j -> ¬ less x H1[(j - 1) / 2]!) /\
      (∀ k, n <= k -> H1[k]! = H[k]!) /\ (∀ k, (∀ w, w < n -> w ≠ i -> (H[w]!).n ≠ k) -> W1[k]! = W[k]!) /\ (∀ k, 0 < k -> k < n -> (k - 1) / 2 = j -> ¬ less H1[k]! x)
  | 0, i, H, W, hd, h, o, u => by have := h.lt; omega
  | d + 1, i, H, W, hd, h, o, u => by
    have hi := h.lt
    have hn := h.hn
    rw [dG]
    by_cases hk : 2 * i + 1 < n
    · rw [dif_pos hk]
      have kc := nM n H i
      have kn : gJ n H i < n := by omega
      have kne : gJ n H i ≠ i := by omega
      have kp : (gJ n H i - 1) / 2 = i := by omega
      have kb : ∀ k, 0 < k -> k < n -> (k - 1) / 2 = i -> ¬ less H[k]! H[gJ n H i]! := by
        intro k k0 k1 k2
        have kk : k = 2 * i + 1 \/ k = 2 * i + 2 := by omega
        unfold gJ
        split
        · rename_i hc
          rcases kk with e | e
          · rw [e]; exact ni hc.2
          rw [e]; exact fun h => ni h h
        rename_i hc
        rcases kk with e | e
        · rw [e]; exact fun h => ni h h
        rw [e] at k1 ⊢; exact fun h => hc ⟨k1, h⟩
      by_cases hl : less H[gJ n H i]! x
      · rw [ls hl]
        have hm := h.move kn kne
        have cell : ∀ w, (H.set i H[gJ n H i]!)[w]! = if w = i then H[gJ n H i]! else H[w]! := by
          intro w
          rw [bj]
          by_cases e : w = i
          · rw [ls ⟨e, by omega⟩, ls e]
          rw [lw (fun k => e k.1), lw e]
        have o' : Ord n (H.set i H[gJ n H i]!) (gJ n H i) := by
          refine ⟨?_, ?_, ?_⟩
          · intro w hw
            rw [cell]
            split
            · exact o.den _ kn
            exact o.den _ hw
          · intro k k0 k1 k2 k3
            rw [cell, cell]
            by_cases e : k = i
            · rw [ls e, lw (by omega)]
              have := o.Ma (by omega) (gJ n H i) (by omega) kn kp
              rwa [e]
            rw [lw e]
            by_cases e2 : (k - 1) / 2 = i
            · rw [ls e2]; exact kb k k0 k1 e2
            rw [lw e2]; exact o.ord k k0 k1 e e2
          intro _ k k0 k1 k2
          rw [cell, cell, ls kp, lw (by omega)]
          have := o.ord k k0 k1 (by omega) (by omega)
          rwa [k2] at this
        obtain ⟨j, H1, W1, e1, e3, e4, e5, e6, e7, e8, e9, e10⟩ := IJ dx d (gJ n H i) _ _ (by omega) hm o' (by
          intro _
          rw [cell, ls kp]
          exact ni hl)
        rw [pp] at e5 e6
        refine ⟨j, H1, W1, e1, e3, e4, e5, e6, e7, ?_, ?_, e10⟩
        · intro k hk
          rw [e8 k hk, cell, lw (by omega)]
        intro k hk
        rw [e9 k ?_, bj, lw (fun c => hk (gJ n H i) kn kne c.1.symm)]
        intro w hw JN
        rw [cell]
        split
        · exact hk (gJ n H i) kn kne
        rename_i e; exact hk w hw e
      rw [lw hl]
      refine ⟨i, H, W, rfl, h, o, rfl, rfl, u, fun _ _ => rfl, fun _ _ => rfl, ?_⟩
      intro k k0 k1 k2
      exact vI dx (o.den _ kn) (o.den _ k1) hl (kb k k0 k1 k2)
    rw [dif_neg hk]
    refine ⟨i, H, W, rfl, h, o, rfl, rfl, u, fun _ _ => rfl, fun _ _ => rfl, ?_⟩
    intro k k0 k1 k2
    omega
structure zG (n:Nat) (x:Ev) (M:Ev->Prop) (K:Nat->Prop) (H:List Ev) (W:List Int) (H1:List Ev) (W1:List Int):Prop where
 hl:(adQ H1)=adQ H
 wl:(adQ W1)=adQ W
 ix: ∀w,w<n->0<=(H1[w]!).ix/\(H1[w]!).ix<adQ W/\W1[(H1[w]!).n]! =(w:Int)
 mem: ∀e,(∃w,w<n/\H1[w]! =e)↔(e=x\/M e)
 ord: ∀k,0<k->k<n-> ¬less H1[k]! H1[(k-1) / 2]!
 out: ∀k,K k->W1[k]! =W[k]!
theorem J4 {n:Nat} {x:Ev} {M:Ev->Prop} {H H1:List Ev} {W W1:List Int} {i j:Nat} (h1:Bi n x M H1 W1 j) (o1:Ord n H1 j) (hl:(adQ H1)=adQ H) (wl:(adQ W1)=adQ W)
 (u:0<j-> ¬less x H1[(j-1) / 2]!) (kd: ∀k,0<k->k<n->(k-1) / 2=j-> ¬less H1[k]! x) (out: ∀k,(∀w,w<n->w≠i->(H[w]!).n≠k)->W1[k]! =W[k]!):
 zG n x M (fun k=>k≠x.n/\ ∀w,w<n->w≠i->(H[w]!).n≠k) H W (H1.set j x) (W1.set x.n (j:Int)):=by
 have hn:=h1.hn;have hj:=h1.lt;have f:=h1.fill;have cell: ∀w,(H1.set j x)[w]! =if w=j then x else H1[w]!:=by
  intro w;rw [bj]
  by_cases e:w=j
  · rw [ls ⟨e,by omega⟩,ls e]
  rw [lw (fun k=>e k.1),lw e]
 refine ⟨by rw [pp];exact hl,by rw [pp];exact wl,?_,f.2,?_,?_⟩
 · rw [<- wl];exact f.1
 · intro k k0 kn
   rw [cell,cell]
   by_cases e:k=j
   · rw [ls e,lw (by omega),e];exact u (by omega)
   rw [lw e]
   by_cases e2:(k-1) / 2=j
   · rw [ls e2];exact kd k k0 kn e2
   rw [lw e2];exact o1.ord k k0 kn e e2
 rintro k ⟨k1,k2⟩
 rw [bj,lw (fun c=>k1 c.1)];exact out k k2
noncomputable def cu (n:Nat) (x:Ev) (i:Nat) (H:List Ev) (W:List Int):List Ev×List Int:=
 let u:=iG x i H W
 let d:=dG n x u.1 u.2.1 u.2.2
 (d.2.1.set d.1 x,d.2.2.set x.n (d.1:Int))
theorem yU {n:Nat} {x:Ev} {M:Ev->Prop} (dx:1<=x.2.1) {i:Nat} {H:List Ev} {W:List Int} (h:Bi n x M H W i) (o:Ord n H i):
 zG n x M (fun k=>k≠x.n/\ ∀w,w<n->w≠i->(H[w]!).n≠k) H W (cu n x i H W).1 (cu n x i H W).2:=by
 obtain ⟨j,H1,W1,e1,e3,e4,e5,e6,e7,e8,e9,e10⟩:=EU dx i H W h o;obtain ⟨k,H2,W2,f1,f3,f4,f5,f6,f7,f8,f9,f10⟩:=IJ dx n j H1 W1 (by omega) e3 e4 e7;have e:cu n x i H W=(H2.set k x,W2.set x.n (k:Int)):=by unfold cu;rw [e1];dsimp only;rw [f1]
 rw [e];refine J4 f3 f4 (by omega) (by omega) f7 f10 ?_;intro c hc;rw [f9 c ?_,e9 c hc];intro w hw hwj hcw;have hm:M H1[w]!:=(e3.mem _).1 ⟨w,hw,hwj,rfl⟩;obtain ⟨v,v1,v2,v3⟩:=(h.mem _).2 hm;exact hc v v1 v2 (by rw [v3];exact hcw)
theorem Mb {n:Nat} {x:Ev} {M:Ev->Prop} (dx:1<=x.2.1) {i:Nat} {H:List Ev} {W:List Int} (h:Bi n x M H W i) (o:Ord n H i) (hk: ∀k,0<k->k<n->(k-1) / 2=i-> ¬less H[k]! x):
 cu n x i H W=((iG x i H W).2.1.set (iG x i H W).1 x,(iG x i H W).2.2.set x.n ((iG x i H W).1:Int)):=by
 obtain ⟨j,H1,W1,e1,e3,e4,e5,e6,e7,e8,e9,e10⟩:=EU dx i H W h o;unfold cu;rw [e1];dsimp only;rw [RE (e10 hk)]
def pH (x:Ev):Prop:=aX (x.1,x.2.1)/\jf (x.1,x.2.1)/\0<=x.2.2.1/\x.2.2.1<=1000000
theorem pH.den {x:Ev} (h:pH x):1<=x.2.1:=h.1.1
noncomputable def GH (x y:Ev):Int:=if dP (x.1,x.2.1) (y.1,y.2.1)≠0 then dP (x.1,x.2.1) (y.1,y.2.1) else iO x.2.2.1 y.2.2.1
theorem Cl (x y:Ev):GH x y<0↔less x y:=by
 unfold GH less
 by_cases h:dP (x.1,x.2.1) (y.1,y.2.1)=0
 · rw [lw (by simpa using h),h]
   rcases c6 x.2.2.1 y.2.2.1 with ⟨h1,e⟩|⟨h1,e⟩|⟨h1,e⟩<;>rw [e]<;>constructor<;>intro<;>omega
 rw [ls h];constructor<;>intro<;>omega
theorem dB {x y:Ev} (hx:pH x) (hy:pH y):cd x y=adX (GH x y):=by unfold cd GH;rw [Dt hx.2.1 hy.2.1,ls ⟨hx.1,hy.1⟩];simp only [ao,iE,zD]
theorem mV {x y:Ev} (hx:pH x) (hy:pH y):dY x y=adX (aen (less x y)):=by
 unfold dY less;rw [xb hx.2.1 hy.2.1];simp only [ao];generalize dP (x.1,x.2.1) (y.1,y.2.1)=c
 by_cases h1:c<0
 · simp [h1]
 by_cases h2:c=0
 · subst h2;simp
 simp only [h1,dE h2,h2,decide_false,lm,false_or,false_and]
theorem Dv {x y:Ev}:aen (GH x y<0)=aen (less x y):=by simp only [Cl]
theorem J5 {x y:Ev}:aen (0<=GH x y)=!aen (less x y):=by
 have:=Cl x y
 by_cases h:less x y
 · have h2:=this.2 h
   have: ¬0<=GH x y:=by omega
   simp [h,this]
 have h2: ¬GH x y<0:=fun k=>h (this.1 k)
 have:0<=GH x y:=by omega
 simp [h,this]
structure lQ (n:Nat) (H:List Ev) (W:List Int):Prop where
 hn:n<=adQ H
 hb:(adQ H)<=1000000
 ev: ∀w,w<n->pH H[w]!/\0<=(H[w]!).ix/\(H[w]!).ix<adQ W
theorem lQ.move {n:Nat} {H:List Ev} {W:List Int} (c:lQ n H W) {i j:Nat} (_hi:i<n) (hj:j<n) (k:Nat) (v:Int):lQ n (H.set i H[j]!) (W.set k v):=by
 have hn:=c.hn;refine ⟨by rw [pp];exact hn,by rw [pp];exact c.hb,?_⟩;intro w hw;rw [bj,pp];split
 · exact c.ev j hj
 exact c.ev w hw
theorem EV {H:List Ev} {W:List Int} {x:Ev} {u fr:List Int} {us:List Bool} {i:Nat} (hi:i<adQ H) (h0:0<=x.ix) (h1:x.ix<adQ W):
 bR (u,us,fr,(i:Int),x.1,x.2.1,x.2.2.1,x.2.2.2.1,x.2.2.2.2,H,W)=adX (H.set i x,W.set x.n (i:Int)):=by
 unfold bR;have e1:=aq H i hi;have e2:=dD (l:=W) h0 h1;simp only [e1,e2,ao,yr,beq_self_eq_true,lc];rfl
theorem EW {n cap:Nat} {H:List Ev} {W:List Int} {x:Ev} {u fr:List Int} {us:List Bool} {i:Nat} (hi:i<n) (hn:n<=adQ H) (h0:0<=x.ix) (h1:x.ix<adQ W):
 bQ (u,us,fr,n,cap,(i:Int),x.1,x.2.1,x.2.2.1,x.2.2.2.1,x.2.2.2.2,H,W)=adX (H.set i x,W.set x.n (i:Int)):=by
 unfold bQ;have e1:=aq (H.take n) i (by rw [abZ];omega);have e2:=dD (l:=W) h0 h1;simp only [e1,e2,ao,yr,beq_self_eq_true,lc];rfl
theorem rh {i:Nat} (h:i<1000000000):aa .i64 (NE (aa .i64 (((i+1:Nat):Int) -1)) 2)=((i / 2:Nat):Int):=by
 have e:aa .i64 (((i+1:Nat):Int) -1)=(i:Int):=by rw [wi];omega
 rw [e,acq (by omega),wi];omega
theorem uS {i:Nat} (h:i<1000000000):aa .i64 ((aa .i64 (2*(i:Int)))+1)=((2*i+1:Nat):Int):=by
 have e:aa .i64 (2*(i:Int))=((2*i:Nat):Int):=by rw [wi];omega
 rw [e,wi];omega
theorem yV {n:Nat} {x:Ev}: ∀{i:Nat} {H:List Ev} {W:List Int} {j:Nat} {H1:List Ev} {W1:List Int},lQ n H W->i<n->iG x i H W=(j,H1,W1)-> ∀w,w<n->pH H1[w]!/\0<=(H1[w]!).ix/\(H1[w]!).ix<adQ W
 |0,H,W,j,H1,W1,c,hi,e=>by rw [iG] at e;injection e with e1 e;injection e with e2 e3;subst e2;exact c.ev
 |i+1,H,W,j,H1,W1,c,hi,e=>by
  rw [iG] at e;split at e
  · have:=yV (c.move hi (show i / 2<n by omega) (H[i / 2]!).n ((i+1:Nat):Int)) (by omega) e
    rw [pp] at this;exact this
  injection e with e1 e;injection e with e2 e3
  subst e2;exact c.ev
termination_by i=>i
decreasing_by omega
theorem Oq {c0:List Int×List Bool×List Int×Int×Int×Int×Int×Int×Int×List Ev×List Int} {n i:Nat} {H:List Ev} {W:List Int} {u fr:List Int} {us:List Bool} {x:Ev}
 (c:lQ n H W) (hn:(adQ H)=n) (hi:i<n) (hx:pH x) (x0:0<=x.ix) (x1:x.ix<adQ W) (l1:(adQ c0.2.2.2.2.2.2.2.2.2.1)=n) (l2:(adQ c0.2.2.2.2.2.2.2.2.2.2)=adQ W):
 fw c0 ((i:Int),((2*i+1:Nat):Int),H,W,u,us,fr,x)=
  adX (if 2*i+1<n/\less H[gJ n H i]! x then .next (((gJ n H i:Nat):Int),((2*gJ n H i+1:Nat):Int),H.set i H[gJ n H i]!,W.set (H[gJ n H i]!).n (i:Int),u,us,fr,x)
   else .done (.done (H.set i x,W.set x.n (i:Int)))):=by
 have hb:=c.hb;have fin:(bR (u,us,fr,(i:Int),x.1,x.2.1,x.2.2.1,x.2.2.2.1,x.2.2.2.2,H,W))=adX (H.set i x,W.set x.n (i:Int)):=EV (by omega) x0 x1;have ln1:(H.set i x).length=(adQ c0.2.2.2.2.2.2.2.2.2.1):=by rw [pp];omega
 have ln2:(W.set x.n (i:Int)).length=(adQ c0.2.2.2.2.2.2.2.2.2.2):=by rw [pp];omega
 unfold fw;simp only [ay,hn,fin,ao,ln1,ln2,beq_self_eq_true,lc]
 by_cases h1:2*i+1<n
 · have e1:aen (((2*i+1:Nat):Int)<(n:Int))=aec:=by simp;omega
   have e2:aa .i64 (((2*i+1:Nat):Int)+1)=((2*i+2:Nat):Int):=aQ (by omega);obtain ⟨qO,a1,a2⟩:=c.ev (2*i+1) h1;have g1:=aq H (2*i+1) (by omega);have s1:(bR (u,us,fr,(i:Int),(H[2*i+1]!).1,(H[2*i+1]!).2.1,(H[2*i+1]!).2.2.1,(H[2*i+1]!).2.2.2.1,(H[2*i+1]!).2.2.2.2,H,W))=adX (H.set i H[2*i+1]!,W.set (H[2*i+1]!).n (i:Int)):=EV (by omega) a1 a2;simp only [e1,e2,lc,g1,ao,s1,dB qO hx,J5,uS (show 2*i+1<1000000000 by omega)]
   by_cases h2:2*i+2<n
   · have e3:aen (((2*i+2:Nat):Int)<(n:Int))=aec:=by simp;omega
     obtain ⟨RF,b1,b2⟩:=c.ev (2*i+2) h2;have g2:=aq H (2*i+2) (by omega);have s2:(bR (u,us,fr,(i:Int),(H[2*i+2]!).1,(H[2*i+2]!).2.1,(H[2*i+2]!).2.2.1,(H[2*i+2]!).2.2.2.1,(H[2*i+2]!).2.2.2.2,H,W))=adX (H.set i H[2*i+2]!,W.set (H[2*i+2]!).n (i:Int)):=EV (by omega) b1 b2;simp only [e3,lc,g2,ao,s2,dB RF hx,dB RF qO,Dv,J5,uS (show 2*i+2<1000000000 by omega)]
     by_cases h3:less H[2*i+2]! H[2*i+1]!
     · have k:gJ n H i=2*i+2:=by unfold gJ;rw [ls ⟨h2,h3⟩]
       rw [k]
       by_cases h4:less H[2*i+2]! x
       · simp only [h1,h3,h4,decide_true,lc,lm,EQ,and_self,if_true]
       simp only [h1,h3,h4,decide_true,decide_false,lc,AC,and_false,if_false]
     have k:gJ n H i=2*i+1:=by unfold gJ;rw [lw (fun h=>h3 h.2)]
     rw [k]
     by_cases h4:less H[2*i+1]! x
     · simp only [h1,h3,h4,decide_true,decide_false,lm,EQ,and_self,if_true]
     simp only [h1,h3,h4,decide_false,lc,lm,AC,and_false,if_false]
   have e3:aen (((2*i+2:Nat):Int)<(n:Int))=ael:=by simp;omega
   have k:gJ n H i=2*i+1:=by unfold gJ;rw [lw (fun h=>h2 h.1)]
   rw [k];simp only [e3,lm]
   by_cases h4:less H[2*i+1]! x
   · simp only [h1,h4,decide_true,lm,EQ,and_self,if_true]
   simp only [h1,h4,decide_false,lc,AC,and_false,if_false]
 have e1:aen (((2*i+1:Nat):Int)<(n:Int))=ael:=by simp;omega
 rw [lw (fun h=>h1 h.1),e1];rfl
theorem xd {c0 : List Int × List Bool × List Int × Int × Int × Int × Int × Int × Int × List Ev × List Int} {n : Nat} {u fr : List Int} {us : List Bool} {x : Ev} (hx : pH x) (x0 : 0 <= x.ix) (l1 : (adQ c0.2.2.2.2.2.2.2.2.2.1) = n) :
    ∀ (d i : Nat) (H : List Ev) (W : List Int), n - i <= d -> lQ n H W -> (adQ H) = n -> i < n -> x.ix < (adQ W) -> (adQ c0.2.2.2.2.2.2.2.2.2.2) = (adQ W) ->
      aB (fw c0) ((i : Int), ((2 * i + 1 : Nat) : Int), H, W, u, us, fr, x) = adX (.done ((dG n x i H W).2.1.set (dG n x i H W).1 x, (dG n x i H W).2.2.set x.n ((dG n x i H W).1 : Int)))
  | 0, i, H, W, hd, c, hn, hi, x1, l2 => by omega
  | d + 1, i, H, W, hd, c, hn, hi, x1, l2 => by
    have r := Oq (u := u) (us := us) (fr := fr) c hn hi hx x0 x1 l1 l2
    by_cases h : 2 * i + 1 < n /\ less H[gJ n H i]! x
    · rw [ls h] at r
      have kc := nM n H i
      have kn : gJ n H i < n := by omega
      rw [aT r, xd hx x0 l1 d (gJ n H i) _ _ (by omega) (c.move hi kn _ _) (by rw [pp]; exact hn) kn (by rw [pp]; exact x1) (by rw [pp]; exact l2)]
      have e : dG n x i H W = dG n x (gJ n H i) (H.set i H[gJ n H i]!) (W.set (H[gJ n H i]!).n (i : Int)) := by
        rw [dG, dif_pos h.1, ls h.2]
      rw [e]
    rw [lw h] at r
    rw [aG r]
    have e : dG n x i H W = (i, H, W) := by
      rw [dG]
      split
      · rename_i h1; rw [lw (fun k => h ⟨h1, k⟩)]
      rfl
    rw [e]
theorem GI {c0 : List Int × List Bool × List Int × Int × Int × Int × Int × Int × Int × List Ev × List Int} {n : Nat} {u fr : List Int} {us : List Bool} {x : Ev} (hx : pH x) (x0 : 0 <= x.ix) (l1 : (adQ c0.2.2.2.2.2.2.2.2.2.1) = n) :
    ∀ (i : Nat) (H : List Ev) (W : List Int), lQ n H W -> (adQ H) = n -> i < n -> x.ix < (adQ W) -> (adQ c0.2.2.2.2.2.2.2.2.2.2) = (adQ W) ->
      aB (ef c0) ((i : Int), H, W, u, us, fr, x) = adX (cu n x i H W)
  | 0, H, W, c, hn, hi, x1, l2 => by
    have hb := c.hb
    have dn := xd (u := u) (us := us) (fr := fr) hx x0 l1 n 0 H W (by omega) c hn hi x1 l2
    refine (aG (r := cu n x 0 H W) ?_)
    unfold ef
    have e1 : aen ((0 : Int) < ((0 : Nat) : Int)) = ael := by simp
    simp only [e1, lm, uS (show 0 < 1000000000 by omega)]
    rw [dn]
    unfold cu
    rw [iG]
  | i + 1, H, W, c, hn, hi, x1, l2 => by
    have hb := c.hb
    have e1 : aen ((0 : Int) < ((i + 1 : Nat) : Int)) = aec := decide_eq_true (by omega)
    have hp : i / 2 < n := by omega
    obtain ⟨qO, a1, a2⟩ := c.ev (i / 2) hp
    have g1 := aq H (i / 2) (by omega)
    have s1 : (bR (u, us, fr, ((i + 1 : Nat) : Int), (H[i / 2]!).1, (H[i / 2]!).2.1, (H[i / 2]!).2.2.1, (H[i / 2]!).2.2.2.1, (H[i / 2]!).2.2.2.2, H, W)) = adX (H.set (i + 1) H[i / 2]!, W.set (H[i / 2]!).n ((i + 1 : Nat) : Int)) := EV (by omega) a1 a2
    by_cases h : less x H[i / 2]!
    · have r : ef c0 (((i + 1 : Nat) : Int), H, W, u, us, fr, x) = adX (.next (((i / 2 : Nat) : Int), H.set (i + 1) H[i / 2]!, W.set (H[i / 2]!).n ((i + 1 : Nat) : Int), u, us, fr, x)) := by
        unfold ef
        simp only [e1, lc, rh (show i < 1000000000 by omega), g1, ao, dB hx qO, Dv, h, decide_true, s1]
      rw [aT r, GI hx x0 l1 (i / 2) _ _ (c.move hi hp _ _) (by rw [pp]; exact hn) hp (by rw [pp]; exact x1) (by rw [pp]; exact l2)]
      have e : iG x (i + 1) H W = iG x (i / 2) (H.set (i + 1) H[i / 2]!) (W.set (H[i / 2]!).n ((i + 1 : Nat) : Int)) := by
        rw [iG, ls h]
      unfold cu
      rw [e]
    have dn := xd (u := u) (us := us) (fr := fr) hx x0 l1 n (i + 1) H W (by omega) c hn hi x1 l2
    refine (aG (r := cu n x (i + 1) H W) ?_)
    unfold ef
    simp only [e1, lc, rh (show i < 1000000000 by omega), g1, ao, dB hx qO, Dv, h, decide_false, lm, uS (show i + 1 < 1000000000 by omega)]
    rw [dn]
    unfold cu
    rw [iG, lw h]
termination_by i=>i
decreasing_by omega
theorem GJ {n:Nat} {u fr:List Int} {us:List Bool} {x:Ev} (hx:pH x) (x0:0<=x.ix) {i:Nat} {H:List Ev} {W:List Int} (c:lQ n H W) (hn:(adQ H)=n) (hi:i<n) (x1:x.ix<adQ W):
 eB (u,us,fr,(i:Int),x.1,x.2.1,x.2.2.1,x.2.2.2.1,x.2.2.2.2,H,W)=adX (cu n x i H W):=by
 unfold eB;exact GI hx x0 hn i H W c hn hi x1 rfl
theorem fy {l:List Ev} {n i:Nat} (h:i<n) (hn:n<=adQ l):aH (l.take n) (i:Int)=adX l[i]!:=by rw [aq (l.take n) i (by rw [abZ];omega),kN h]
theorem Ot {c0:List Int×List Bool×List Int×Nat×Nat×Int×Int×Int×Int×Int×Int×List Ev×List Int} {n cap i:Nat} {H:List Ev} {W:List Int} {u fr:List Int} {us:List Bool} {x:Ev}
 (c:lQ n H W) (hi:i<n) (hx:pH x) (x0:0<=x.ix) (x1:x.ix<adQ W) (l1:(adQ c0.2.2.2.2.2.2.2.2.2.2.2.1)=adQ H) (l2:(adQ c0.2.2.2.2.2.2.2.2.2.2.2.2)=adQ W):
 fv c0 ((i:Int),((2*i+1:Nat):Int),H,W,u,us,fr,n,cap,x)=
  adX (if 2*i+1<n/\less H[gJ n H i]! x then .next (((gJ n H i:Nat):Int),((2*gJ n H i+1:Nat):Int),H.set i H[gJ n H i]!,W.set (H[gJ n H i]!).n (i:Int),u,us,fr,n,cap,x)
   else .done (.done (H.set i x,W.set x.n (i:Int)))):=by
 have hb:=c.hb;have RG:=c.hn;have fin:(bQ (u,us,fr,n,cap,(i:Int),x.1,x.2.1,x.2.2.1,x.2.2.2.1,x.2.2.2.2,H,W))=adX (H.set i x,W.set x.n (i:Int)):=EW (cap:=cap) (by omega) c.hn x0 x1;have ln1:(H.set i x).length=(adQ c0.2.2.2.2.2.2.2.2.2.2.2.1):=by rw [pp];omega
 have ln2:(W.set x.n (i:Int)).length=(adQ c0.2.2.2.2.2.2.2.2.2.2.2.2):=by rw [pp];omega
 unfold fv;simp only [ay,fin,ao,ln1,ln2,beq_self_eq_true,lc]
 by_cases h1:2*i+1<n
 · have e1:aen (((2*i+1:Nat):Int)<(n:Int))=aec:=by simp;omega
   have e2:aa .i64 (((2*i+1:Nat):Int)+1)=((2*i+2:Nat):Int):=aQ (by omega);obtain ⟨qO,a1,a2⟩:=c.ev (2*i+1) h1;have g1:=fy (l:=H) (n:=n) (i:=2*i+1) (by omega) c.hn;have s1:(bQ (u,us,fr,n,cap,(i:Int),(H[2*i+1]!).1,(H[2*i+1]!).2.1,(H[2*i+1]!).2.2.1,(H[2*i+1]!).2.2.2.1,(H[2*i+1]!).2.2.2.2,H,W))=adX (H.set i H[2*i+1]!,W.set (H[2*i+1]!).n (i:Int)):=EW (cap:=cap) (by omega) c.hn a1 a2;simp only [e1,e2,lc,g1,ao,s1,dB qO hx,J5,uS (show 2*i+1<1000000000 by omega)]
   by_cases h2:2*i+2<n
   · have e3:aen (((2*i+2:Nat):Int)<(n:Int))=aec:=by simp;omega
     obtain ⟨RF,b1,b2⟩:=c.ev (2*i+2) h2;have g2:=fy (l:=H) (n:=n) (i:=2*i+2) (by omega) c.hn;have s2:(bQ (u,us,fr,n,cap,(i:Int),(H[2*i+2]!).1,(H[2*i+2]!).2.1,(H[2*i+2]!).2.2.1,(H[2*i+2]!).2.2.2.1,(H[2*i+2]!).2.2.2.2,H,W))=adX (H.set i H[2*i+2]!,W.set (H[2*i+2]!).n (i:Int)):=EW (cap:=cap) (by omega) c.hn b1 b2;simp only [e3,lc,g2,ao,s2,dB RF hx,dB RF qO,Dv,J5,uS (show 2*i+2<1000000000 by omega)]
     by_cases h3:less H[2*i+2]! H[2*i+1]!
     · have k:gJ n H i=2*i+2:=by unfold gJ;rw [ls ⟨h2,h3⟩]
       rw [k]
       by_cases h4:less H[2*i+2]! x
       · simp only [h1,h3,h4,decide_true,lc,lm,EQ,and_self,if_true]
       simp only [h1,h3,h4,decide_true,decide_false,lc,AC,and_false,if_false]
     have k:gJ n H i=2*i+1:=by unfold gJ;rw [lw (fun h=>h3 h.2)]
     rw [k]
     by_cases h4:less H[2*i+1]! x
     · simp only [h1,h3,h4,decide_true,decide_false,lm,EQ,and_self,if_true]
     simp only [h1,h3,h4,decide_false,lc,lm,AC,and_false,if_false]
   have e3:aen (((2*i+2:Nat):Int)<(n:Int))=ael:=by simp;omega
   have k:gJ n H i=2*i+1:=by unfold gJ;rw [lw (fun h=>h2 h.1)]
   rw [k];simp only [e3,lm]
   by_cases h4:less H[2*i+1]! x
   · simp only [h1,h4,decide_true,lm,EQ,and_self,if_true]
   simp only [h1,h4,decide_false,lc,AC,and_false,if_false]
 have e1:aen (((2*i+1:Nat):Int)<(n:Int))=ael:=by simp;omega
 rw [lw (fun h=>h1 h.1),e1];rfl
theorem xf {c0 : List Int × List Bool × List Int × Nat × Nat × Int × Int × Int × Int × Int × Int × List Ev × List Int} {n cap : Nat} {u fr : List Int} {us : List Bool} {x : Ev} (hx : pH x) (x0 : 0 <= x.ix) :
    ∀ (d i : Nat) (H : List Ev) (W : List Int), n - i <= d -> lQ n H W -> (adQ c0.2.2.2.2.2.2.2.2.2.2.2.1) = (adQ H) -> i < n -> x.ix < (adQ W) -> (adQ c0.2.2.2.2.2.2.2.2.2.2.2.2) = (adQ W) ->
      aB (fv c0) ((i : Int), ((2 * i + 1 : Nat) : Int), H, W, u, us, fr, n, cap, x) = adX (.done ((dG n x i H W).2.1.set (dG n x i H W).1 x, (dG n x i H W).2.2.set x.n ((dG n x i H W).1 : Int)))
  | 0, i, H, W, hd, c, hn, hi, x1, l2 => by omega
  | d + 1, i, H, W, hd, c, hn, hi, x1, l2 => by
    have r := Ot (u := u) (us := us) (fr := fr) (cap := cap) c hi hx x0 x1 hn l2
    by_cases h : 2 * i + 1 < n /\ less H[gJ n H i]! x
    · rw [ls h] at r
      have kc := nM n H i
      have kn : gJ n H i < n := by omega
      rw [aT r, xf hx x0 d (gJ n H i) _ _ (by omega) (c.move hi kn _ _) (by rw [pp]; exact hn) kn (by rw [pp]; exact x1) (by rw [pp]; exact l2)]
      have e : dG n x i H W = dG n x (gJ n H i) (H.set i H[gJ n H i]!) (W.set (H[gJ n H i]!).n (i : Int)) := by
        rw [dG, dif_pos h.1, ls h.2]
      rw [e]
    rw [lw h] at r
    rw [aG r]
    have e : dG n x i H W = (i, H, W) := by
      rw [dG]
      split
      · rename_i h1; rw [lw (fun k => h ⟨h1, k⟩)]
      rfl
    rw [e]
theorem GK {c0 : List Int × List Bool × List Int × Nat × Nat × Int × Int × Int × Int × Int × Int × List Ev × List Int} {n cap : Nat} {u fr : List Int} {us : List Bool} {x : Ev} (hx : pH x) (x0 : 0 <= x.ix) :
    ∀ (i : Nat) (H : List Ev) (W : List Int), lQ n H W -> (adQ c0.2.2.2.2.2.2.2.2.2.2.2.1) = (adQ H) -> i < n -> x.ix < (adQ W) -> (adQ c0.2.2.2.2.2.2.2.2.2.2.2.2) = (adQ W) ->
      aB (ed c0) ((i : Int), H, W, u, us, fr, n, cap, x) = adX (cu n x i H W)
  | 0, H, W, c, hn, hi, x1, l2 => by
    have hb := c.hb
    have RG := c.hn
    have dn := xf (u := u) (us := us) (fr := fr) (cap := cap) hx x0 n 0 H W (by omega) c hn hi x1 l2
    refine (aG (r := cu n x 0 H W) ?_)
    unfold ed
    have e1 : aen ((0 : Int) < ((0 : Nat) : Int)) = ael := by simp
    simp only [e1, lm, uS (show 0 < 1000000000 by omega)]
    rw [dn]
    unfold cu
    rw [iG]
  | i + 1, H, W, c, hn, hi, x1, l2 => by
    have hb := c.hb
    have RG := c.hn
    have e1 : aen ((0 : Int) < ((i + 1 : Nat) : Int)) = aec := decide_eq_true (by omega)
    have hp : i / 2 < n := by omega
    obtain ⟨qO, a1, a2⟩ := c.ev (i / 2) hp
    have g1 := fy (l := H) (n := n) (i := i / 2) (by omega) c.hn
    have s1 : (bQ (u, us, fr, n, cap, ((i + 1 : Nat) : Int), (H[i / 2]!).1, (H[i / 2]!).2.1, (H[i / 2]!).2.2.1, (H[i / 2]!).2.2.2.1, (H[i / 2]!).2.2.2.2, H, W)) = adX (H.set (i + 1) H[i / 2]!, W.set (H[i / 2]!).n ((i + 1 : Nat) : Int)) := EW (cap := cap) (by omega) c.hn a1 a2
    by_cases h : less x H[i / 2]!
    · have r : ed c0 (((i + 1 : Nat) : Int), H, W, u, us, fr, n, cap, x) = adX (.next (((i / 2 : Nat) : Int), H.set (i + 1) H[i / 2]!, W.set (H[i / 2]!).n ((i + 1 : Nat) : Int), u, us, fr, n, cap, x)) := by
        unfold ed
        simp only [e1, lc, rh (show i < 1000000000 by omega), g1, ao, dB hx qO, Dv, h, decide_true, s1]
      rw [aT r, GK hx x0 (i / 2) _ _ (c.move hi hp _ _) (by rw [pp]; exact hn) hp (by rw [pp]; exact x1) (by rw [pp]; exact l2)]
      have e : iG x (i + 1) H W = iG x (i / 2) (H.set (i + 1) H[i / 2]!) (W.set (H[i / 2]!).n ((i + 1 : Nat) : Int)) := by
        rw [iG, ls h]
      unfold cu
      rw [e]
    have dn := xf (u := u) (us := us) (fr := fr) (cap := cap) hx x0 n (i + 1) H W (by omega) c hn hi x1 l2
    refine (aG (r := cu n x (i + 1) H W) ?_)
    unfold ed
    simp only [e1, lc, rh (show i < 1000000000 by omega), g1, ao, dB hx qO, Dv, h, decide_false, lm, uS (show i + 1 < 1000000000 by omega)]
    rw [dn]
    unfold cu
    rw [iG, lw h]
termination_by i=>i
decreasing_by omega
theorem Ou {n cap:Nat} {u fr:List Int} {us:List Bool} {x:Ev} (hx:pH x) (x0:0<=x.ix) {i:Nat} {H:List Ev} {W:List Int} (c:lQ n H W) (hi:i<n) (x1:x.ix<adQ W):
 jw (u,us,fr,n,cap,(i:Int),x.1,x.2.1,x.2.2.1,x.2.2.2.1,x.2.2.2.2,H,W)=adX (cu n x i H W):=by
 unfold jw;exact GK hx x0 i H W c rfl hi x1 rfl
theorem GL {n cap:Nat} {H:List Ev} {W:List Int} {x:Ev} {u fr:List Int} {us:List Bool} {i k:Nat} (hi:i<n) (hk:k<n) (P5:k≠i) (hn:n<=adQ H) (x0:0<=x.ix) (x1:x.ix<adQ W) (k0:0<=(H[k]!).ix) (k1:(H[k]!).ix<adQ W):
 ie (u,us,fr,n,cap,(i:Int),(k:Int),H.set i x,W.set x.n (i:Int))=adX ((H.set i H[k]!).set k x,(W.set (H[k]!).n (i:Int)).set x.n (k:Int)):=by
 have cell: ∀w,(H.set i x)[w]! =if w=i then x else H[w]!:=by
  intro w;rw [bj]
  by_cases e:w=i
  · rw [ls ⟨e,by omega⟩,ls e]
  rw [lw (fun k=>e k.1),lw e]
 have sh:((H.set i x).set i H[k]!).set k x=(H.set i H[k]!).set k x:=by rw [PP]
 have sw:((W.set x.n (i:Int)).set (H[k]!).n (i:Int)).set x.n (k:Int)=(W.set (H[k]!).n (i:Int)).set x.n (k:Int):=by
  by_cases e:x.n=(H[k]!).n
  · simp only [e,PP]
  rw [ad0 _ _ (fun h=>e h),PP]
 have g1:aH ((H.set i x).take n) (k:Int)=adX H[k]!:=by rw [fy (by omega) (by rw [pp];omega),cell,lw P5]
 have g2:aH ((H.set i x).take n) (i:Int)=adX x:=by rw [fy (by omega) (by rw [pp];omega),cell,ls rfl]
 have g3:aH (((H.set i x).set i H[k]!).take n) (k:Int)=adX H[k]!:=by rw [fy (by omega) (by rw [pp,pp];omega),bj,lw (fun h=>P5 h.1),cell,lw P5]
 have g4:aH (((H.set i H[k]!).set k x).take n) (i:Int)=adX H[k]!:=by rw [fy (by omega) (by rw [pp,pp];omega),bj,lw (fun h=>P5 h.1.symm),bj,ls ⟨rfl,by omega⟩]
 have g5:aH (((H.set i H[k]!).set k x).take n) (k:Int)=adX x:=by rw [fy (by omega) (by rw [pp,pp];omega),bj,ls ⟨rfl,by rw [pp];omega⟩]
 have w6:=dD (l:=W.set x.n (i:Int)) k0 (by rw [pp];exact k1);have w7:=dD (l:=(W.set x.n (i:Int)).set (H[k]!).n (i:Int)) x0 (by rw [pp,pp];exact x1);have q1: ∀(l:List Int) (a:Int) (y:Ev),cp l y.2.2.2.1 a=l.set y.n a:=fun _ _ _=>rfl
 unfold ie;simp only [vG,g1,g2,g3,ao,sh,g4,g5,q1,w6,w7,sw,pp,beq_self_eq_true,lc]
theorem U0 {c0:List Int×List Bool×List Int×Nat×Nat×Int×List Ev×List Int} {n cap:Nat} {u fr:List Int} {us:List Bool} {x:Ev} (hx:pH x) (x0:0<=x.ix):
 ∀(i:Nat) (H:List Ev) (W:List Int),lQ n H W->i<n->x.ix<adQ W->adQ c0.2.2.2.2.2.2.1=adQ H->adQ c0.2.2.2.2.2.2.2=adQ W->
  aB (gq c0) ((i:Int),H.set i x,W.set x.n (i:Int),u,us,fr,n,cap)=adX (((iG x i H W).1:Int),(iG x i H W).2.1.set (iG x i H W).1 x,(iG x i H W).2.2.set x.n ((iG x i H W).1:Int))
 |0,H,W,c,hi,x1,l1,l2=>by
  have RG:=c.hn;refine aG ?_;unfold gq;have e1:aen ((0:Int)<((0:Nat):Int))=ael:=by simp
  rw [iG];simp only [e1,lm,pp,l1,l2,beq_self_eq_true,lc]
 |i+1,H,W,c,hi,x1,l1,l2=>by
  have hb:=c.hb;have RG:=c.hn;have e1:aen ((0:Int)<((i+1:Nat):Int))=aec:=decide_eq_true (by omega);have hp:i / 2<n:=by omega
  have ec:i / 2≠i+1:=by omega
  obtain ⟨qO,a1,a2⟩:=c.ev (i / 2) hp;have cell: ∀w,(H.set (i+1) x)[w]! =if w=i+1 then x else H[w]!:=by
   intro w;rw [bj]
   by_cases e:w=i+1
   · rw [ls ⟨e,by omega⟩,ls e]
   rw [lw (fun k=>e k.1),lw e]
  have g0:aH ((H.set (i+1) x).take n) ((i+1:Nat):Int)=adX x:=by rw [fy (by omega) (by rw [pp];omega),cell,ls rfl]
  have g1:aH ((H.set (i+1) x).take n) ((i / 2:Nat):Int)=adX H[i / 2]!:=by rw [fy (by omega) (by rw [pp];omega),cell,lw ec]
  by_cases h:less x H[i / 2]!
  · have sw:=GL (cap:=cap) (u:=u) (us:=us) (fr:=fr) (x:=x) hi hp ec RG x0 x1 a1 a2
    have r:gq c0 (((i+1:Nat):Int),H.set (i+1) x,W.set x.n ((i+1:Nat):Int),u,us,fr,n,cap)=adX (.next (((i / 2:Nat):Int),(H.set (i+1) H[i / 2]!).set (i / 2) x,(W.set (H[i / 2]!).n ((i+1:Nat):Int)).set x.n ((i / 2:Nat):Int),u,us,fr,n,cap)):=by unfold gq;simp only [e1,lc,rh (show i<1000000000 by omega),g0,g1,ao,mV hx qO,h,decide_true,sw]
    rw [aT r,U0 hx x0 (i / 2) _ _ (c.move hi hp _ _) hp (by rw [pp];exact x1) (by rw [pp];exact l1) (by rw [pp];exact l2)];have e:iG x (i+1) H W=iG x (i / 2) (H.set (i+1) H[i / 2]!) (W.set (H[i / 2]!).n ((i+1:Nat):Int)):=by rw [iG,ls h]
    rw [e]
  refine aG ?_
  unfold gq;have e:iG x (i+1) H W=(i+1,H,W):=by rw [iG,lw h]
  rw [e];simp only [e1,lc,rh (show i<1000000000 by omega),g0,g1,ao,mV hx qO,h,decide_false,lm,pp,l1,l2,beq_self_eq_true]
termination_by i=>i
decreasing_by omega
theorem Mc {c0:List Int×List Bool×List Int×Nat×Nat×Int×List Ev×List Int} {n cap:Nat} {u fr:List Int} {us:List Bool} {x:Ev} (hx:pH x) (x0:0<=x.ix):
 ∀(d i:Nat) (H:List Ev) (W:List Int),n-i<=d->lQ n H W->i<n->x.ix<adQ W->adQ c0.2.2.2.2.2.2.1=adQ H->adQ c0.2.2.2.2.2.2.2=adQ W->
  aB (jy c0) ((i:Int),H.set i x,W.set x.n (i:Int),u,us,fr,n,cap)=adX (((dG n x i H W).2.1.set (dG n x i H W).1 x,(dG n x i H W).2.2.set x.n ((dG n x i H W).1:Int)))
 |0,i,H,W,hd,c,hi,x1,l1,l2=>by omega
 |d+1,i,H,W,hd,c,hi,x1,l1,l2=>by
  have hb:=c.hb;have RG:=c.hn;have cell: ∀w,(H.set i x)[w]! =if w=i then x else H[w]!:=by
   intro w;rw [bj]
   by_cases e:w=i
   · rw [ls ⟨e,by omega⟩,ls e]
   rw [lw (fun k=>e k.1),lw e]
  have U1:(H.set i x).length=(adQ H):=pp;have body:jy c0 ((i:Int),H.set i x,W.set x.n (i:Int),u,us,fr,n,cap)=adX (if 2*i+1<n/\less H[gJ n H i]! x then .next (((gJ n H i:Nat):Int),(H.set i H[gJ n H i]!).set (gJ n H i) x,(W.set (H[gJ n H i]!).n (i:Int)).set x.n ((gJ n H i:Nat):Int),u,us,fr,n,cap) else .done ((H.set i x,W.set x.n (i:Int)))):=by
   have k1:=uS (show i<1000000000 by omega);unfold jy
   by_cases h1:2*i+1<n
   · have e1:aen ((n:Int)<=((2*i+1:Nat):Int))=ael:=decide_eq_false (by omega)
     have e2:aa .i64 (((2*i+1:Nat):Int)+1)=((2*i+2:Nat):Int):=aQ (by omega);obtain ⟨qO,a1,a2⟩:=c.ev (2*i+1) h1;have g0:aH ((H.set i x).take n) (i:Int)=adX x:=by rw [fy (by omega) (by rw [pp];omega),cell,ls rfl]
     have g1:aH ((H.set i x).take n) ((2*i+1:Nat):Int)=adX H[2*i+1]!:=by rw [fy (by omega) (by rw [pp];omega),cell,lw (by omega)]
     have s1:=GL (cap:=cap) (u:=u) (us:=us) (fr:=fr) (x:=x) hi h1 (by omega) RG x0 x1 a1 a2;simp only [ay,k1,U1,e1,e2,lm,g0,g1,ao,mV qO hx,s1,pp,l1,l2,beq_self_eq_true,lc]
     by_cases h2:2*i+2<n
     · have e3:aen (((2*i+2:Nat):Int)<(n:Int))=aec:=decide_eq_true (by omega)
       obtain ⟨RF,b1,b2⟩:=c.ev (2*i+2) h2;have g2:aH ((H.set i x).take n) ((2*i+2:Nat):Int)=adX H[2*i+2]!:=by rw [fy (by omega) (by rw [pp];omega),cell,lw (by omega)]
       have s2:=GL (cap:=cap) (u:=u) (us:=us) (fr:=fr) (x:=x) hi h2 (by omega) RG x0 x1 b1 b2;simp only [e3,lc,g2,ao,s2,mV RF hx,mV RF qO]
       by_cases h3:less H[2*i+2]! H[2*i+1]!
       · have k:gJ n H i=2*i+2:=by unfold gJ;rw [ls ⟨h2,h3⟩]
         rw [k]
         by_cases h4:less H[2*i+2]! x
         · simp only [h1,h3,h4,decide_true,lc,lm,EQ,and_self,if_true]
         simp only [h1,h3,h4,decide_true,decide_false,lc,AC,and_false,if_false]
       have k:gJ n H i=2*i+1:=by unfold gJ;rw [lw (fun h=>h3 h.2)]
       rw [k]
       by_cases h4:less H[2*i+1]! x
       · simp only [h1,h3,h4,decide_true,decide_false,lm,EQ,and_self,if_true]
       simp only [h1,h3,h4,decide_false,lc,lm,AC,and_false,if_false]
     have e3:aen (((2*i+2:Nat):Int)<(n:Int))=ael:=decide_eq_false (by omega)
     have k:gJ n H i=2*i+1:=by unfold gJ;rw [lw (fun h=>h2 h.1)]
     rw [k];simp only [e3,lm]
     by_cases h4:less H[2*i+1]! x
     · simp only [h1,h4,decide_true,lm,EQ,and_self,if_true]
     simp only [h1,h4,decide_false,lc,AC,and_false,if_false]
   have e1:aen ((n:Int)<=((2*i+1:Nat):Int))=aec:=decide_eq_true (by omega)
   rw [lw (fun h=>h1 h.1)];simp only [ay,k1,U1,e1,lc,pp,l1,l2,beq_self_eq_true]
  by_cases h:2*i+1<n/\less H[gJ n H i]! x
  · rw [ls h] at body
    have kc:=nM n H i;have kn:gJ n H i<n:=by omega
    rw [aT body,Mc hx x0 d (gJ n H i) _ _ (by omega) (c.move hi kn _ _) kn (by rw [pp];exact x1) (by rw [pp];exact l1) (by rw [pp];exact l2)];have e:dG n x i H W=dG n x (gJ n H i) (H.set i H[gJ n H i]!) (W.set (H[gJ n H i]!).n (i:Int)):=by rw [dG,dif_pos h.1,ls h.2]
    rw [e]
  rw [lw h] at body
  rw [aG body];have e:dG n x i H W=(i,H,W):=by
   rw [dG];split
   · rename_i h1;rw [lw (fun k=>h ⟨h1,k⟩)]
   rfl
  rw [e]
theorem Cm {n:Nat} {H:List Ev} {W:List Int} {x:Ev} {u fr:List Int} {us:List Bool} {i k:Nat} (hi:i<n) (hk:k<n) (P5:k≠i) (hn:n=adQ H) (x0:0<=x.ix) (x1:x.ix<adQ W) (k0:0<=(H[k]!).ix) (k1:(H[k]!).ix<adQ W):
 fL ((i:Int),(k:Int),u,us,fr,H.set i x,W.set x.n (i:Int))=adX (u,us,fr,(H.set i H[k]!).set k x,(W.set (H[k]!).n (i:Int)).set x.n (k:Int)):=by
 have cell: ∀w,(H.set i x)[w]! =if w=i then x else H[w]!:=by
  intro w;rw [bj]
  by_cases e:w=i
  · rw [ls ⟨e,by omega⟩,ls e]
  rw [lw (fun k=>e k.1),lw e]
 have sh:((H.set i x).set i H[k]!).set k x=(H.set i H[k]!).set k x:=by rw [PP]
 have sw:((W.set x.n (i:Int)).set (H[k]!).n (i:Int)).set x.n (k:Int)=(W.set (H[k]!).n (i:Int)).set x.n (k:Int):=by
  by_cases e:x.n=(H[k]!).n
  · simp only [e,PP]
  rw [ad0 _ _ (fun h=>e h),PP]
 have g1:aH ((H.set i x)) (k:Int)=adX H[k]!:=by rw [aq _ _ (by rw [pp];omega),cell,lw P5]
 have g2:aH ((H.set i x)) (i:Int)=adX x:=by rw [aq _ _ (by rw [pp];omega),cell,ls rfl]
 have g3:aH (((H.set i x).set i H[k]!)) (k:Int)=adX H[k]!:=by rw [aq _ _ (by rw [pp,pp];omega),bj,lw (fun h=>P5 h.1),cell,lw P5]
 have g4:aH (((H.set i H[k]!).set k x)) (i:Int)=adX H[k]!:=by rw [aq _ _ (by rw [pp,pp];omega),bj,lw (fun h=>P5 h.1.symm),bj,ls ⟨rfl,by omega⟩]
 have g5:aH (((H.set i H[k]!).set k x)) (k:Int)=adX x:=by rw [aq _ _ (by rw [pp,pp];omega),bj,ls ⟨rfl,by rw [pp];omega⟩]
 have w6:=dD (l:=W.set x.n (i:Int)) k0 (by rw [pp];exact k1);have w7:=dD (l:=(W.set x.n (i:Int)).set (H[k]!).n (i:Int)) x0 (by rw [pp,pp];exact x1);have q1: ∀(l:List Int) (a:Int) (y:Ev),cp l y.2.2.2.1 a=l.set y.n a:=fun _ _ _=>rfl
 unfold fL;simp only [vG,g1,g2,g3,ao,sh,g4,g5,q1,w6,w7,sw,pp,beq_self_eq_true,lc]
theorem U2 {c0:Int×List Int×List Bool×List Int×List Ev×List Int} {n:Nat} {u fr:List Int} {us:List Bool} {x:Ev} (hx:pH x) (x0:0<=x.ix) (l3:(adQ c0.2.1)=adQ u) (l4:(adQ c0.2.2.1)=adQ us) (l5:(adQ c0.2.2.2.1)=adQ fr):
 ∀(i:Nat) (H:List Ev) (W:List Int),lQ n H W->i<n->adQ H=n->x.ix<adQ W->adQ c0.2.2.2.2.1=adQ H->adQ c0.2.2.2.2.2=adQ W->
  aB (gr c0) ((i:Int),u,us,fr,H.set i x,W.set x.n (i:Int))=adX (((iG x i H W).1:Int),u,us,fr,(iG x i H W).2.1.set (iG x i H W).1 x,(iG x i H W).2.2.set x.n ((iG x i H W).1:Int))
 |0,H,W,c,hi,P6,x1,l1,l2=>by
  have RG:=c.hn;refine aG ?_;unfold gr;have e1:aen ((0:Int)<((0:Nat):Int))=ael:=by simp
  rw [iG];simp only [e1,lm,pp,l1,l2,l3,l4,l5,beq_self_eq_true,lc]
 |i+1,H,W,c,hi,P6,x1,l1,l2=>by
  have hb:=c.hb;have RG:=c.hn;have e1:aen ((0:Int)<((i+1:Nat):Int))=aec:=decide_eq_true (by omega);have hp:i / 2<n:=by omega
  have ec:i / 2≠i+1:=by omega
  obtain ⟨qO,a1,a2⟩:=c.ev (i / 2) hp;have cell: ∀w,(H.set (i+1) x)[w]! =if w=i+1 then x else H[w]!:=by
   intro w;rw [bj]
   by_cases e:w=i+1
   · rw [ls ⟨e,by omega⟩,ls e]
   rw [lw (fun k=>e k.1),lw e]
  have g0:aH ((H.set (i+1) x)) ((i+1:Nat):Int)=adX x:=by rw [aq _ _ (by rw [pp];omega),cell,ls rfl]
  have g1:aH ((H.set (i+1) x)) ((i / 2:Nat):Int)=adX H[i / 2]!:=by rw [aq _ _ (by rw [pp];omega),cell,lw ec]
  by_cases h:less x H[i / 2]!
  · have sw:=Cm (u:=u) (us:=us) (fr:=fr) (x:=x) hi hp ec P6.symm x0 x1 a1 a2
    have r:gr c0 (((i+1:Nat):Int),u,us,fr,H.set (i+1) x,W.set x.n ((i+1:Nat):Int))=adX (.next (((i / 2:Nat):Int),u,us,fr,(H.set (i+1) H[i / 2]!).set (i / 2) x,(W.set (H[i / 2]!).n ((i+1:Nat):Int)).set x.n ((i / 2:Nat):Int))):=by unfold gr;simp only [e1,lc,rh (show i<1000000000 by omega),g0,g1,ao,mV hx qO,h,decide_true,sw]
    rw [aT r,U2 hx x0 l3 l4 l5 (i / 2) _ _ (c.move hi hp _ _) hp (by rw [pp];exact P6) (by rw [pp];exact x1) (by rw [pp];exact l1) (by rw [pp];exact l2)];have e:iG x (i+1) H W=iG x (i / 2) (H.set (i+1) H[i / 2]!) (W.set (H[i / 2]!).n ((i+1:Nat):Int)):=by rw [iG,ls h]
    rw [e]
  refine aG ?_
  unfold gr;have e:iG x (i+1) H W=(i+1,H,W):=by rw [iG,lw h]
  rw [e];simp only [e1,lc,rh (show i<1000000000 by omega),g0,g1,ao,mV hx qO,h,decide_false,lm,pp,l1,l2,l3,l4,l5,beq_self_eq_true]
termination_by i=>i
decreasing_by omega
theorem Md {c0:Int×List Int×List Bool×List Int×List Ev×List Int} {n:Nat} {u fr:List Int} {us:List Bool} {x:Ev} (hx:pH x) (x0:0<=x.ix) (l3:(adQ c0.2.1)=adQ u) (l4:(adQ c0.2.2.1)=adQ us) (l5:(adQ c0.2.2.2.1)=adQ fr):
 ∀(d i:Nat) (H:List Ev) (W:List Int),n-i<=d->lQ n H W->i<n->adQ H=n->x.ix<adQ W->adQ c0.2.2.2.2.1=adQ H->adQ c0.2.2.2.2.2=adQ W->
  aB (jz c0) ((i:Int),u,us,fr,H.set i x,W.set x.n (i:Int))=adX ((u,us,fr,(dG n x i H W).2.1.set (dG n x i H W).1 x,(dG n x i H W).2.2.set x.n ((dG n x i H W).1:Int)))
 |0,i,H,W,hd,c,hi,P6,x1,l1,l2=>by omega
 |d+1,i,H,W,hd,c,hi,P6,x1,l1,l2=>by
  have hb:=c.hb;have RG:=c.hn;have cell: ∀w,(H.set i x)[w]! =if w=i then x else H[w]!:=by
   intro w;rw [bj]
   by_cases e:w=i
   · rw [ls ⟨e,by omega⟩,ls e]
   rw [lw (fun k=>e k.1),lw e]
  have U1:(H.set i x).length=(adQ H):=pp;have body:jz c0 ((i:Int),u,us,fr,H.set i x,W.set x.n (i:Int))=adX (if 2*i+1<n/\less H[gJ n H i]! x then .next (((gJ n H i:Nat):Int),u,us,fr,(H.set i H[gJ n H i]!).set (gJ n H i) x,(W.set (H[gJ n H i]!).n (i:Int)).set x.n ((gJ n H i:Nat):Int)) else .done ((u,us,fr,H.set i x,W.set x.n (i:Int)))):=by
   have k1:=uS (show i<1000000000 by omega);unfold jz
   by_cases h1:2*i+1<n
   · have e1:aen ((n:Int)<=((2*i+1:Nat):Int))=ael:=decide_eq_false (by omega)
     have e2:aa .i64 (((2*i+1:Nat):Int)+1)=((2*i+2:Nat):Int):=aQ (by omega);obtain ⟨qO,a1,a2⟩:=c.ev (2*i+1) h1;have g0:aH ((H.set i x)) (i:Int)=adX x:=by rw [aq _ _ (by rw [pp];omega),cell,ls rfl]
     have g1:aH ((H.set i x)) ((2*i+1:Nat):Int)=adX H[2*i+1]!:=by rw [aq _ _ (by rw [pp];omega),cell,lw (by omega)]
     have s1:=Cm (u:=u) (us:=us) (fr:=fr) (x:=x) hi h1 (by omega) P6.symm x0 x1 a1 a2;simp only [ay,k1,U1,P6,e1,e2,lm,g0,g1,ao,mV qO hx,s1,pp,l1,l2,l3,l4,l5,beq_self_eq_true,lc]
     by_cases h2:2*i+2<n
     · have e3:aen (((2*i+2:Nat):Int)<(n:Int))=aec:=decide_eq_true (by omega)
       obtain ⟨RF,b1,b2⟩:=c.ev (2*i+2) h2;have g2:aH ((H.set i x)) ((2*i+2:Nat):Int)=adX H[2*i+2]!:=by rw [aq _ _ (by rw [pp];omega),cell,lw (by omega)]
       have s2:=Cm (u:=u) (us:=us) (fr:=fr) (x:=x) hi h2 (by omega) P6.symm x0 x1 b1 b2;simp only [e3,lc,g2,ao,s2,mV RF hx,mV RF qO]
       by_cases h3:less H[2*i+2]! H[2*i+1]!
       · have k:gJ n H i=2*i+2:=by unfold gJ;rw [ls ⟨h2,h3⟩]
         rw [k]
         by_cases h4:less H[2*i+2]! x
         · simp only [h1,h3,h4,decide_true,lc,lm,EQ,and_self,if_true]
         simp only [h1,h3,h4,decide_true,decide_false,lc,AC,and_false,if_false]
       have k:gJ n H i=2*i+1:=by unfold gJ;rw [lw (fun h=>h3 h.2)]
       rw [k]
       by_cases h4:less H[2*i+1]! x
       · simp only [h1,h3,h4,decide_true,decide_false,lm,EQ,and_self,if_true]
       simp only [h1,h3,h4,decide_false,lc,lm,AC,and_false,if_false]
     have e3:aen (((2*i+2:Nat):Int)<(n:Int))=ael:=decide_eq_false (by omega)
     have k:gJ n H i=2*i+1:=by unfold gJ;rw [lw (fun h=>h2 h.1)]
     rw [k];simp only [e3,lm]
     by_cases h4:less H[2*i+1]! x
     · simp only [h1,h4,decide_true,lm,EQ,and_self,if_true]
     simp only [h1,h4,decide_false,lc,AC,and_false,if_false]
   have e1:aen ((n:Int)<=((2*i+1:Nat):Int))=aec:=decide_eq_true (by omega)
   rw [lw (fun h=>h1 h.1)];simp only [ay,k1,U1,P6,e1,lc,pp,l1,l2,l3,l4,l5,beq_self_eq_true]
  by_cases h:2*i+1<n/\less H[gJ n H i]! x
  · rw [ls h] at body
    have kc:=nM n H i;have kn:gJ n H i<n:=by omega
    rw [aT body,Md hx x0 l3 l4 l5 d (gJ n H i) _ _ (by omega) (c.move hi kn _ _) kn (by rw [pp];exact P6) (by rw [pp];exact x1) (by rw [pp];exact l1) (by rw [pp];exact l2)];have e:dG n x i H W=dG n x (gJ n H i) (H.set i H[gJ n H i]!) (W.set (H[gJ n H i]!).n (i:Int)):=by rw [dG,dif_pos h.1,ls h.2]
    rw [e]
  rw [lw h] at body
  rw [aG body];have e:dG n x i H W=(i,H,W):=by
   rw [dG];split
   · rename_i h1;rw [lw (fun k=>h ⟨h1,k⟩)]
   rfl
  rw [e]
theorem U3 {n:Nat} {H:List Ev} {W:List Int} {x:Ev} {u fr:List Int} {us:List Bool} {i k:Nat} (hi:i<n) (hk:k<n) (P5:k≠i) (hn:n=adQ H) (x0:0<=x.ix) (x1:x.ix<adQ W) (k0:0<=(H[k]!).ix) (k1:(H[k]!).ix<adQ W):
 pE (u,us,fr,(i:Int),(k:Int),H.set i x,W.set x.n (i:Int))=adX ((H.set i H[k]!).set k x,(W.set (H[k]!).n (i:Int)).set x.n (k:Int)):=by
 have cell: ∀w,(H.set i x)[w]! =if w=i then x else H[w]!:=by
  intro w;rw [bj]
  by_cases e:w=i
  · rw [ls ⟨e,by omega⟩,ls e]
  rw [lw (fun k=>e k.1),lw e]
 have sh:((H.set i x).set i H[k]!).set k x=(H.set i H[k]!).set k x:=by rw [PP]
 have sw:((W.set x.n (i:Int)).set (H[k]!).n (i:Int)).set x.n (k:Int)=(W.set (H[k]!).n (i:Int)).set x.n (k:Int):=by
  by_cases e:x.n=(H[k]!).n
  · simp only [e,PP]
  rw [ad0 _ _ (fun h=>e h),PP]
 have g1:aH ((H.set i x)) (k:Int)=adX H[k]!:=by rw [aq _ _ (by rw [pp];omega),cell,lw P5]
 have g2:aH ((H.set i x)) (i:Int)=adX x:=by rw [aq _ _ (by rw [pp];omega),cell,ls rfl]
 have g3:aH (((H.set i x).set i H[k]!)) (k:Int)=adX H[k]!:=by rw [aq _ _ (by rw [pp,pp];omega),bj,lw (fun h=>P5 h.1),cell,lw P5]
 have g4:aH (((H.set i H[k]!).set k x)) (i:Int)=adX H[k]!:=by rw [aq _ _ (by rw [pp,pp];omega),bj,lw (fun h=>P5 h.1.symm),bj,ls ⟨rfl,by omega⟩]
 have g5:aH (((H.set i H[k]!).set k x)) (k:Int)=adX x:=by rw [aq _ _ (by rw [pp,pp];omega),bj,ls ⟨rfl,by rw [pp];omega⟩]
 have w6:=dD (l:=W.set x.n (i:Int)) k0 (by rw [pp];exact k1);have w7:=dD (l:=(W.set x.n (i:Int)).set (H[k]!).n (i:Int)) x0 (by rw [pp,pp];exact x1);have q1: ∀(l:List Int) (a:Int) (y:Ev),cp l y.2.2.2.1 a=l.set y.n a:=fun _ _ _=>rfl
 unfold pE;simp only [vG,g1,g2,g3,ao,sh,g4,g5,q1,w6,w7,sw,pp,beq_self_eq_true,lc]
theorem U4 {c0:List Int×List Bool×List Int×Int×List Ev×List Int} {n:Nat} {u fr:List Int} {us:List Bool} {x:Ev} (hx:pH x) (x0:0<=x.ix):
 ∀(i:Nat) (H:List Ev) (W:List Int),lQ n H W->i<n->adQ H=n->x.ix<adQ W->adQ c0.2.2.2.2.1=adQ H->adQ c0.2.2.2.2.2=adQ W->
  aB (gu c0) ((i:Int),H.set i x,W.set x.n (i:Int),u,us,fr)=adX (((iG x i H W).1:Int),(iG x i H W).2.1.set (iG x i H W).1 x,(iG x i H W).2.2.set x.n ((iG x i H W).1:Int))
 |0,H,W,c,hi,P6,x1,l1,l2=>by
  have RG:=c.hn;refine aG ?_;unfold gu;have e1:aen ((0:Int)<((0:Nat):Int))=ael:=by simp
  rw [iG];simp only [e1,lm,pp,l1,l2,beq_self_eq_true,lc]
 |i+1,H,W,c,hi,P6,x1,l1,l2=>by
  have hb:=c.hb;have RG:=c.hn;have e1:aen ((0:Int)<((i+1:Nat):Int))=aec:=decide_eq_true (by omega);have hp:i / 2<n:=by omega
  have ec:i / 2≠i+1:=by omega
  obtain ⟨qO,a1,a2⟩:=c.ev (i / 2) hp;have cell: ∀w,(H.set (i+1) x)[w]! =if w=i+1 then x else H[w]!:=by
   intro w;rw [bj]
   by_cases e:w=i+1
   · rw [ls ⟨e,by omega⟩,ls e]
   rw [lw (fun k=>e k.1),lw e]
  have g0:aH ((H.set (i+1) x)) ((i+1:Nat):Int)=adX x:=by rw [aq _ _ (by rw [pp];omega),cell,ls rfl]
  have g1:aH ((H.set (i+1) x)) ((i / 2:Nat):Int)=adX H[i / 2]!:=by rw [aq _ _ (by rw [pp];omega),cell,lw ec]
  by_cases h:less x H[i / 2]!
  · have sw:=U3 (u:=u) (us:=us) (fr:=fr) (x:=x) hi hp ec P6.symm x0 x1 a1 a2
    have r:gu c0 (((i+1:Nat):Int),H.set (i+1) x,W.set x.n ((i+1:Nat):Int),u,us,fr)=adX (.next (((i / 2:Nat):Int),(H.set (i+1) H[i / 2]!).set (i / 2) x,(W.set (H[i / 2]!).n ((i+1:Nat):Int)).set x.n ((i / 2:Nat):Int),u,us,fr)):=by unfold gu;simp only [e1,lc,rh (show i<1000000000 by omega),g0,g1,ao,mV hx qO,h,decide_true,sw]
    rw [aT r,U4 hx x0 (i / 2) _ _ (c.move hi hp _ _) hp (by rw [pp];exact P6) (by rw [pp];exact x1) (by rw [pp];exact l1) (by rw [pp];exact l2)];have e:iG x (i+1) H W=iG x (i / 2) (H.set (i+1) H[i / 2]!) (W.set (H[i / 2]!).n ((i+1:Nat):Int)):=by rw [iG,ls h]
    rw [e]
  refine aG ?_
  unfold gu;have e:iG x (i+1) H W=(i+1,H,W):=by rw [iG,lw h]
  rw [e];simp only [e1,lc,rh (show i<1000000000 by omega),g0,g1,ao,mV hx qO,h,decide_false,lm,pp,l1,l2,beq_self_eq_true]
termination_by i=>i
decreasing_by omega
theorem aA {p:Prop} [Decidable p] (h: ¬p):decide p=ael:=decide_eq_false h
theorem aF {p:Prop} [Decidable p] (h:p):decide p=aec:=decide_eq_true h
theorem Me (az:List Int) (be:List Bool) (fr:List Int) (fl:List Bool) (h1:(adQ az)<=200) (h2:(adQ be)=adQ az) (h3:(adQ fl)=adQ az):
 ((∀i,i<adQ az->0<=az[i]!/\az[i]!<=1000000/\be[i]!≠fl[i]!/\(be[i]! =aec->1<=az[i]!))->aB jJ (((adQ az):Int),0,az,be,fr,fl)=adX (.done 0))/\
 (¬(∀i,i<adQ az->0<=az[i]!/\az[i]!<=1000000/\be[i]!≠fl[i]!/\(be[i]! =aec->1<=az[i]!))->aB jJ (((adQ az):Int),0,az,be,fr,fl)=adX (.done 8)):=by
 have key:=c7 (body:=jJ) (fun i=>(((adQ az):Int),(i:Int),az,be,fr,fl)) (adQ az) (fun i=> ¬(0<=az[i]!/\az[i]!<=1000000/\be[i]!≠fl[i]!/\(be[i]! =aec->1<=az[i]!))) (r:= .done 8) (e:= .done 0) (fun i hi=>by
  have e1:aen ((i:Int)<((adQ az):Int))=aec:=aF (by omega);unfold jJ;simp only [e1,lc,aq az i hi,aq be i (by omega),aq fl i (by omega),ao,aQ (show i<1000000000 by omega)];generalize az[i]! =u;generalize be[i]! =a;generalize fl[i]! =b
  by_cases a1:u<0
  · simp only [a1,decide_true,lc];exact ⟨fun _=>trivial,fun h=>absurd (sp.1 h).1 (by omega)⟩
  · by_cases a2:1000000<u
    · simp only [a1,a2,decide_true,decide_false,lc,lm];exact ⟨fun _=>trivial,fun h=>absurd (sp.1 h).2.1 (by omega)⟩
    simp only [a1,a2,decide_false,lm]
    by_cases a3:u<1
    · cases a<;>cases b<;>simp [a3]<;>omega
    cases a<;>cases b<;>simp [a3]<;>omega) (by
  unfold jJ;have:aen (((adQ az):Int)<((adQ az):Int))=ael:=aA (by omega);simp only [this,lm])
 constructor
 · intro h
   exact key.2 fun i hi=>sp.2 (h i hi)
 intro h
 obtain ⟨i,h⟩:=Do.1 h;obtain ⟨hi,hx⟩:=acg.1 h;exact key.1 ⟨i,hi,hx⟩
theorem GM {α:Type} {n:Nat} (z:α) (h:n<=1048576):vt (n:Int) z=adX (ut n z):=by unfold vt;rw [ls ⟨by omega,by omega⟩];simp
theorem GN (s:aS) (hf:(adQ s.bi)<=1000000):tZ s=adX (if eE s then 0 else 8):=by
 obtain ⟨az,be,fr⟩:=s;dsimp only at hf;unfold tZ;simp only [ay]
 by_cases a1:(adQ az)<1
 · have e:aen (((adQ az):Int)<1)=aec:=aF (by omega)
   rw [e,lw (fun h=>by have:=h.n1;dsimp only at this;omega)];rfl
 have e1:aen (((adQ az):Int)<1)=ael:=aA (by omega)
 by_cases a2:200<adQ az
 · have e:aen (200<((adQ az):Int))=aec:=aF (by omega)
   rw [e1,e,lw (fun h=>by have:=h.n2;dsimp only at this;omega)];rfl
 have e2:aen (200<((adQ az):Int))=ael:=aA (by omega)
 by_cases a3:(adQ be)=adQ az
 case neg=>have e:(((adQ be):Int) !=((adQ az):Int))=aec:=cO (by omega);rw [e1,e2,e,lw (fun h=>a3 h.ul)];rfl
 have e3:(((adQ be):Int) !=((adQ az):Int))=ael:=bF (by omega)
 by_cases a4:(adQ az)<adQ fr
 · have e:aen (((adQ az):Int)<((adQ fr):Int))=aec:=aF (by omega)
   rw [e1,e2,e3,e,lw (fun h=>by have:=h.fl;dsimp only at this;omega)];rfl
 have e4:aen (((adQ az):Int)<((adQ fr):Int))=ael:=aA (by omega);simp only [e1,e2,e3,e4,lm,beq_self_eq_true,lc,GM ael (show (adQ az)<=1048576 by omega),ao];have ml: ∀k,(marks (ut (adQ az) ael) (fr.take k)).length=(adQ az):=fun k=>by rw [mh,M2]
 have ml':(marks (ut (adQ az) ael) fr).length=(adQ az):=by rw [mh,M2]
 have rep: ∀i:Nat,(ut (adQ az) ael)[i]! =ael:=by
  intro i
  by_cases h:i<adQ az
  · rw [getElem!_pos _ i (by simpa using h),List.getElem_replicate]
  rw [getElem!_neg _ i (by simpa using h)];rfl
 have GD:=Me az be fr (marks (ut (adQ az) ael) fr) (by omega) a3 ml';have key:=c7 (body:=oA) (fun k=>(((adQ az):Int),(k:Int),az,be,fr,marks (ut (adQ az) ael) (fr.take k))) (adQ fr)
  (fun k=>fr[k]!<0\/((adQ az):Int)<=fr[k]!\/(marks (ut (adQ az) ael) (fr.take k))[(fr[k]!).toNat]! =aec) (r:=8)
  (e:=if (∀i,i<adQ az->0<=az[i]!/\az[i]!<=1000000/\be[i]!≠(marks (ut (adQ az) ael) fr)[i]!/\(be[i]! =aec->1<=az[i]!)) then 0 else 8) (fun k hk=>by
   have f1:aen ((k:Int)<((adQ fr):Int))=aec:=aF (by omega);have f5:marks (ut (adQ az) ael) (fr.take (k+1))=cp (marks (ut (adQ az) ael) (fr.take k)) fr[k]! aec:=by rw [gb hk,Bh]
   unfold oA;simp only [ay,f1,lc,aq fr k hk,ao,aQ (show k<1000000000 by omega),f5];clear f5;generalize fr[k]! =x
   by_cases b1:x<0
   · simp [b1]
   · by_cases b2:((adQ az):Int)<=x
     · simp [b1,b2]
     simp only [b1,b2,decide_false,lm,false_or]
     rw [dD (l:=marks (ut (adQ az) ael) (fr.take k)) (i:=x) (by omega) (by rw [ml];omega)];simp only [ao];cases (marks (ut (adQ az) ael) (fr.take k))[x.toNat]!<;>simp) (by
   have f1:aen (((adQ fr):Int)<((adQ fr):Int))=ael:=aA (by omega);unfold oA;simp only [ay,f1,lm,adh]
   by_cases hx:(∀i,i<adQ az->0<=az[i]!/\az[i]!<=1000000/\be[i]!≠(marks (ut (adQ az) ael) fr)[i]!/\(be[i]! =aec->1<=az[i]!))
   · rw [ls hx];exact GD.1 hx
   rw [lw hx];exact GD.2 hx)
 have h0:marks (ut (adQ az) ael) (fr.take 0)=ut (adQ az) ael:=rfl;rw [show ((0:Nat):Int)=0 from rfl,h0] at key
 by_cases bad: ∃k,k<adQ fr/\(fr[k]!<0\/((adQ az):Int)<=fr[k]!\/(marks (ut (adQ az) ael) (fr.take k))[(fr[k]!).toNat]! =aec)
 · rw [key.1 bad,lw]
   intro ok;obtain ⟨k,hk,hb⟩:=bad;have hr:=ok.fr fr[k]! (aV hk);dsimp only at hr;rcases hb with hb|hb|hb
   · omega
   · omega
   rw [nL _ _ _ (fun x hx=>(ok.fr x (abA hx)).1) (by rw [M2];omega),rep,ad2] at hb
   have hi:((fr[k]!).toNat:Int)=fr[k]!:=by omega
   rw [hi] at hb;have hm:fr[k]!∈fr.take k:=of_decide_eq_true hb;obtain ⟨j,h1,h2,h3⟩:=bS.1 hm;exact iF.1 ok.fd j k h1 hk h3
 have Oo: ∀k,k<adQ fr->0<=fr[k]!/\fr[k]!<adQ az/\(marks (ut (adQ az) ael) (fr.take k))[(fr[k]!).toNat]! =ael:=by
  intro k hk;refine ⟨?_,?_,?_⟩
  · exact Int.not_lt.1 fun h=>bad ⟨k,hk,.inl h⟩
  · exact Int.not_le.1 fun h=>bad ⟨k,hk,.inr (.inl h)⟩
  exact acA _▸fun h=>bad ⟨k,hk,.inr (.inr h)⟩
 rw [key.2 fun k hk hb=>bad ⟨k,hk,hb⟩];have P3: ∀x∈fr,0<=x/\x<((adQ az):Int):=by intro x hx;obtain ⟨k,hk,rfl⟩:=aP.1 hx;exact ⟨(Oo k hk).1,(Oo k hk).2.1⟩
 have g2: ∀k,k<adQ fr->fr[k]!∉fr.take k:=by intro k hk;obtain ⟨c1,c2,c3⟩:=Oo k hk;rw [nL _ _ _ (fun x hx=>(P3 x (abA hx)).1) (by rw [M2];omega),show ((fr[k]!).toNat:Int)=fr[k]! by omega,rep,ad2] at c3;exact of_decide_eq_false c3
 have nd:fr.Nodup:=iF.2 fun i j lS hj he=>g2 j hj (bS.2 ⟨i,lS,by omega,he⟩)
 have fl: ∀i,i<adQ az->(marks (ut (adQ az) ael) fr)[i]! =aen ((i:Int)∈fr):=by intro i hi;rw [nL _ _ _ (fun x hx=>(P3 x hx).1) (by rw [M2];omega),rep,ad2]
 by_cases hx:(∀i,i<adQ az->0<=az[i]!/\az[i]!<=1000000/\be[i]!≠(marks (ut (adQ az) ael) fr)[i]!/\(be[i]! =aec->1<=az[i]!))
 · rw [ls hx,ls]
   refine ⟨by show 1<=adQ az;omega,by show (adQ az)<=200;omega,a3,P3,nd,fun i hi=>?_,fun i hi=>?_⟩
   · have:=(hx i hi).2.2.1
     rw [fl i hi] at this;dsimp only;cases h:be[i]! with
     |true=>rw [h] at this;refine ⟨fun _ hm=>?_,fun _=>rfl⟩;rw [aF hm] at this;exact this rfl
     |false=>rw [h] at this;refine ⟨fun h=>(by cases h),fun hm=>?_⟩;rw [aA hm] at this;exact absurd rfl this
   have:=hx i hi
   exact ⟨this.1,this.2.1,this.2.2.2⟩
 rw [lw hx,lw]
 intro ok;refine hx fun i hi=>?_
 obtain ⟨u1,u2,u3⟩:=ok.us i hi;refine ⟨u1,u2,?_,u3⟩;rw [fl i hi];have:=ok.uf i hi;dsimp only at this;intro he
 by_cases hm:(i:Int)∈fr
 · rw [aF hm] at he;exact (this.1 he) hm
 rw [aA hm] at he
 have:=this.2 hm;rw [he] at this;cases this
structure yW (a:aK):Prop where
 fr:(adQ a.af.bi)<=1000000
 hp:(adQ a.bv)<=1000000
 wh:(adQ a.aj)<=1000000
 Ov: ∀w,w<adQ a.bv->jf ((a.bv[w]!).1,(a.bv[w]!).2.1)
structure ez (a:aK):Prop where
 so:eE a.af
 wl:(adQ a.aj)=adQ a.af.az
 hl:(adQ a.bv)+adQ a.af.bi=adQ a.af.az
 fwd: ∀i,i<adQ a.af.az->a.af.be[i]! =aec->0<=a.aj[i]!/\a.aj[i]!<adQ a.bv/\(Ev.ix a.bv[(a.aj[i]!).toNat]!)=i/\(a.bv[(a.aj[i]!).toNat]!).2.2.2.2=a.af.az[i]!
 un: ∀i,i<adQ a.af.az->a.af.be[i]! =ael->a.aj[i]! = -1
 ev: ∀w,w<adQ a.bv->pH a.bv[w]!
 nd: ∀v w,v<w->w<adQ a.bv->(Ev.num a.bv[v]!)≠(Ev.num a.bv[w]!)
 ord: ∀k,0<k->k<adQ a.bv-> ¬less a.bv[k]! a.bv[(k-1) / 2]!
theorem cover: ∀(n:Nat) (l:List Nat),(∀x,x<n->x∈l)->n<=adQ l
 |0,_,_=>Nat.zero_le _
 |n+1,l,h=>by have hn:=h n (by omega);have:=cover n (l.erase n) (fun x hx=>by rw [List.mem_erase_of_ne (by omega)];exact h x (by omega));rw [List.length_erase_of_mem hn] at this;have:=List.length_pos_of_mem hn;omega
def IK (s:aS):List Nat:=(List.range (adQ s.az)).filter fun i=>s.be[i]!
theorem zH {s:aS} {i:Nat}:i∈IK s↔i<adQ s.az/\s.be[i]! =aec:=by unfold IK;rw [ads,List.mem_range]
theorem zI {α β:Type} {f:α->β}: ∀{l:List α},l.Nodup->(∀x∈l,∀y∈l,f x=f y->x=y)->(l.map f).Nodup
 | [],_,_=>by simp
 |a::l,h,hf=>by rw [aci] at h;rw [List.map_cons,aci];refine ⟨?_,zI h.2 fun x hx y hy=>hf x (by simp [hx]) y (by simp [hy])⟩;intro hm;obtain ⟨b,hb,e⟩:=ab0.1 hm;have:=hf b (by simp [hb]) a (by simp) e;subst this;exact h.1 hb
theorem ez.back {a:aK} (ok:ez a) {w:Nat} (hw:w<adQ a.bv):0<=(Ev.ix a.bv[w]!)/\(Ev.ix a.bv[w]!)<adQ a.af.az/\a.af.be[(Ev.n a.bv[w]!)]! =aec/\a.af.az[(Ev.n a.bv[w]!)]! =(a.bv[w]!).2.2.2.2/\a.aj[(Ev.n a.bv[w]!)]! =(w:Int):=by
 have so:=ok.so;have len:(adQ a.af.az)<=(IK a.af).length+(adQ a.af.bi):=by
  have:=cover (adQ a.af.az) (IK a.af++a.af.bi.map adI) (fun x hx=>by
   rw [acE]
   by_cases hu:a.af.be[x]! =aec
   · exact .inl (zH.2 ⟨hx,hu⟩)
   right
   have:=so.uf x hx;have hm:(x:Int)∈a.af.bi:=If fun hc=>hu (this.2 hc)
   exact ab0.2 ⟨_,hm,by omega⟩)
  rw [List.length_append,acj] at this;exact this
 have f0: ∀i∈IK a.af,0<=a.aj[i]!/\a.aj[i]!<adQ a.bv/\(Ev.ix a.bv[(a.aj[i]!).toNat]!)=i/\(a.bv[(a.aj[i]!).toNat]!).2.2.2.2=a.af.az[i]!:=fun i hi=>ok.fwd i (zH.1 hi).1 (zH.1 hi).2
 have full:=D' (n:=adQ a.bv) (l:=(IK a.af).map fun i=>(a.aj[i]!).toNat) (by
  refine zI ?_ ?_
  · exact List.Pairwise.filter _ List.nodup_range
  · intro x hx y hy he
    have h1:=(f0 x hx).2.2.1;have h2:=(f0 y hy).2.2.1;rw [he] at h1;omega) (by
  intro x hx;obtain ⟨i,hi,rfl⟩:=ab0.1 hx;have:=f0 i hi;omega) (by
  rw [acj];have:=ok.hl;omega) w hw
 obtain ⟨i,hi,e⟩:=ab0.1 full;obtain ⟨c1,c2,c3,c4⟩:=f0 i hi;obtain ⟨d1,d2⟩:=zH.1 hi;rw [e] at c3 c4;have hn:(Ev.n a.bv[w]!)=i:=by show ((Ev.ix a.bv[w]!)).toNat=i;omega
 rw [hn];refine ⟨by omega,by omega,d2,c4.symm,by omega⟩
noncomputable def Ow (x y:Ev):Int:=if aX (x.1,x.2.1)/\aX (y.1,y.2.1) then GH x y else iO x.2.2.1 y.2.2.1
theorem Bj {x y:Ev} (hx:jf (x.1,x.2.1)) (hy:jf (y.1,y.2.1)):cd x y=adX (Ow x y):=by
 unfold cd Ow GH;rw [Dt hx hy]
 by_cases h:aX (x.1,x.2.1)/\aX (y.1,y.2.1)
 · rw [ls h,ls h]
   simp only [ao,iE,zD]
 rw [lw h,lw h]
 simp only [ao,iE,zD];simp
def GO (a:aK) (i:Nat):Prop:=(a.af.be[i]! =aec->0<=a.aj[i]!/\a.aj[i]!<adQ a.bv/\(Ev.ix a.bv[(a.aj[i]!).toNat]!)=i/\(a.bv[(a.aj[i]!).toNat]!).2.2.2.2=a.af.az[i]!)/\(a.af.be[i]! =ael->a.aj[i]! = -1)
def HN (H:List Ev) (k:Nat):Prop:=aX ((H[k]!).1,(H[k]!).2.1)/\0<=(H[k]!).2.2.1/\(H[k]!).2.2.1<=1000000/\(∀j,j<k->(H[j]!).2.2.1≠(H[k]!).2.2.1)/\(0<k-> ¬Ow H[k]! H[(k-1) / 2]!<0)
theorem ez.of {a:aK} (fit:yW a) (so:eE a.af) (wl:(adQ a.aj)=adQ a.af.az) (hl:(adQ a.bv)+adQ a.af.bi=adQ a.af.az) (wh: ∀i,i<adQ a.af.az->GO a i) (hp: ∀k,k<adQ a.bv->HN a.bv k):ez a:=by
 have ev: ∀w,w<adQ a.bv->pH a.bv[w]!:=fun w hw=>⟨(hp w hw).1,fit.Ov w hw,(hp w hw).2.1,(hp w hw).2.2.1⟩
 refine ⟨so,wl,hl,fun i hi=>(wh i hi).1,fun i hi=>(wh i hi).2,ev,fun v w hv hw=>(hp w hw).2.2.2.1 v hv,fun k k0 hk=>?_⟩;have:=(hp k hk).2.2.2.2 k0;unfold Ow at this;rw [ls ⟨(hp k hk).1,(hp ((k-1) / 2) (by omega)).1⟩,Cl] at this;exact this
theorem ez.to {a:aK} (ok:ez a):(∀i,i<adQ a.af.az->GO a i)/\(∀k,k<adQ a.bv->HN a.bv k):=by refine ⟨fun i hi=>⟨ok.fwd i hi,ok.un i hi⟩,fun k hk=>?_⟩;have e:=ok.ev k hk;refine ⟨e.1,e.2.2.1,e.2.2.2,fun j hj=>ok.nd j k hj hk,fun k0=>?_⟩;unfold Ow;rw [ls ⟨e.1,(ok.ev ((k-1) / 2) (by omega)).1⟩,Cl];exact ok.ord k k0 hk
theorem IL (H:List Ev) (k:Nat) (n:Int):oe [n] ((H.take k).map fun x=>[x.2.2.1])=aec:=by unfold oe;rw [List.all_eq_true];intro x hx;obtain ⟨y,hy,rfl⟩:=ab0.1 hx;rfl
theorem IM (H:List Ev) (k:Nat) (n:Int):Es ((H.take k).map fun x=>[x.2.2.1]) [n]=aen (∃j,j<k/\j<adQ H/\(H[j]!).2.2.1=n):=by
 unfold Es;rw [Bool.eq_iff_iff,List.any_eq_true,decide_eq_true_iff];constructor
 · rintro ⟨x,hx,he⟩
   obtain ⟨y,hy,rfl⟩:=ab0.1 hx;obtain ⟨j,h1,h2,rfl⟩:=bS.1 hy;have:[n]=[(H[j]!).2.2.1]:=by simpa using he
   exact ⟨j,h1,h2,by injection this with h;exact h.symm⟩
 rintro ⟨j,h1,h2,h3⟩
 refine ⟨[(H[j]!).2.2.1],ab0.2 ⟨H[j]!,bS.2 ⟨j,h1,h2,rfl⟩,rfl⟩,?_⟩;rw [h3];simp
theorem J6 (H:List Ev) (u fr W:List Int) (us:List Bool) (hl:(adQ H)<=1000000) (kr: ∀w,w<adQ H->jf ((H[w]!).1,(H[w]!).2.1)):
 ((∀k,k<adQ H->HN H k)->aB iS (H,((adQ H):Int),0,u,us,fr,H,W,[])=adX (.done 0))/\(¬(∀k,k<adQ H->HN H k)->aB iS (H,((adQ H):Int),0,u,us,fr,H,W,[])=adX (.done 8)):=by
 have key:=c7 (body:=iS) (fun k=>(H,((adQ H):Int),(k:Int),u,us,fr,H,W,(H.take k).map fun x=>[x.2.2.1])) (adQ H) (fun k=> ¬HN H k) (r:= .done 8) (e:= .done 0) (fun k hk=>by
  have e1:aen ((k:Int)<((adQ H):Int))=aec:=aF (by omega);have ins: ∀n:Int,¬(∃j,j<k/\j<adQ H/\(H[j]!).2.2.1=n)->Ll ((H.take k).map fun x=>[x.2.2.1]) [n]=adX (((H.take k).map fun x=>[x.2.2.1])++[[n]]):=by intro n hn;unfold Ll Nw;rw [IL,IM,aA hn];rfl
  have has: ∀n:Int,Lk ((H.take k).map fun x=>[x.2.2.1]) [n]=adX (aen (∃j,j<k/\j<adQ H/\(H[j]!).2.2.1=n)):=by intro n;unfold Lk;rw [IL,IM];rfl
  have nx:(H.take (k+1)).map (fun x=>[x.2.2.1])=((H.take k).map fun x=>[x.2.2.1])++[[(H[k]!).2.2.1]]:=by rw [gb hk,List.map_append];rfl
  unfold iS;simp only [e1,lc,aq H k hk,ao,dz (kr k hk),aQ (show k<1000000000 by omega),has,nx];unfold HN
  by_cases b1:aX ((H[k]!).1,(H[k]!).2.1)
  case neg=>rw [lw b1];exact ⟨fun _=>rfl,fun h=>absurd (sp.1 h).1 b1⟩
  rw [ls b1]
  by_cases b2:(H[k]!).2.2.1<0
  · rw [aF b2]
    exact ⟨fun _=>rfl,fun h=>absurd (sp.1 h).2.1 (by omega)⟩
  by_cases b3:1000000<(H[k]!).2.2.1
  · rw [aA b2,aF b3]
    exact ⟨fun _=>rfl,fun h=>absurd (sp.1 h).2.2.1 (by omega)⟩
  rw [aA b2,aA b3]
  by_cases b4: ∃j,j<k/\j<adQ H/\(H[j]!).2.2.1=(H[k]!).2.2.1
  · rw [aF b4]
    refine ⟨fun _=>rfl,fun h=>?_⟩;obtain ⟨j,j1,j2,j3⟩:=b4;exact absurd j3 ((sp.1 h).2.2.2.1 j j1)
  rw [aA b4,ins _ b4];have b4': ∀j,j<k->(H[j]!).2.2.1≠(H[k]!).2.2.1:=fun j hj he=>b4 ⟨j,hj,by omega,he⟩
  simp only [show ((0:Int) !=0)=ael from rfl,lm,ao]
  by_cases b5:0<k
  · obtain ⟨m,rfl⟩: ∃m,k=m+1:=⟨k-1,by omega⟩
    have f1:aen ((0:Int)<((m+1:Nat):Int))=aec:=aF (by omega);simp only [f1,lc,rh (show m<1000000000 by omega),aq H (m / 2) (by omega),ao,Bj (kr (m+1) hk) (kr (m / 2) (by omega)),show (m+1-1) / 2=m / 2 by omega]
    by_cases b6:Ow H[m+1]! H[m / 2]!<0
    · rw [aF b6]
      exact ⟨fun _=>rfl,fun h=>absurd b6 ((sp.1 h).2.2.2.2 (by omega))⟩
    rw [aA b6]
    exact ⟨fun h=>absurd ⟨b1,by omega,by omega,b4',fun _=>b6⟩ h,fun _=>rfl⟩
  · have f1:aen ((0:Int)<(k:Int))=ael:=aA (by omega)
    rw [f1];exact ⟨fun h=>absurd ⟨b1,by omega,by omega,b4',fun h=>absurd h b5⟩ h,fun _=>rfl⟩) (by
  unfold iS;have:aen (((adQ H):Int)<((adQ H):Int))=ael:=aA (by omega);simp only [this,lm])
 constructor
 · intro h
   exact key.2 fun i hi=>sp.2 (h i hi)
 intro h
 obtain ⟨i,h⟩:=Do.1 h;obtain ⟨hi,hx⟩:=acg.1 h;exact key.1 ⟨i,hi,hx⟩
end Go.Proofs.YtlnclppkepgdmaaGreat
