/- Plain laws (1). -/
import Derived.Test.YtlnclppkepgdmaaGreatCVm2
import Derived.Test.YtlnclppkepgdmaaGreatCVm1
import Derived.Test.YtlnclppkepgdmaaGreatCQS2
open List renaming length_set->aa,replicate->af,length_replicate->ax,set_set->az,mem_map->be,mem_of_mem_take->bg,length_take->bi,nodup_cons->bu,length_map->bv,mem_singleton->cf,getElem?_eq_getElem->cq,mem_append->cy,set_comm->dc,length_cons->di,take_length->dj,mem_filter->dv,mem_cons->d5
open Int renaming ofNat->ac,mul_le_mul_of_nonneg_right->au,tdiv->ay,mul_neg_of_neg_of_pos->bj,eq_ofNat_of_zero_le->bk,neg_mul->bq,mul_comm->bw,mul_lt_mul_of_pos_right->bz,fdiv_eq_ediv_of_nonneg->cb,mul_le_mul->cd,tdiv_eq_ediv_of_nonneg->ce,lt_of_mul_lt_mul_right->ci,lt_trichotomy->cj,mul_nonneg->c6,natCast_mul->dt,ofNat_tmod->dw,ofNat_tdiv->dy,mul_assoc->dz,toNat->d6
open Classical renaming not_not->ae,not_forall->ao,byContradiction->ar,not_imp->bo
open Option.some renaming injEq->ai
open Nat renaming gcd->aj,gcd_comm->bn,gcd_dvd_right->cm,gcd_pos_of_pos_right->cu,le_refl->cz,mul_div_cancel'->db,gcd_zero_right->de,gcd_dvd_left->dh,strongRecOn->dm,div_le_self->dp,le_trans->d7
open Bool renaming not_false->am,not_true->aq,not_eq_true->cw,or_eq_false_iff->c8,false_or->dd,false_eq_true->df
open Prod.mk renaming injEq->ba
namespace Go.Vm
instance lpN:LP:=⟨none⟩
section
variable {σ ρ : Type}
theorem FL {body:σ->Option (bS σ ρ)} {x:σ} {r:ρ}:aG body x=some r↔ ∃n,vJ body n x=some r:=MN
theorem bC {body:σ->Option (bS σ ρ)} {x y:σ} (h:body x=some (.next y)):aG body x=aG body y:=by
 apply Option.ext;intro r;rw [FL,FL];constructor
 · rintro ⟨n,hn⟩
   cases n with
   |zero=>cases hn
   |succ n=>simp only [vJ,h] at hn;exact ⟨n,hn⟩
 rintro ⟨n,hn⟩
 exact ⟨n+1,by simp only [vJ,h];exact hn⟩
theorem aK {body:σ->Option (bS σ ρ)} {x:σ} {r:ρ} (h:body x=some (.done r)):aG body x=some r:=
 FL.2 ⟨1,by simp only [vJ,h]⟩
end
end Go.Vm
namespace Go.Proofs.YtlnclppkepgdmaaGreat
open Go.Vm
noncomputable def yX (p0:Field):Option Field:=
 (cA p0.points).bind fun l0=>
 some (Field.mk l0)
noncomputable def yY (p0:bK):Option bK:=
 (cA p0.list).bind fun l0=>
 some (bK.mk p0.next_ l0)
noncomputable def tX (p0:aU):Option aU:=
 (cA p0.uses).bind fun l0=>
 (cA p0.used).bind fun l1=>
 (cA p0.free).bind fun l2=>
 some (aU.mk l0 l1 l2)
noncomputable def qK (p0:aP):Option aP:=
 (tX p0.slots).bind fun r0=>
 (cA p0.heap).bind fun l1=>
 (cA p0.where_).bind fun l2=>
 some (aP.mk r0 l1 l2)
noncomputable def lG (p0:aO):Option aO:=
 (yX p0.field).bind fun r0=>
 (yY p0.certs).bind fun r1=>
 (qK p0.agenda).bind fun r2=>
 (cA p0.due).bind fun l3=>
 some (aO.mk p0.now r0 r1 r2 l3)
noncomputable def mA (s:(Int×Int×Int×(List (Int×Int×Int))×Int×Int×(List (Int×Int×Int)))):Option (bS (Int×Int×Int×(List (Int×Int×Int))×Int×Int×(List (Int×Int×Int))) bK):=
 bif decide (s.2.1<(ac s.2.2.2.1.length)) then
  (aL s.2.2.2.1 s.2.1).bind fun a0=>
  bif a0.1 !=s.1 then
   (aL s.2.2.2.1 s.2.1).bind fun a1=>
   (bZ s.2.2.2.2.2.2 [a1]).bind fun l2=>
   some (.next (s.1,aA .i64 (s.2.1+1),s.2.2.1,s.2.2.2.1,s.2.2.2.2.1,s.2.2.2.2.2.1,l2))
  else
   some (.next (s.1,aA .i64 (s.2.1+1),s.2.2))
 else
  some (.done (bK.mk s.2.2.2.2.2.1 s.2.2.2.2.2.2))
noncomputable def BB (p0:bK) (p1:Int):Option bK:=
 aG mA (p1,0,p0.next_,p0.list,0,p0.next_,[])
noncomputable def sN (s:(Int×Int×Int×Int×(List (Int×Int×Int))×Int×(List (Int×Int×Int))×(List Int)×(List Bool)×(List Int)×(List (Int×Int×Int×Int×Int))×(List Int)×(List (Int×Int×Int)))):Option (bS (Int×Int×Int×Int×(List (Int×Int×Int))×Int×(List (Int×Int×Int))×(List Int)×(List Bool)×(List Int)×(List (Int×Int×Int×Int×Int))×(List Int)×(List (Int×Int×Int))) Int):=
 bif decide (s.2.1<(ac s.2.2.2.2.2.2.2.2.2.2.2.2.length)) then
  (aL s.2.2.2.2.2.2.2.2.2.2.2.2 s.2.1).bind fun a0=>
  bif a0.1==s.1 then
   some (.done s.2.1)
  else
   some (.next (s.1,aA .i64 (s.2.1+1),s.2.2))
 else
  some (.done (-1))
noncomputable def wE (p0:aO) (p1:Int):Option Int:=
 aG sN (p1,0,p0.now.1,p0.now.2,p0.field.points,p0.certs.next_,p0.certs.list,p0.agenda.slots.uses,p0.agenda.slots.used,p0.agenda.slots.free,p0.agenda.heap,p0.agenda.where_,p0.due)
noncomputable def wF (p0:aU) (p1:Int×Int):Option aU:=
 (tX p0).bind fun r0=>
 (aL r0.used p1.1).bind fun b1=>
 (bZ r0.free [p1.1]).bind fun l2=>
 some (aU.mk r0.uses (cL r0.used p1.1 false) l2)
noncomputable def hU (a:(Int×Int×(List Int)×(List Bool)×(List Int)×(List (Int×Int×Int×Int×Int))×(List Int))):Option ((List Int)×(List Bool)×(List Int)×(List (Int×Int×Int×Int×Int))×(List Int)):=
 (aL a.2.2.2.2.2.1 a.2.1).bind fun a0=>
 (aL a.2.2.2.2.2.1 a.1).bind fun a1=>
 (aL a.2.2.2.2.2.1 a.1).bind fun a2=>
 (aL (cL a.2.2.2.2.2.1 a.1 a0) a.2.1).bind fun a3=>
 (aL (cL (cL a.2.2.2.2.2.1 a.1 a0) a.2.1 a1) a.1).bind fun a4=>
 (aL (cL (cL a.2.2.2.2.2.1 a.1 a0) a.2.1 a1) a.2.1).bind fun a5=>
 (aL a.2.2.2.2.2.2 a4.2.2.2.1).bind fun n6=>
 (aL (cL a.2.2.2.2.2.2 a4.2.2.2.1 a.1) a5.2.2.2.1).bind fun n7=>
 bif a.2.2.1.length==a.2.2.1.length then
  bif a.2.2.2.1.length==a.2.2.2.1.length then
   bif a.2.2.2.2.1.length==a.2.2.2.2.1.length then
    bif ((cL (cL a.2.2.2.2.2.1 a.1 a0) a.2.1 a1).length)==a.2.2.2.2.2.1.length then
     bif ((cL (cL a.2.2.2.2.2.2 a4.2.2.2.1 a.1) a5.2.2.2.1 a.2.1).length)==a.2.2.2.2.2.2.length then
      some (a.2.2.1,a.2.2.2.1,a.2.2.2.2.1,cL (cL a.2.2.2.2.2.1 a.1 a0) a.2.1 a1,cL (cL a.2.2.2.2.2.2 a4.2.2.2.1 a.1) a5.2.2.2.1 a.2.1)
     else
      none
    else
     none
   else
    none
  else
   none
 else
  none
noncomputable def jV (a:((List Int)×(List Bool)×(List Int)×Nat×Nat×Int×Int×(List (Int×Int×Int×Int×Int))×(List Int))):Option ((List (Int×Int×Int×Int×Int))×(List Int)):=
 (aL (a.2.2.2.2.2.2.2.1.take a.2.2.2.1) a.2.2.2.2.2.2.1).bind fun a0=>
 (aL (a.2.2.2.2.2.2.2.1.take a.2.2.2.1) a.2.2.2.2.2.1).bind fun a1=>
 (aL (a.2.2.2.2.2.2.2.1.take a.2.2.2.1) a.2.2.2.2.2.1).bind fun a2=>
 (aL ((cL a.2.2.2.2.2.2.2.1 a.2.2.2.2.2.1 a0).take a.2.2.2.1) a.2.2.2.2.2.2.1).bind fun a3=>
 (aL ((cL (cL a.2.2.2.2.2.2.2.1 a.2.2.2.2.2.1 a0) a.2.2.2.2.2.2.1 a1).take a.2.2.2.1) a.2.2.2.2.2.1).bind fun a4=>
 (aL ((cL (cL a.2.2.2.2.2.2.2.1 a.2.2.2.2.2.1 a0) a.2.2.2.2.2.2.1 a1).take a.2.2.2.1) a.2.2.2.2.2.2.1).bind fun a5=>
 (aL a.2.2.2.2.2.2.2.2 a4.2.2.2.1).bind fun n6=>
 (aL (cL a.2.2.2.2.2.2.2.2 a4.2.2.2.1 a.2.2.2.2.2.1) a5.2.2.2.1).bind fun n7=>
 bif ((cL (cL a.2.2.2.2.2.2.2.1 a.2.2.2.2.2.1 a0) a.2.2.2.2.2.2.1 a1).length)==a.2.2.2.2.2.2.2.1.length then
  bif ((cL (cL a.2.2.2.2.2.2.2.2 a4.2.2.2.1 a.2.2.2.2.2.1) a5.2.2.2.1 a.2.2.2.2.2.2.1).length)==a.2.2.2.2.2.2.2.2.length then
   some (cL (cL a.2.2.2.2.2.2.2.1 a.2.2.2.2.2.1 a0) a.2.2.2.2.2.2.1 a1,cL (cL a.2.2.2.2.2.2.2.2 a4.2.2.2.1 a.2.2.2.2.2.1) a5.2.2.2.1 a.2.2.2.2.2.2.1)
  else
   none
 else
  none
noncomputable def iS (c0:((List Int)×(List Bool)×(List Int)×Nat×Nat×Int×(List (Int×Int×Int×Int×Int))×(List Int))) (s:(Int×(List (Int×Int×Int×Int×Int))×(List Int)×(List Int)×(List Bool)×(List Int)×Nat×Nat)):Option (bS (Int×(List (Int×Int×Int×Int×Int))×(List Int)×(List Int)×(List Bool)×(List Int)×Nat×Nat) (Int×(List (Int×Int×Int×Int×Int))×(List Int))):=
 bif decide (0<s.1) then
  (aL (s.2.1.take s.2.2.2.2.2.2.1) s.1).bind fun a0=>
  (aL (s.2.1.take s.2.2.2.2.2.2.1) (aA .i64 (ay (aA .i64 (s.1-1)) 2))).bind fun a1=>
  (fC a0 a1).bind fun b2=>
  bif b2 then
   (jV (s.2.2.2.1,s.2.2.2.2.1,s.2.2.2.2.2.1,s.2.2.2.2.2.2.1,s.2.2.2.2.2.2.2,s.1,aA .i64 (ay (aA .i64 (s.1-1)) 2),s.2.1,s.2.2.1)).bind fun a3=>
   some (.next (aA .i64 (ay (aA .i64 (s.1-1)) 2),a3.1,a3.2,s.2.2.2))
  else
   bif s.2.1.length==c0.2.2.2.2.2.2.1.length then
    bif s.2.2.1.length==c0.2.2.2.2.2.2.2.length then
     some (.done (s.1,s.2.1,s.2.2.1))
    else
     none
   else
    none
 else
  bif s.2.1.length==c0.2.2.2.2.2.2.1.length then
   bif s.2.2.1.length==c0.2.2.2.2.2.2.2.length then
    some (.done (s.1,s.2.1,s.2.2.1))
   else
    none
  else
   none
noncomputable def sO (a:((List Int)×(List Bool)×(List Int)×Nat×Nat×Int×(List (Int×Int×Int×Int×Int))×(List Int))):Option (Int×(List (Int×Int×Int×Int×Int))×(List Int)):=
 aG (iS a) (a.2.2.2.2.2.1,a.2.2.2.2.2.2.1,a.2.2.2.2.2.2.2,a.1,a.2.1,a.2.2.1,a.2.2.2.1,a.2.2.2.2.1)
noncomputable def lM (c0:((List Int)×(List Bool)×(List Int)×Nat×Nat×Int×(List (Int×Int×Int×Int×Int))×(List Int))) (s:(Int×(List (Int×Int×Int×Int×Int))×(List Int)×(List Int)×(List Bool)×(List Int)×Nat×Nat)):Option (bS (Int×(List (Int×Int×Int×Int×Int))×(List Int)×(List Int)×(List Bool)×(List Int)×Nat×Nat) ((List (Int×Int×Int×Int×Int))×(List Int))):=
 match s with
 |(a,b,d,e,f,g,h,i)=>
  bif decide ((ac h)<=(aA .i64 ((aA .i64 (2*a))+1))) then
   bif b.length==c0.2.2.2.2.2.2.1.length then
    bif d.length==c0.2.2.2.2.2.2.2.length then
     some (.done (b,d))
    else
     none
   else
    none
  else
   bif decide ((aA .i64 ((aA .i64 ((aA .i64 (2*a))+1))+1))<(ac h)) then
    (aL (b.take h) (aA .i64 ((aA .i64 ((aA .i64 (2*a))+1))+1))).bind fun a0=>
    (aL (b.take h) (aA .i64 ((aA .i64 (2*a))+1))).bind fun a1=>
    (fC a0 a1).bind fun b2=>
    bif b2 then
     (aL (b.take h) (aA .i64 ((aA .i64 ((aA .i64 (2*a))+1))+1))).bind fun a3=>
     (aL (b.take h) a).bind fun a4=>
     (fC a3 a4).bind fun b5=>
     bif !b5 then
      bif b.length==c0.2.2.2.2.2.2.1.length then
       bif d.length==c0.2.2.2.2.2.2.2.length then
        some (.done (b,d))
       else
        none
      else
       none
     else
      (jV (e,f,g,h,i,a,aA .i64 ((aA .i64 ((aA .i64 (2*a))+1))+1),b,d)).bind fun a6=>
      some (.next (aA .i64 ((aA .i64 ((aA .i64 (2*a))+1))+1),a6.1,a6.2,(e,f,g,h,i)))
    else
     (aL (b.take h) (aA .i64 ((aA .i64 (2*a))+1))).bind fun a7=>
     (aL (b.take h) a).bind fun a8=>
     (fC a7 a8).bind fun b9=>
     bif !b9 then
      bif b.length==c0.2.2.2.2.2.2.1.length then
       bif d.length==c0.2.2.2.2.2.2.2.length then
        some (.done (b,d))
       else
        none
      else
       none
     else
      (jV (e,f,g,h,i,a,aA .i64 ((aA .i64 (2*a))+1),b,d)).bind fun a10=>
      some (.next (aA .i64 ((aA .i64 (2*a))+1),a10.1,a10.2,(e,f,g,h,i)))
   else
    (aL (b.take h) (aA .i64 ((aA .i64 (2*a))+1))).bind fun a11=>
    (aL (b.take h) a).bind fun a12=>
    (fC a11 a12).bind fun b13=>
    bif !b13 then
     bif b.length==c0.2.2.2.2.2.2.1.length then
      bif d.length==c0.2.2.2.2.2.2.2.length then
       some (.done (b,d))
      else
       none
     else
      none
    else
     (jV (e,f,g,h,i,a,aA .i64 ((aA .i64 (2*a))+1),b,d)).bind fun a14=>
     some (.next (aA .i64 ((aA .i64 (2*a))+1),a14.1,a14.2,(e,f,g,h,i)))
noncomputable def pE (a:((List Int)×(List Bool)×(List Int)×Nat×Nat×Int×(List (Int×Int×Int×Int×Int))×(List Int))):Option ((List (Int×Int×Int×Int×Int))×(List Int)):=
 aG (lM a) (a.2.2.2.2.2.1,a.2.2.2.2.2.2.1,a.2.2.2.2.2.2.2,a.1,a.2.1,a.2.2.1,a.2.2.2.1,a.2.2.2.2.1)
noncomputable def nR (p0:aP) (p1:Int×Int):Option aP:=
 (qK p0).bind fun r0=>
 (aL r0.where_ p1.1).bind fun n1=>
 bif n1 !=(aA .i64 ((ac r0.heap.length) -1)) then
  (hU (n1,aA .i64 ((ac r0.heap.length) -1),r0.slots.uses,r0.slots.used,r0.slots.free,r0.heap,r0.where_)).bind fun a2=>
  (iX a2.2.2.2.1 0 (aA .i64 ((ac r0.heap.length) -1))).bind fun l3=>
  (aL a2.2.2.2.2 p1.1).bind fun n4=>
  (wF (aU.mk a2.1 a2.2.1 a2.2.2.1) p1).bind fun r5=>
  bif n1 !=(aA .i64 ((ac r0.heap.length) -1)) then
   (sO (r5.uses,r5.used,r5.free,(aA .i64 ((ac r0.heap.length) -1)).toNat,a2.2.2.2.1.length,n1,a2.2.2.2.1,cL a2.2.2.2.2 p1.1 (-1))).bind fun a6=>
   (pE (r5.uses,r5.used,r5.free,(aA .i64 ((ac r0.heap.length) -1)).toNat,a2.2.2.2.1.length,a6)).bind fun a7=>
   some (aP.mk r5 (a7.1.take ((aA .i64 ((ac r0.heap.length) -1)).toNat)) a7.2)
  else
   some (aP.mk r5 (a2.2.2.2.1.take ((aA .i64 ((ac r0.heap.length) -1)).toNat)) (cL a2.2.2.2.2 p1.1 (-1)))
 else
  (iX r0.heap 0 (aA .i64 ((ac r0.heap.length) -1))).bind fun l8=>
  (aL r0.where_ p1.1).bind fun n9=>
  (wF r0.slots p1).bind fun r10=>
  bif n1 !=(aA .i64 ((ac r0.heap.length) -1)) then
   (sO (r10.uses,r10.used,r10.free,(aA .i64 ((ac r0.heap.length) -1)).toNat,r0.heap.length,n1,r0.heap,cL r0.where_ p1.1 (-1))).bind fun a11=>
   (pE (r10.uses,r10.used,r10.free,(aA .i64 ((ac r0.heap.length) -1)).toNat,r0.heap.length,a11)).bind fun a12=>
   some (aP.mk r10 (a12.1.take ((aA .i64 ((ac r0.heap.length) -1)).toNat)) a12.2)
  else
   some (aP.mk r10 (r0.heap.take ((aA .i64 ((ac r0.heap.length) -1)).toNat)) (cL r0.where_ p1.1 (-1)))
noncomputable def tY (p0:aO) (p1:Int):Option aO:=
 (lG p0).bind fun r0=>
 (BB p0.certs p1).bind fun r1=>
 (wE p0 p1).bind fun n2=>
 bif decide (0<=n2) then
  (aL p0.due n2).bind fun a3=>
  (nR p0.agenda a3.2).bind fun r4=>
  (iX p0.due 0 n2).bind fun l5=>
  (cA l5).bind fun l6=>
  (iX p0.due (aA .i64 (n2+1)) (ac p0.due.length)).bind fun l7=>
  bif l7.isEmpty then
   some (aO.mk r0.now r0.field r1 r4 l6)
  else
   (bZ l6 l7).bind fun l8=>
   some (aO.mk r0.now r0.field r1 r4 l8)
 else
  some (aO.mk r0.now r0.field r1 r0.agenda r0.due)
noncomputable def uY (s:(Int×(List (Int×Int×Int))×(List (Int×Int×Int)))):Option (bS (Int×(List (Int×Int×Int))×(List (Int×Int×Int))) Bool):=
 bif decide (s.1<(ac s.2.1.length)) then
  (aL s.2.1 s.1).bind fun a0=>
  (aL s.2.2 s.1).bind fun a1=>
  bif !((a0.1==a1.1)&&((a0.2.1==a1.2.1)&&(a0.2.2==a1.2.2))) then
   some (.done false)
  else
   some (.next (aA .i64 (s.1+1),s.2))
 else
  some (.done true)
noncomputable def IR (p0:Field) (p1:Field):Option Bool:=
 bif (ac p0.points.length) !=(ac p1.points.length) then
  some false
 else
  aG uY (0,p0.points,p1.points)
noncomputable def iT (c0:(Int×(List Int)×(List Bool)×(List Int)×(List (Int×Int×Int×Int×Int))×(List Int))) (s:(Int×(List Int)×(List Bool)×(List Int)×(List (Int×Int×Int×Int×Int))×(List Int))):Option (bS (Int×(List Int)×(List Bool)×(List Int)×(List (Int×Int×Int×Int×Int))×(List Int)) (Int×(List Int)×(List Bool)×(List Int)×(List (Int×Int×Int×Int×Int))×(List Int))):=
 bif decide (0<s.1) then
  (aL s.2.2.2.2.1 s.1).bind fun a0=>
  (aL s.2.2.2.2.1 (aA .i64 (ay (aA .i64 (s.1-1)) 2))).bind fun a1=>
  (fC a0 a1).bind fun b2=>
  bif b2 then
   (hU (s.1,aA .i64 (ay (aA .i64 (s.1-1)) 2),s.2)).bind fun a3=>
   some (.next (aA .i64 (ay (aA .i64 (s.1-1)) 2),a3))
  else
   bif s.2.1.length==c0.2.1.length then
    bif s.2.2.1.length==c0.2.2.1.length then
     bif s.2.2.2.1.length==c0.2.2.2.1.length then
      bif s.2.2.2.2.1.length==c0.2.2.2.2.1.length then
       bif s.2.2.2.2.2.length==c0.2.2.2.2.2.length then
        some (.done s)
       else
        none
      else
       none
     else
      none
    else
     none
   else
    none
 else
  bif s.2.1.length==c0.2.1.length then
   bif s.2.2.1.length==c0.2.2.1.length then
    bif s.2.2.2.1.length==c0.2.2.2.1.length then
     bif s.2.2.2.2.1.length==c0.2.2.2.2.1.length then
      bif s.2.2.2.2.2.length==c0.2.2.2.2.2.length then
       some (.done s)
      else
       none
     else
      none
    else
     none
   else
    none
  else
   none
noncomputable def yZ (a:(Int×(List Int)×(List Bool)×(List Int)×(List (Int×Int×Int×Int×Int))×(List Int))):Option (Int×(List Int)×(List Bool)×(List Int)×(List (Int×Int×Int×Int×Int))×(List Int)):=
 aG (iT a) a
noncomputable def lN (c0:(Int×(List Int)×(List Bool)×(List Int)×(List (Int×Int×Int×Int×Int))×(List Int))) (s:(Int×(List Int)×(List Bool)×(List Int)×(List (Int×Int×Int×Int×Int))×(List Int))):Option (bS (Int×(List Int)×(List Bool)×(List Int)×(List (Int×Int×Int×Int×Int))×(List Int)) ((List Int)×(List Bool)×(List Int)×(List (Int×Int×Int×Int×Int))×(List Int))):=
 bif decide ((ac s.2.2.2.2.1.length)<=(aA .i64 ((aA .i64 (2*s.1))+1))) then
  bif s.2.1.length==c0.2.1.length then
   bif s.2.2.1.length==c0.2.2.1.length then
    bif s.2.2.2.1.length==c0.2.2.2.1.length then
     bif s.2.2.2.2.1.length==c0.2.2.2.2.1.length then
      bif s.2.2.2.2.2.length==c0.2.2.2.2.2.length then
       some (.done s.2)
      else
       none
     else
      none
    else
     none
   else
    none
  else
   none
 else
  bif decide ((aA .i64 ((aA .i64 ((aA .i64 (2*s.1))+1))+1))<(ac s.2.2.2.2.1.length)) then
   (aL s.2.2.2.2.1 (aA .i64 ((aA .i64 ((aA .i64 (2*s.1))+1))+1))).bind fun a0=>
   (aL s.2.2.2.2.1 (aA .i64 ((aA .i64 (2*s.1))+1))).bind fun a1=>
   (fC a0 a1).bind fun b2=>
   bif b2 then
    (aL s.2.2.2.2.1 (aA .i64 ((aA .i64 ((aA .i64 (2*s.1))+1))+1))).bind fun a3=>
    (aL s.2.2.2.2.1 s.1).bind fun a4=>
    (fC a3 a4).bind fun b5=>
    bif !b5 then
     bif s.2.1.length==c0.2.1.length then
      bif s.2.2.1.length==c0.2.2.1.length then
       bif s.2.2.2.1.length==c0.2.2.2.1.length then
        bif s.2.2.2.2.1.length==c0.2.2.2.2.1.length then
         bif s.2.2.2.2.2.length==c0.2.2.2.2.2.length then
          some (.done s.2)
         else
          none
        else
         none
       else
        none
      else
       none
     else
      none
    else
     (hU (s.1,aA .i64 ((aA .i64 ((aA .i64 (2*s.1))+1))+1),s.2)).bind fun a6=>
     some (.next (aA .i64 ((aA .i64 ((aA .i64 (2*s.1))+1))+1),a6))
   else
    (aL s.2.2.2.2.1 (aA .i64 ((aA .i64 (2*s.1))+1))).bind fun a7=>
    (aL s.2.2.2.2.1 s.1).bind fun a8=>
    (fC a7 a8).bind fun b9=>
    bif !b9 then
     bif s.2.1.length==c0.2.1.length then
      bif s.2.2.1.length==c0.2.2.1.length then
       bif s.2.2.2.1.length==c0.2.2.2.1.length then
        bif s.2.2.2.2.1.length==c0.2.2.2.2.1.length then
         bif s.2.2.2.2.2.length==c0.2.2.2.2.2.length then
          some (.done s.2)
         else
          none
        else
         none
       else
        none
      else
       none
     else
      none
    else
     (hU (s.1,aA .i64 ((aA .i64 (2*s.1))+1),s.2)).bind fun a10=>
     some (.next (aA .i64 ((aA .i64 (2*s.1))+1),a10))
  else
   (aL s.2.2.2.2.1 (aA .i64 ((aA .i64 (2*s.1))+1))).bind fun a11=>
   (aL s.2.2.2.2.1 s.1).bind fun a12=>
   (fC a11 a12).bind fun b13=>
   bif !b13 then
    bif s.2.1.length==c0.2.1.length then
     bif s.2.2.1.length==c0.2.2.1.length then
      bif s.2.2.2.1.length==c0.2.2.2.1.length then
       bif s.2.2.2.2.1.length==c0.2.2.2.2.1.length then
        bif s.2.2.2.2.2.length==c0.2.2.2.2.2.length then
         some (.done s.2)
        else
         none
       else
        none
      else
       none
     else
      none
    else
     none
   else
    (hU (s.1,aA .i64 ((aA .i64 (2*s.1))+1),s.2)).bind fun a14=>
    some (.next (aA .i64 ((aA .i64 (2*s.1))+1),a14))
noncomputable def tZ (a:(Int×(List Int)×(List Bool)×(List Int)×(List (Int×Int×Int×Int×Int))×(List Int))):Option ((List Int)×(List Bool)×(List Int)×(List (Int×Int×Int×Int×Int))×(List Int)):=
 aG (lN a) a
noncomputable def BC (p0:aP) (p1:Int×Int) (p2:Int×Int):Option aP:=
 (qK p0).bind fun r0=>
 (aL r0.where_ p1.1).bind fun n1=>
 (aL r0.heap n1).bind fun a2=>
 (yZ (n1,r0.slots.uses,r0.slots.used,r0.slots.free,cL r0.heap n1 (p2.1,p2.2,a2.2.2),r0.where_)).bind fun a3=>
 (tZ a3).bind fun a4=>
 some (aP.mk (aU.mk a4.1 a4.2.1 a4.2.2.1) a4.2.2.2.1 a4.2.2.2.2)
noncomputable def jA (p0:aU):Option Bool:=
 bif decide (0<(ac p0.free.length)) then
  (aL p0.free (aA .i64 ((ac p0.free.length) -1))).bind fun n0=>
  (aL p0.uses n0).bind fun n1=>
  some (decide (n1<1000000))
 else
  some false
noncomputable def FM (p0:aU):Option (aU×(Int×Int)):=
 (tX p0).bind fun r0=>
 (aL r0.free (aA .i64 ((ac r0.free.length) -1))).bind fun n1=>
 (iX r0.free 0 (aA .i64 ((ac r0.free.length) -1))).bind fun l2=>
 (aL r0.uses n1).bind fun n3=>
 (aL r0.uses n1).bind fun n4=>
 (aL r0.used n1).bind fun b5=>
 (aL (cL r0.uses n1 (aA .i64 (n3+1))) n1).bind fun n6=>
 some (aU.mk (cL r0.uses n1 (aA .i64 (n3+1))) (cL r0.used n1 true) (r0.free.take ((aA .i64 ((ac r0.free.length) -1)).toNat)),n1,n6)
noncomputable def uA (a:((List Int)×(List Bool)×(List Int)×Int×Int×(List (Int×Int×Int×Int×Int))×(List Int))):Option ((List (Int×Int×Int×Int×Int))×(List Int)):=
 (aL a.2.2.2.2.2.1 a.2.2.2.2.1).bind fun a0=>
 (aL a.2.2.2.2.2.1 a.2.2.2.1).bind fun a1=>
 (aL a.2.2.2.2.2.1 a.2.2.2.1).bind fun a2=>
 (aL (cL a.2.2.2.2.2.1 a.2.2.2.1 a0) a.2.2.2.2.1).bind fun a3=>
 (aL (cL (cL a.2.2.2.2.2.1 a.2.2.2.1 a0) a.2.2.2.2.1 a1) a.2.2.2.1).bind fun a4=>
 (aL (cL (cL a.2.2.2.2.2.1 a.2.2.2.1 a0) a.2.2.2.2.1 a1) a.2.2.2.2.1).bind fun a5=>
 (aL a.2.2.2.2.2.2 a4.2.2.2.1).bind fun n6=>
 (aL (cL a.2.2.2.2.2.2 a4.2.2.2.1 a.2.2.2.1) a5.2.2.2.1).bind fun n7=>
 bif ((cL (cL a.2.2.2.2.2.1 a.2.2.2.1 a0) a.2.2.2.2.1 a1).length)==a.2.2.2.2.2.1.length then
  bif ((cL (cL a.2.2.2.2.2.2 a4.2.2.2.1 a.2.2.2.1) a5.2.2.2.1 a.2.2.2.2.1).length)==a.2.2.2.2.2.2.length then
   some (cL (cL a.2.2.2.2.2.1 a.2.2.2.1 a0) a.2.2.2.2.1 a1,cL (cL a.2.2.2.2.2.2 a4.2.2.2.1 a.2.2.2.1) a5.2.2.2.1 a.2.2.2.2.1)
  else
   none
 else
  none
noncomputable def iU (c0:((List Int)×(List Bool)×(List Int)×Int×(List (Int×Int×Int×Int×Int))×(List Int))) (s:(Int×(List (Int×Int×Int×Int×Int))×(List Int)×(List Int)×(List Bool)×(List Int))):Option (bS (Int×(List (Int×Int×Int×Int×Int))×(List Int)×(List Int)×(List Bool)×(List Int)) (Int×(List (Int×Int×Int×Int×Int))×(List Int))):=
 bif decide (0<s.1) then
  (aL s.2.1 s.1).bind fun a0=>
  (aL s.2.1 (aA .i64 (ay (aA .i64 (s.1-1)) 2))).bind fun a1=>
  (fC a0 a1).bind fun b2=>
  bif b2 then
   (uA (s.2.2.2.1,s.2.2.2.2.1,s.2.2.2.2.2,s.1,aA .i64 (ay (aA .i64 (s.1-1)) 2),s.2.1,s.2.2.1)).bind fun a3=>
   some (.next (aA .i64 (ay (aA .i64 (s.1-1)) 2),a3.1,a3.2,s.2.2.2))
  else
   bif s.2.1.length==c0.2.2.2.2.1.length then
    bif s.2.2.1.length==c0.2.2.2.2.2.length then
     some (.done (s.1,s.2.1,s.2.2.1))
    else
     none
   else
    none
 else
  bif s.2.1.length==c0.2.2.2.2.1.length then
   bif s.2.2.1.length==c0.2.2.2.2.2.length then
    some (.done (s.1,s.2.1,s.2.2.1))
   else
    none
  else
   none
noncomputable def zA (a:((List Int)×(List Bool)×(List Int)×Int×(List (Int×Int×Int×Int×Int))×(List Int))):Option (Int×(List (Int×Int×Int×Int×Int))×(List Int)):=
 aG (iU a) (a.2.2.2.1,a.2.2.2.2.1,a.2.2.2.2.2,a.1,a.2.1,a.2.2.1)
noncomputable def gB (p0:aP) (p1:Int×Int) (p2:Int):Option (aP×(Int×Int)):=
 (qK p0).bind fun r0=>
 (FM r0.slots).bind fun a1=>
 (bZ r0.heap [(p1.1,p1.2,p2,a1.2)]).bind fun l2=>
 (aL r0.where_ a1.2.1).bind fun n3=>
 (zA (a1.1.uses,a1.1.used,a1.1.free,aA .i64 ((ac l2.length) -1),l2,cL r0.where_ a1.2.1 (aA .i64 ((ac l2.length) -1)))).bind fun a4=>
 some (aP.mk a1.1 a4.2.1 a4.2.2,a1.2)
noncomputable def cW (s:(Int×Int×Int×(List (Int×Int×Int))×Int×(List (Int×Int×Int))×(List Int)×(List Bool)×(List Int)×(List (Int×Int×Int×Int×Int))×(List Int)×(List (Int×Int×Int))×(List (Int×Int×Int))×Int×Int×Int×Int×Int×(List (Int×Int×Int))×Int×(List (Int×Int×Int))×(List Int)×(List Bool)×(List Int)×(List (Int×Int×Int×Int×Int))×(List Int)×(List (Int×Int×Int)))):Option (bS (Int×Int×Int×(List (Int×Int×Int))×Int×(List (Int×Int×Int))×(List Int)×(List Bool)×(List Int)×(List (Int×Int×Int×Int×Int))×(List Int)×(List (Int×Int×Int))×(List (Int×Int×Int))×Int×Int×Int×Int×Int×(List (Int×Int×Int))×Int×(List (Int×Int×Int))×(List Int)×(List Bool)×(List Int)×(List (Int×Int×Int×Int×Int))×(List Int)×(List (Int×Int×Int))) (aO×Int)):=
 match s with
 |(a,b,d,e,f,g,h,i,j,k,l,m,n,o,q,r,t,u,v,w,x,y,z,A,B,C,D)=>
  bif decide (a<(ac g.length)) then
   (aL g a).bind fun a0=>
   (wE (aO.mk (b,d) (Field.mk e) (bK.mk f g) (aP.mk (aU.mk h i j) k l) m) a0.1).bind fun n1=>
   (tU (Field.mk n) a0.2 (b,d)).bind fun a2=>
   bif a2.2 then
    bif decide (0<=n1) then
     (aL m n1).bind fun a3=>
     (BC (aP.mk (aU.mk y z A) B C) a3.2 a2.1).bind fun r4=>
     (aL m n1).bind fun a5=>
     (bZ D [a5]).bind fun l6=>
     bif !a2.2 then
      bif decide (0<=n1) then
       (aL m n1).bind fun a7=>
       (nR r4 a7.2).bind fun r8=>
       bif !a2.2 then
        some (.next (aA .i64 (a+1),b,d,e,f,g,h,i,j,k,l,m,n,o,q,r,t,u,v,w,x,r8.slots.uses,r8.slots.used,r8.slots.free,r8.heap,r8.where_,l6))
       else
        bif decide (0<=n1) then
         some (.next (aA .i64 (a+1),b,d,e,f,g,h,i,j,k,l,m,n,o,q,r,t,u,v,w,x,r8.slots.uses,r8.slots.used,r8.slots.free,r8.heap,r8.where_,l6))
        else
         (jA r8.slots).bind fun b9=>
         bif !b9 then
          some (.done (aO.mk (0,0) (Field.mk []) (bK.mk 0 []) (aP.mk (aU.mk [] [] []) [] []) [],18))
         else
          (gB r8 a2.1 a0.1).bind fun a10=>
          (bZ l6 [(a0.1,a10.2)]).bind fun l11=>
          some (.next (aA .i64 (a+1),b,d,e,f,g,h,i,j,k,l,m,n,o,q,r,t,u,v,w,x,a10.1.slots.uses,a10.1.slots.used,a10.1.slots.free,a10.1.heap,a10.1.where_,l11))
      else
       bif !a2.2 then
        some (.next (aA .i64 (a+1),b,d,e,f,g,h,i,j,k,l,m,n,o,q,r,t,u,v,w,x,r4.slots.uses,r4.slots.used,r4.slots.free,r4.heap,r4.where_,l6))
       else
        bif decide (0<=n1) then
         some (.next (aA .i64 (a+1),b,d,e,f,g,h,i,j,k,l,m,n,o,q,r,t,u,v,w,x,r4.slots.uses,r4.slots.used,r4.slots.free,r4.heap,r4.where_,l6))
        else
         (jA r4.slots).bind fun b12=>
         bif !b12 then
          some (.done (aO.mk (0,0) (Field.mk []) (bK.mk 0 []) (aP.mk (aU.mk [] [] []) [] []) [],18))
         else
          (gB r4 a2.1 a0.1).bind fun a13=>
          (bZ l6 [(a0.1,a13.2)]).bind fun l14=>
          some (.next (aA .i64 (a+1),b,d,e,f,g,h,i,j,k,l,m,n,o,q,r,t,u,v,w,x,a13.1.slots.uses,a13.1.slots.used,a13.1.slots.free,a13.1.heap,a13.1.where_,l14))
     else
      bif !a2.2 then
       some (.next (aA .i64 (a+1),b,d,e,f,g,h,i,j,k,l,m,n,o,q,r,t,u,v,w,x,r4.slots.uses,r4.slots.used,r4.slots.free,r4.heap,r4.where_,l6))
      else
       bif decide (0<=n1) then
        some (.next (aA .i64 (a+1),b,d,e,f,g,h,i,j,k,l,m,n,o,q,r,t,u,v,w,x,r4.slots.uses,r4.slots.used,r4.slots.free,r4.heap,r4.where_,l6))
       else
        (jA r4.slots).bind fun b15=>
        bif !b15 then
         some (.done (aO.mk (0,0) (Field.mk []) (bK.mk 0 []) (aP.mk (aU.mk [] [] []) [] []) [],18))
        else
         (gB r4 a2.1 a0.1).bind fun a16=>
         (bZ l6 [(a0.1,a16.2)]).bind fun l17=>
         some (.next (aA .i64 (a+1),b,d,e,f,g,h,i,j,k,l,m,n,o,q,r,t,u,v,w,x,a16.1.slots.uses,a16.1.slots.used,a16.1.slots.free,a16.1.heap,a16.1.where_,l17))
    else
     bif !a2.2 then
      bif decide (0<=n1) then
       (aL m n1).bind fun a18=>
       (nR (aP.mk (aU.mk y z A) B C) a18.2).bind fun r19=>
       bif !a2.2 then
        some (.next (aA .i64 (a+1),b,d,e,f,g,h,i,j,k,l,m,n,o,q,r,t,u,v,w,x,r19.slots.uses,r19.slots.used,r19.slots.free,r19.heap,r19.where_,D))
       else
        bif decide (0<=n1) then
         some (.next (aA .i64 (a+1),b,d,e,f,g,h,i,j,k,l,m,n,o,q,r,t,u,v,w,x,r19.slots.uses,r19.slots.used,r19.slots.free,r19.heap,r19.where_,D))
        else
         (jA r19.slots).bind fun b20=>
         bif !b20 then
          some (.done (aO.mk (0,0) (Field.mk []) (bK.mk 0 []) (aP.mk (aU.mk [] [] []) [] []) [],18))
         else
          (gB r19 a2.1 a0.1).bind fun a21=>
          (bZ D [(a0.1,a21.2)]).bind fun l22=>
          some (.next (aA .i64 (a+1),b,d,e,f,g,h,i,j,k,l,m,n,o,q,r,t,u,v,w,x,a21.1.slots.uses,a21.1.slots.used,a21.1.slots.free,a21.1.heap,a21.1.where_,l22))
      else
       bif !a2.2 then
        some (.next (aA .i64 (a+1),(b,d,e,f,g,h,i,j,k,l,m,n,o,q,r,t,u,v,w,x,y,z,A,B,C,D)))
       else
        bif decide (0<=n1) then
         some (.next (aA .i64 (a+1),(b,d,e,f,g,h,i,j,k,l,m,n,o,q,r,t,u,v,w,x,y,z,A,B,C,D)))
        else
         (jA (aU.mk y z A)).bind fun b23=>
         bif !b23 then
          some (.done (aO.mk (0,0) (Field.mk []) (bK.mk 0 []) (aP.mk (aU.mk [] [] []) [] []) [],18))
         else
          (gB (aP.mk (aU.mk y z A) B C) a2.1 a0.1).bind fun a24=>
          (bZ D [(a0.1,a24.2)]).bind fun l25=>
          some (.next (aA .i64 (a+1),b,d,e,f,g,h,i,j,k,l,m,n,o,q,r,t,u,v,w,x,a24.1.slots.uses,a24.1.slots.used,a24.1.slots.free,a24.1.heap,a24.1.where_,l25))
     else
      bif !a2.2 then
       some (.next (aA .i64 (a+1),(b,d,e,f,g,h,i,j,k,l,m,n,o,q,r,t,u,v,w,x,y,z,A,B,C,D)))
      else
       bif decide (0<=n1) then
        some (.next (aA .i64 (a+1),(b,d,e,f,g,h,i,j,k,l,m,n,o,q,r,t,u,v,w,x,y,z,A,B,C,D)))
       else
        (jA (aU.mk y z A)).bind fun b26=>
        bif !b26 then
         some (.done (aO.mk (0,0) (Field.mk []) (bK.mk 0 []) (aP.mk (aU.mk [] [] []) [] []) [],18))
        else
         (gB (aP.mk (aU.mk y z A) B C) a2.1 a0.1).bind fun a27=>
         (bZ D [(a0.1,a27.2)]).bind fun l28=>
         some (.next (aA .i64 (a+1),b,d,e,f,g,h,i,j,k,l,m,n,o,q,r,t,u,v,w,x,a27.1.slots.uses,a27.1.slots.used,a27.1.slots.free,a27.1.heap,a27.1.where_,l28))
   else
    bif !a2.2 then
     bif decide (0<=n1) then
      (aL m n1).bind fun a29=>
      (nR (aP.mk (aU.mk y z A) B C) a29.2).bind fun r30=>
      bif !a2.2 then
       some (.next (aA .i64 (a+1),b,d,e,f,g,h,i,j,k,l,m,n,o,q,r,t,u,v,w,x,r30.slots.uses,r30.slots.used,r30.slots.free,r30.heap,r30.where_,D))
      else
       bif decide (0<=n1) then
        some (.next (aA .i64 (a+1),b,d,e,f,g,h,i,j,k,l,m,n,o,q,r,t,u,v,w,x,r30.slots.uses,r30.slots.used,r30.slots.free,r30.heap,r30.where_,D))
       else
        (jA r30.slots).bind fun b31=>
        bif !b31 then
         some (.done (aO.mk (0,0) (Field.mk []) (bK.mk 0 []) (aP.mk (aU.mk [] [] []) [] []) [],18))
        else
         (gB r30 a2.1 a0.1).bind fun a32=>
         (bZ D [(a0.1,a32.2)]).bind fun l33=>
         some (.next (aA .i64 (a+1),b,d,e,f,g,h,i,j,k,l,m,n,o,q,r,t,u,v,w,x,a32.1.slots.uses,a32.1.slots.used,a32.1.slots.free,a32.1.heap,a32.1.where_,l33))
     else
      bif !a2.2 then
       some (.next (aA .i64 (a+1),(b,d,e,f,g,h,i,j,k,l,m,n,o,q,r,t,u,v,w,x,y,z,A,B,C,D)))
      else
       bif decide (0<=n1) then
        some (.next (aA .i64 (a+1),(b,d,e,f,g,h,i,j,k,l,m,n,o,q,r,t,u,v,w,x,y,z,A,B,C,D)))
       else
        (jA (aU.mk y z A)).bind fun b34=>
        bif !b34 then
         some (.done (aO.mk (0,0) (Field.mk []) (bK.mk 0 []) (aP.mk (aU.mk [] [] []) [] []) [],18))
        else
         (gB (aP.mk (aU.mk y z A) B C) a2.1 a0.1).bind fun a35=>
         (bZ D [(a0.1,a35.2)]).bind fun l36=>
         some (.next (aA .i64 (a+1),b,d,e,f,g,h,i,j,k,l,m,n,o,q,r,t,u,v,w,x,a35.1.slots.uses,a35.1.slots.used,a35.1.slots.free,a35.1.heap,a35.1.where_,l36))
    else
     bif !a2.2 then
      some (.next (aA .i64 (a+1),(b,d,e,f,g,h,i,j,k,l,m,n,o,q,r,t,u,v,w,x,y,z,A,B,C,D)))
     else
      bif decide (0<=n1) then
       some (.next (aA .i64 (a+1),(b,d,e,f,g,h,i,j,k,l,m,n,o,q,r,t,u,v,w,x,y,z,A,B,C,D)))
      else
       (jA (aU.mk y z A)).bind fun b37=>
       bif !b37 then
        some (.done (aO.mk (0,0) (Field.mk []) (bK.mk 0 []) (aP.mk (aU.mk [] [] []) [] []) [],18))
       else
        (gB (aP.mk (aU.mk y z A) B C) a2.1 a0.1).bind fun a38=>
        (bZ D [(a0.1,a38.2)]).bind fun l39=>
        some (.next (aA .i64 (a+1),b,d,e,f,g,h,i,j,k,l,m,n,o,q,r,t,u,v,w,x,a38.1.slots.uses,a38.1.slots.used,a38.1.slots.free,a38.1.heap,a38.1.where_,l39))
  else
   some (.done (aO.mk (t,u) (Field.mk v) (bK.mk w x) (aP.mk (aU.mk y z A) B C) D,0))
noncomputable def pR (p0:aO) (p1:Field):Option (aO×Int):=
 (lG p0).bind fun r0=>
 (yX p1).bind fun r1=>
 aG cW (0,p0.now.1,p0.now.2,p0.field.points,p0.certs.next_,p0.certs.list,p0.agenda.slots.uses,p0.agenda.slots.used,p0.agenda.slots.free,p0.agenda.heap,p0.agenda.where_,p0.due,p1.points,0,0,0,r0.now.1,r0.now.2,r1.points,r0.certs.next_,r0.certs.list,r0.agenda.slots.uses,r0.agenda.slots.used,r0.agenda.slots.free,r0.agenda.heap,r0.agenda.where_,[])
noncomputable def LW (p0:bK) (p1:Int×Int):Option (bK×Int×Int):=
 (vW p0).bind fun n0=>
 bif n0 !=0 then
  some (bK.mk 0 [],0,8)
 else
  (tO p1).bind fun b1=>
  bif !b1 then
   some (bK.mk 0 [],0,8)
  else
   (xY p0 p1).bind fun b2=>
   bif b2 then
    some (bK.mk 0 [],0,14)
   else
    bif (ac p0.list.length)==200 then
     some (bK.mk 0 [],0,18)
    else
     bif p0.next_==1000000 then
      some (bK.mk 0 [],0,18)
     else
      (yY p0).bind fun r3=>
      (bZ r3.list [(p0.next_,p1)]).bind fun l4=>
      some (bK.mk (aA .i64 (r3.next_+1)) l4,p0.next_,0)
noncomputable def oP (p0:aO) (p1:Int×Int):Option (aO×Int×Int):=
 (LW p0.certs p1).bind fun a0=>
 bif a0.2.2 !=0 then
  some (aO.mk (0,0) (Field.mk []) (bK.mk 0 []) (aP.mk (aU.mk [] [] []) [] []) [],0,a0.2.2)
 else
  (lG p0).bind fun r1=>
  (tU p0.field p1 p0.now).bind fun a2=>
  bif !a2.2 then
   some (aO.mk r1.now r1.field a0.1 r1.agenda r1.due,a0.2.1,0)
  else
   (jA p0.agenda.slots).bind fun b3=>
   bif !b3 then
    some (aO.mk (0,0) (Field.mk []) (bK.mk 0 []) (aP.mk (aU.mk [] [] []) [] []) [],0,18)
   else
    (gB p0.agenda a2.1 a0.2.1).bind fun a4=>
    (bZ r1.due [(a0.2.1,a4.2)]).bind fun l5=>
    some (aO.mk r1.now r1.field a0.1 a4.1 l5,a0.2.1,0)
noncomputable def eJ (s:((List (Int×Int))×Int×Int×Int×Int×Int×Int×(List (Int×Int×Int))×Int×(List (Int×Int×Int))×(List Int)×(List Bool)×(List Int)×(List (Int×Int×Int×Int×Int))×(List Int)×(List (Int×Int×Int)))):Option (bS ((List (Int×Int))×Int×Int×Int×Int×Int×Int×(List (Int×Int×Int))×Int×(List (Int×Int×Int))×(List Int)×(List Bool)×(List Int)×(List (Int×Int×Int×Int×Int))×(List Int)×(List (Int×Int×Int))) (bS ((List (Int×Int))×Int×Int×Int×(List (Int×Int×Int))×Int×(List (Int×Int×Int))×(List Int)×(List Bool)×(List Int)×(List (Int×Int×Int×Int×Int))×(List Int)×(List (Int×Int×Int))×(List (Int×Int×Int))×Int×Int×Int×Int×Int×(List (Int×Int×Int))×Int×(List (Int×Int×Int))×(List Int)×(List Bool)×(List Int)×(List (Int×Int×Int×Int×Int))×(List Int)×(List (Int×Int×Int))) (aO×Int))):=
 match s with
 |(a,b,d,e,f,g,h,i,j,k,l,m,n,o,q,r)=>
  bif decide (b<(ac a.length)) then
   (aL a b).bind fun a0=>
   (xY (bK.mk j k) a0).bind fun b1=>
   bif b1 then
    some (.next (a,aA .i64 (b+1),(d,e,f,g,h,i,j,k,l,m,n,o,q,r)))
   else
    (aL a b).bind fun a2=>
    (oP (aO.mk (g,h) (Field.mk i) (bK.mk j k) (aP.mk (aU.mk l m n) o q) r) a2).bind fun a3=>
    bif a3.2.2 !=0 then
     some (.done (.done (aO.mk (0,0) (Field.mk []) (bK.mk 0 []) (aP.mk (aU.mk [] [] []) [] []) [],a3.2.2)))
    else
     some (.next (a,aA .i64 (b+1),d,e,f,a3.1.now.1,a3.1.now.2,a3.1.field.points,a3.1.certs.next_,a3.1.certs.list,a3.1.agenda.slots.uses,a3.1.agenda.slots.used,a3.1.agenda.slots.free,a3.1.agenda.heap,a3.1.agenda.where_,a3.1.due))
  else
   some (.done (.done (aO.mk (g,h) (Field.mk i) (bK.mk j k) (aP.mk (aU.mk l m n) o q) r,0)))
noncomputable def eA (s:((List (Int×Int))×Int×Int×Int×(List (Int×Int×Int))×Int×(List (Int×Int×Int))×(List Int)×(List Bool)×(List Int)×(List (Int×Int×Int×Int×Int))×(List Int)×(List (Int×Int×Int))×(List (Int×Int×Int))×Int×Int×Int×Int×Int×(List (Int×Int×Int))×Int×(List (Int×Int×Int))×(List Int)×(List Bool)×(List Int)×(List (Int×Int×Int×Int×Int))×(List Int)×(List (Int×Int×Int)))):Option (bS ((List (Int×Int))×Int×Int×Int×(List (Int×Int×Int))×Int×(List (Int×Int×Int))×(List Int)×(List Bool)×(List Int)×(List (Int×Int×Int×Int×Int))×(List Int)×(List (Int×Int×Int))×(List (Int×Int×Int))×Int×Int×Int×Int×Int×(List (Int×Int×Int))×Int×(List (Int×Int×Int))×(List Int)×(List Bool)×(List Int)×(List (Int×Int×Int×Int×Int))×(List Int)×(List (Int×Int×Int))) (aO×Int)):=
 match s with
 |(a,b,d,e,f,g,h,i,j,k,l,m,n,o,q,r,t,u,v,w,x,y,z,A,B,C,D,E)=>
  bif decide (b<(ac h.length)) then
   (aL h b).bind fun a0=>
   (FK a a0.2).bind fun b1=>
   bif !b1 then
    (aL h b).bind fun a2=>
    (tY (aO.mk (u,v) (Field.mk w) (bK.mk x y) (aP.mk (aU.mk z A B) C D) E) a2.1).bind fun r3=>
    some (.next (a,aA .i64 (b+1),d,e,f,g,h,i,j,k,l,m,n,o,q,r,t,r3.now.1,r3.now.2,r3.field.points,r3.certs.next_,r3.certs.list,r3.agenda.slots.uses,r3.agenda.slots.used,r3.agenda.slots.free,r3.agenda.heap,r3.agenda.where_,r3.due))
   else
    some (.next (a,aA .i64 (b+1),(d,e,f,g,h,i,j,k,l,m,n,o,q,r,t,u,v,w,x,y,z,A,B,C,D,E)))
  else
   (IR (Field.mk w) (Field.mk o)).bind fun b4=>
   bif !b4 then
    (pR (aO.mk (u,v) (Field.mk w) (bK.mk x y) (aP.mk (aU.mk z A B) C D) E) (Field.mk o)).bind fun a5=>
    bif a5.2 !=0 then
     some (.done (aO.mk (0,0) (Field.mk []) (bK.mk 0 []) (aP.mk (aU.mk [] [] []) [] []) [],a5.2))
    else
     aG eJ (a,0,q,r,t,a5.1.now.1,a5.1.now.2,a5.1.field.points,a5.1.certs.next_,a5.1.certs.list,a5.1.agenda.slots.uses,a5.1.agenda.slots.used,a5.1.agenda.slots.free,a5.1.agenda.heap,a5.1.agenda.where_,a5.1.due)
   else
    aG eJ (a,0,(q,r,t,u,v,w,x,y,z,A,B,C,D,E))
noncomputable def pS (p0:aO) (p1:Field) (p2:List (Int×Int)):Option (aO×Int):=
 (lG p0).bind fun r0=>
 aG eA (p2,0,p0.now.1,p0.now.2,p0.field.points,p0.certs.next_,p0.certs.list,p0.agenda.slots.uses,p0.agenda.slots.used,p0.agenda.slots.free,p0.agenda.heap,p0.agenda.where_,p0.due,p1.points,0,0,0,r0.now.1,r0.now.2,r0.field.points,r0.certs.next_,r0.certs.list,r0.agenda.slots.uses,r0.agenda.slots.used,r0.agenda.slots.free,r0.agenda.heap,r0.agenda.where_,r0.due)
structure HF where
 clock:aO
 heap:List Int
noncomputable def mQ (p0:aO) (p1:Int×Int):Option Int:=
 (oL p1).bind fun n0=>
 bif n0 !=0 then
  some 8
 else
  (lF p1 p0.now).bind fun n1=>
  bif decide (n1<0) then
   some 44
  else
   some 0
noncomputable def AS (s:(Int×Int×Int×(List (Int×Int×Int)))):Option (bS (Int×Int×Int×(List (Int×Int×Int))) Int):=
 bif decide (s.2.1<(ac s.2.2.2.length)) then
  (aL s.2.2.2 s.2.1).bind fun a0=>
  bif a0.1==s.1 then
   some (.done s.2.1)
  else
   some (.next (s.1,aA .i64 (s.2.1+1),s.2.2))
 else
  some (.done (-1))
noncomputable def YY (p0:bK) (p1:Int):Option Int:=
 aG AS (p1,0,p0.next_,p0.list)
noncomputable def DJ (p0:aO):Option (aO×(Int×Int×Int×Int×Int)×(Int×Int)):=
 (aL p0.agenda.heap 0).bind fun a0=>
 (YY p0.certs a0.2.2.1).bind fun n1=>
 (aL p0.certs.list n1).bind fun a2=>
 (tY p0 a0.2.2.1).bind fun r3=>
 some (aO.mk (a0.1,a0.2.1) r3.field r3.certs r3.agenda r3.due,a0,a2.2)
noncomputable def FN (p0:aO) (p1:Int×Int):Option aO:=
 (lG p0).bind fun r0=>
 some (aO.mk p1 r0.field r0.certs r0.agenda r0.due)
structure aXW where
 root:Int
 nodes:List (Int×Int×Int)
structure LX where
 clock:aO
 tree:aXW
noncomputable def HG (p0:Int×Int×Int) (p1:List (Int×Int)):Option Bool:=
 (eY p1 p0.2).bind fun b0=>
 some (!b0)
noncomputable def bW (s:((List (Int×Int×Int))×(List (Int×Int))×Int×Int)):Option (bS ((List (Int×Int×Int))×(List (Int×Int))×Int×Int) Int):=
 bif decide (s.2.2.2<s.2.2.1) then
  (aL s.1 s.2.2.2).bind fun a0=>
  (HG a0 s.2.1).bind fun b1=>
  bif b1 then
   some (.done s.2.2.2)
  else
   some (.next (s.1,s.2.1,s.2.2.1,aA .i64 (s.2.2.2+1)))
 else
  some (.done (-1))
noncomputable def jH (p0:List (Int×Int×Int)) (p1:(List (Int×Int))):Option Int:=
 aG bW (p0,p1,ac p0.length,0)
noncomputable def hZ (p0:List (Int×Int×Int)) (p1:(List (Int×Int))):Option Bool:=
 (jH p0 p1).bind fun n0=>
 some (decide (0<=n0))
noncomputable def FO (p0:aO) (p1:List (Int×Int)):Option Bool:=
 bif (ac p1.length)==(ac p0.certs.list.length) then
  (hZ p0.certs.list p1).bind fun b0=>
  some (!b0)
 else
  some false
noncomputable def nI (s:(Int×Int×(List (Int×Int×Int))×Int×Int×Int×Int×Int)):Option (bS (Int×Int×(List (Int×Int×Int))×Int×Int×Int×Int×Int) Int):=
 bif decide (s.2.1<(ac s.2.2.1.length)) then
  (aL s.2.2.1 s.2.1).bind fun a0=>
  bif a0.1 !=s.2.2.2.1 then
   (aL s.2.2.1 s.2.1).bind fun a1=>
   (mP a1 (s.2.2.2.1,s.2.2.2.2.1,s.2.2.2.2.2.1) s.2.2.2.2.2.2).bind fun b2=>
   bif b2 then
    some (.next (aA .i64 (s.1+1),aA .i64 (s.2.1+1),s.2.2))
   else
    some (.next (s.1,aA .i64 (s.2.1+1),s.2.2))
  else
   some (.next (s.1,aA .i64 (s.2.1+1),s.2.2))
 else
  some (.done s.1)
noncomputable def DK (p0:Field) (p1:Int×Int×Int) (p2:Int×Int):Option Int:=
 aG nI (0,0,p0.points,p1.1,p1.2.1,p1.2.2,p2)
noncomputable def mB (s:(Int×(List (Int×Int×Int))×Int×Int×(List Int))):Option (bS (Int×(List (Int×Int×Int))×Int×Int×(List Int)) (List Int)):=
 bif decide (s.1<(ac s.2.1.length)) then
  (aL s.2.1 s.1).bind fun a0=>
  (DK (Field.mk s.2.1) a0 (s.2.2.1,s.2.2.2.1)).bind fun n1=>
  (aL s.2.1 s.1).bind fun a2=>
  (aL s.2.2.2.2 n1).bind fun n3=>
  some (.next (aA .i64 (s.1+1),s.2.1,s.2.2.1,s.2.2.2.1,cL s.2.2.2.2 n1 a2.1))
 else
  some (.done s.2.2.2.2)
noncomputable def uZ (p0:Field) (p1:Int×Int):Option (List Int):=
 bif (ac p0.points.length)==(ac p0.points.length) then
  (xB (ac p0.points.length) (0:Int)).bind fun l0=>
  aG mB (0,p0.points,p1.1,p1.2,l0)
 else
  none
noncomputable def oQ (s:(Int×(List (Int×Int×Int))×Int×Int×(List Int)×(List Int))):Option (bS (Int×(List (Int×Int×Int))×Int×Int×(List Int)×(List Int)) bG):=
 bif decide (0<=s.1) then
  (gT (bG.mk s.2.2.2.2.1 s.2.2.2.2.2) (aA .i64 ((aA .i64 (2*s.1))+1))).bind fun n0=>
  (gT (bG.mk s.2.2.2.2.1 s.2.2.2.2.2) (aA .i64 ((aA .i64 (2*s.1))+2))).bind fun n1=>
  (tV (Field.mk s.2.1) (s.2.2.1,s.2.2.2.1) n0 n1).bind fun n2=>
  (aL s.2.2.2.2.2 s.1).bind fun n3=>
  some (.next (aA .i64 (s.1-1),s.2.1,s.2.2.1,s.2.2.2.1,s.2.2.2.2.1,cL s.2.2.2.2.2 s.1 n2))
 else
  some (.done (bG.mk s.2.2.2.2.1 s.2.2.2.2.2))
noncomputable def FP (p0:Field) (p1:Int×Int) (p2:List Int):Option bG:=
 (cA p2).bind fun l0=>
 bif (aA .i64 ((ac p2.length) -1))==(aA .i64 ((ac p2.length) -1)) then
  (xB (aA .i64 ((ac p2.length) -1)) (0:Int)).bind fun l1=>
  aG oQ (aA .i64 ((ac l1.length) -1),p0.points,p1.1,p1.2,l0,l1)
 else
  none
noncomputable def IS (p0:Field) (p1:Int×Int) (p2:List Int):Option bG:=
 (FP p0 p1 p2).bind fun r0=>
 some r0
noncomputable def pT (p0:aO) (p1:Field) (p2:List Int):Option (bO×Int):=
 (IS p1 p0.now p2).bind fun r0=>
 (wC r0).bind fun l1=>
 (pS p0 p1 l1).bind fun a2=>
 bif a2.2 !=0 then
  some (bO.mk (aO.mk (0,0) (Field.mk []) (bK.mk 0 []) (aP.mk (aU.mk [] [] []) [] []) []) (bG.mk [] []),a2.2)
 else
  some (bO.mk a2.1 r0,0)
noncomputable def MX (p0:bO):Option ((List (Int×Int))×Int):=
 (fD p0).bind fun n0=>
 bif n0 !=0 then
  (fD p0).bind fun n1=>
  some ([],n1)
 else
  (wC p0.bracket).bind fun l2=>
  some (l2,0)
noncomputable def J9 (p0:bO):Option (Int×Int):=
 (fD p0).bind fun n0=>
 bif n0 !=0 then
  (fD p0).bind fun n1=>
  some (0,n1)
 else
  bif (ac p0.clock.field.points.length)==0 then
   some (0,42)
  else
   (uZ p0.clock.field p0.clock.now).bind fun l2=>
   (aL l2 0).bind fun n3=>
   some (n3,0)
noncomputable def PR (p0:bG):Option bG:=
 (cA p0.places).bind fun l0=>
 (cA p0.wins).bind fun l1=>
 some (bG.mk l0 l1)
noncomputable def IT (p0:bO):Option bO:=
 (lG p0.clock).bind fun r0=>
 (PR p0.bracket).bind fun r1=>
 some (bO.mk r0 r1)
noncomputable def iD (s:(Int×Int×Int×Int×Int×Int×Int×(List (Int×Int×Int))×Int×(List (Int×Int×Int))×(List Int)×(List Bool)×(List Int)×(List (Int×Int×Int×Int×Int))×(List Int)×(List (Int×Int×Int))×(List Int)×(List Int)×(List (Int×Int)))):Option (bS (Int×Int×Int×Int×Int×Int×Int×(List (Int×Int×Int))×Int×(List (Int×Int×Int))×(List Int)×(List Bool)×(List Int)×(List (Int×Int×Int×Int×Int))×(List Int)×(List (Int×Int×Int))×(List Int)×(List Int)×(List (Int×Int))) (bO×(List (Int×Int))×Int)):=
 match s with
 |(a,b,d,e,f,g,h,i,j,k,l,m,n,o,q,r,t,u,v)=>
  (wD (aO.mk (g,h) (Field.mk i) (bK.mk j k) (aP.mk (aU.mk l m n) o q) r) (a,b)).bind fun b0=>
  bif b0 then
   (DJ (aO.mk (g,h) (Field.mk i) (bK.mk j k) (aP.mk (aU.mk l m n) o q) r)).bind fun a1=>
   (pT a1.1 a1.1.field t).bind fun a2=>
   bif a2.2 !=0 then
    some (.done (bO.mk (aO.mk (0,0) (Field.mk []) (bK.mk 0 []) (aP.mk (aU.mk [] [] []) [] []) []) (bG.mk [] []),[],a2.2))
   else
    (bZ v [a1.2.2]).bind fun l3=>
    some (.next (a,b,d,e,f,a2.1.clock.now.1,a2.1.clock.now.2,a2.1.clock.field.points,a2.1.clock.certs.next_,a2.1.clock.certs.list,a2.1.clock.agenda.slots.uses,a2.1.clock.agenda.slots.used,a2.1.clock.agenda.slots.free,a2.1.clock.agenda.heap,a2.1.clock.agenda.where_,a2.1.clock.due,a2.1.bracket.places,a2.1.bracket.wins,l3))
  else
   (IT (bO.mk (aO.mk (g,h) (Field.mk i) (bK.mk j k) (aP.mk (aU.mk l m n) o q) r) (bG.mk t u))).bind fun r4=>
   (FN r4.clock (a,b)).bind fun r5=>
   some (.done (bO.mk r5 r4.bracket,v,0))
noncomputable def PS (p0:bO) (p1:Int×Int):Option (bO×(List (Int×Int))×Int):=
 aG iD (p1.1,p1.2,0,0,0,p0.clock.now.1,p0.clock.now.2,p0.clock.field.points,p0.clock.certs.next_,p0.clock.certs.list,p0.clock.agenda.slots.uses,p0.clock.agenda.slots.used,p0.clock.agenda.slots.free,p0.clock.agenda.heap,p0.clock.agenda.where_,p0.clock.due,p0.bracket.places,p0.bracket.wins,[])
noncomputable def pU (p0:bO) (p1:Int×Int):Option (bO×(List (Int×Int))×Int):=
 (fD p0).bind fun n0=>
 bif n0 !=0 then
  (fD p0).bind fun n1=>
  some (bO.mk (aO.mk (0,0) (Field.mk []) (bK.mk 0 []) (aP.mk (aU.mk [] [] []) [] []) []) (bG.mk [] []),[],n1)
 else
  (mQ p0.clock p1).bind fun n2=>
  bif n2 !=0 then
   (mQ p0.clock p1).bind fun n3=>
   some (bO.mk (aO.mk (0,0) (Field.mk []) (bK.mk 0 []) (aP.mk (aU.mk [] [] []) [] []) []) (bG.mk [] []),[],n3)
  else
   (PS p0 p1).bind fun a4=>
   some a4
abbrev DL (n:Int):Prop:= -9223372036854775808<=n/\n<9223372036854775808
abbrev U64 (n:Int):Prop:=0<=n/\n<18446744073709551616
theorem wi (n:Int):aA .i64 n=(n+9223372036854775808)%18446744073709551616-9223372036854775808:=by
 rw [yC];simp only [IntKind.wrap,IntKind.bits,IntKind.signed,Bool.true_and];have e1:(2:Int)^64=18446744073709551616:=by decide
 have e2:(2:Int)^(64-1)=9223372036854775808:=by decide
 simp only [e1,e2,decide_eq_true_eq];split<;>omega
theorem wu (n:Int):aA .u64 n=n%18446744073709551616:=by
 rw [yC];simp only [IntKind.wrap,IntKind.bits,IntKind.signed,Bool.false_and];have e1:(2:Int)^64=18446744073709551616:=by decide
 simp only [e1];simp
theorem oR {n:Int} (h:DL n):aA .i64 n=n:=by rw [wi];omega
theorem dL {a b:Int} (h:a≠b):(a !=b)=true:=by simpa using h
theorem bP {a b:Int} (h:a=b):(a !=b)=false:=by simpa using h
theorem eH {a b:Int} (h:a=b):(a==b)=true:=by simpa using h
theorem eM {a b:Int} (h:a≠b):(a==b)=false:=by simpa using h
theorem aCA (a b:Int):(a==b)=decide (a=b):=by
 by_cases h:a=b
 · rw [eH h,decide_eq_true h]
 rw [eM h,decide_eq_false h]
theorem lt_or_ge (a b:Int):a<b\/b<=a:=by omega
theorem aTt (a:Int):iM .u64 a 32=a / 4294967296:=by
 unfold iM;rw [show (min (32:Int).toNat (IntKind.bits .u64))=32 from by decide,show (2:Int)^32=4294967296 from by decide]
 exact cb _ (by decide)
theorem aA2 {a:Int} (h:U64 a):HY .u64 a 4294967295=a%4294967296:=by
 obtain ⟨n,rfl⟩:=bk h.1;unfold HY;have e:(BitVec.ofInt (IntKind.bits .u64) (n:Int)&&&BitVec.ofInt (IntKind.bits .u64) 4294967295).toNat=n%4294967296:=by
  rw [BitVec.toNat_and];have e1:(BitVec.ofInt (IntKind.bits .u64) (n:Int)).toNat=n:=by
   rw [BitVec.toNat_ofInt]
   have:((2^(IntKind.bits .u64):Nat):Int)=18446744073709551616:=by decide
   rw [this];omega
  have e2:(BitVec.ofInt (IntKind.bits .u64) (4294967295:Int)).toNat=2^32-1:=by decide
  rw [e1,e2,Nat.and_two_pow_sub_one_eq_mod]
 rw [e]
 have:=wu ((n%4294967296:Nat):Int)
 rw [yC] at this;rw [this];omega
theorem aM3 {a b:Nat} (ha:a<1000000000) (hb:b<1000000000):aA .i64 (iM .u64 (aA .u64 (aA .i64 ((a:Int)+(b:Int)))) 1)=(((a+b) / 2:Nat):Int):=by
 unfold iM;rw [show (min (1:Int).toNat (IntKind.bits .u64))=1 from by decide,show (2:Int)^1=2 from by decide,cb _ (by decide),wi (_+_),wu,wi]
 omega
section
variable {σ ρ : Type} {body : σ -> Option (bS σ ρ)}
theorem dO (st:Nat->σ) (n:Nat) (h: ∀i,i<n->body (st i)=some (.next (st (i+1)))):aG body (st 0)=aG body (st n):=by
 induction n with
 |zero=>rfl
 |succ n ih=>
  rw [ih fun i hi=>h i (by omega)]
  exact bC (h n (by omega))
theorem dS (st:Nat->σ) (n:Nat) (c:Nat->Prop) {r e:ρ} (h: ∀i,i<n->(c i->body (st i)=some (.done r))/\(¬c i->body (st i)=some (.next (st (i+1)))))
 (hend:body (st n)=some (.done e)):((∃i,i<n/\c i)->aG body (st 0)=some r)/\((∀i,i<n-> ¬c i)->aG body (st 0)=some e):=by
 constructor
 · rintro ⟨i,hi,hc⟩
   have key: ∀k,k<=n->(∃i,i<n/\n-k<=i/\c i)->aG body (st (n-k))=some r:=by
    intro k
    induction k with
    |zero=>rintro _ ⟨i,h1,h2,_⟩;omega
    |succ k ih=>
     rintro hk ⟨i,h1,h2,h3⟩
     by_cases hc:c (n- (k+1))
     · exact aK ((h _ (by omega)).1 hc)
     rw [bC ((h _ (by omega)).2 hc),show n- (k+1)+1=n-k by omega]
     refine ih (by omega) ⟨i,h1,?_,h3⟩
     by_cases he:i=n- (k+1)
     · subst he;exact absurd h3 hc
     omega
   have:=key n (cz n) ⟨i,hi,by omega,hc⟩
   rwa [Nat.sub_self] at this
 intro hn
 rw [dO st n fun i hi=>(h i hi).2 (hn i hi)]
 exact aK hend
theorem KA {c:Nat->Prop}: ∀{n:Nat},(∃i,i<n/\c i)-> ∃k,k<n/\c k/\ ∀j,j<k-> ¬c j
 |0,h=>by obtain ⟨i,hi,_⟩:=h;omega
 |n+1,h=>by
  by_cases hx: ∃i,i<n/\c i
  · obtain ⟨k,h1,h2,h3⟩:=KA hx
    exact ⟨k,by omega,h2,h3⟩
  obtain ⟨i,hi,hc⟩:=h
  refine ⟨i,hi,hc,fun j hj hcj=>hx ⟨j,by omega,hcj⟩⟩
theorem mR (st:Nat->σ) (n:Nat) (c:Nat->Prop) (r:Nat->ρ) {e:ρ} (h: ∀i,i<n->(c i->body (st i)=some (.done (r i)))/\(¬c i->body (st i)=some (.next (st (i+1)))))
 (hend:body (st n)=some (.done e)):(∀k,k<n->c k->(∀j,j<k-> ¬c j)->aG body (st 0)=some (r k))/\((∀i,i<n-> ¬c i)->aG body (st 0)=some e):=by
 constructor
 · intro k hk hc hj
   rw [dO st k fun i hi=>(h i (by omega)).2 (hj i hi)]
   exact aK ((h k hk).1 hc)
 intro hn
 rw [dO st n fun i hi=>(h i hi).2 (hn i hi)]
 exact aK hend
theorem LY (st:Nat->Nat->σ) (n m:Nat) (c:Nat->Prop)
 (h: ∀lo hi,lo<hi->hi<=n->(c ((lo+hi) / 2)->body (st lo hi)=some (.next (st ((lo+hi) / 2+1) hi)))/\(¬c ((lo+hi) / 2)->body (st lo hi)=some (.next (st lo ((lo+hi) / 2)))))
 (h1: ∀i,i<m->c i) (h2: ∀i,m<=i->i<n-> ¬c i): ∀d lo hi,hi-lo<=d->lo<=m->m<=hi->hi<=n->aG body (st lo hi)=aG body (st m m)
 |0,lo,hi,hd,a,b,_=>by
  have e1:lo=m:=by omega
  have e2:hi=m:=by omega
  rw [e1,e2]
 |d+1,lo,hi,hd,a,b,e=>by
  by_cases hl:lo<hi
  · by_cases hc:c ((lo+hi) / 2)
    · rw [bC ((h lo hi hl e).1 hc)]
      refine LY st n m c h h1 h2 d _ _ (by omega) ?_ b e
      refine ar fun hx=>?_
      exact h2 ((lo+hi) / 2) (by omega) (by omega) hc
    rw [bC ((h lo hi hl e).2 hc)]
    refine LY st n m c h h1 h2 d _ _ (by omega) a ?_ (by omega)
    refine ar fun hx=>?_
    exact hc (h1 ((lo+hi) / 2) (by omega))
  have e1:lo=m:=by omega
  have e2:hi=m:=by omega
  rw [e1,e2]
end
section
variable {α : Type} [Inhabited α]
theorem aC (l:List α) (n:Nat) (h:n<l.length):aL l (n:Int)=some l[n]!:=by
 show l[n]? =some l[n]!;rw [cq h,getElem!_pos l n h]
theorem eG {l:List α} {i:Int} (h0:0<=i) (h:i<l.length):aL l i=some l[i.toNat]!:=by
 obtain ⟨n,rfl⟩:=bk h0;exact aC l n (by omega)
theorem wG {β:Type} (l:List β) (n:Nat) (a:β):cL l (n:Int) a=l.set n a:=rfl
theorem bF (l:List α) (n m:Nat) (a:α):(l.set n a)[m]! =if m=n/\n<l.length then a else l[m]!:=by
 by_cases hm:m<l.length
 · rw [getElem!_pos (l.set n a) m (by simpa using hm),getElem!_pos l m hm,List.getElem_set]
   split
   · rw [if_pos (by omega)]
   rw [if_neg (by omega)]
 rw [getElem!_neg (l.set n a) m (by simpa using hm),getElem!_neg l m hm]
 split
 · omega
 rfl
theorem aW {l:List α} {x:α}:x∈l↔ ∃i,i<l.length/\l[i]! =x:=by
 rw [List.mem_iff_getElem];constructor
 · rintro ⟨i,h,rfl⟩;exact ⟨i,h,getElem!_pos l i h⟩
 rintro ⟨i,h,rfl⟩;exact ⟨i,h,(getElem!_pos l i h).symm⟩
theorem bL {l:List α} {i:Nat} (h:i<l.length):l[i]!∈l:=aW.2 ⟨i,h,rfl⟩
theorem iE {l m:List α} {i:Nat} (h:i<l.length):(l++m)[i]! =l[i]!:=by
 rw [getElem!_pos (l++m) i (by simp;omega),getElem!_pos l i h,List.getElem_append_left h]
theorem kE {l m:List α} {i:Nat} (h:l.length<=i):(l++m)[i]! =m[i-l.length]!:=by
 by_cases hi:i<l.length+m.length
 · rw [getElem!_pos (l++m) i (by simp;omega),getElem!_pos m (i-l.length) (by omega),List.getElem_append_right h]
 rw [getElem!_neg (l++m) i (by simp;omega),getElem!_neg m (i-l.length) (by omega)]
theorem nS {l:List α} {n i:Nat} (h:i<n):(l.take n)[i]! =l[i]!:=by
 by_cases hi:i<l.length
 · rw [getElem!_pos (l.take n) i (by simp;omega),getElem!_pos l i hi,List.getElem_take]
 rw [getElem!_neg (l.take n) i (by simp;omega),getElem!_neg l i hi]
theorem uB {l:List α} {n i:Nat}:(l.drop n)[i]! =l[n+i]!:=by
 by_cases hi:n+i<l.length
 · rw [getElem!_pos (l.drop n) i (by simp;omega),getElem!_pos l (n+i) hi,List.getElem_drop]
 rw [getElem!_neg (l.drop n) i (by simp;omega),getElem!_neg l (n+i) hi]
theorem wH {l m:List α} (hl:l.length=m.length) (h: ∀i,i<l.length->l[i]! =m[i]!):l=m:=by
 apply List.ext_getElem hl;intro i h1 h2
 have:=h i h1
 rwa [getElem!_pos l i h1,getElem!_pos m i h2] at this
theorem aFE {l:List α} {i:Nat} (h:i<l.length):l=l.take i++l[i]!::l.drop (i+1):=by
 rw [getElem!_pos l i h,List.getElem_cons_drop,List.take_append_drop]
end
theorem aY {α:Type} {l:List α} (h:l.length<=1048576):cA l=some l:=by unfold cA;rw [if_pos h]
theorem fE {α:Type} {l m:List α} (h:l.length+m.length<=1048576):bZ l m=some (l++m):=by unfold bZ;rw [if_pos h]
@[simp] theorem aB {α β:Type} (a:α) (f:α->Option β):(some a).bind f=f a:=rfl
end Go.Proofs.YtlnclppkepgdmaaGreat
namespace Go.Proofs.YtlnclppkepgdmaaGreat
open Go.Vm Classical
theorem lH {n:Int} (h:DL n):iZ n=some (n.natAbs:Int):=by
 unfold iZ;simp only [wi,wu]
 by_cases hn:n<0
 · simp only [hn,decide_true,cond_true,ai];omega
 simp only [hn,decide_false,cond_false,ai];omega
theorem sP {n:Int} (h:DL n):nN n=some (n.natAbs:Int):=by
 unfold nN;simp only [wu]
 by_cases hn:n<0
 · simp only [hn,decide_true,cond_true,ai];omega
 simp only [hn,decide_false,cond_false,ai];omega
theorem uC (m n:Nat):rY m n=some (aj m n:Int):=by
 unfold rY
 induction n using dm generalizing m with
 |ind n ih=>
  by_cases h0:n=0
  · subst h0
    rw [de];exact aK (by simp [qB])
  have e:qB ((m:Int),(n:Int))=some (.next ((n:Int),((m%n:Nat):Int))):=by
   have h1:((n:Int) !=0)=true:=by simp;omega
   have h2:((n:Int)==0)=false:=by simp;omega
   simp only [qB,h1,h2,cond_true,cond_false,dw]
  rw [bC e,ih (m%n) (Nat.mod_lt _ (by omega)) n,bn m n,Nat.gcd_rec n m,bn]
theorem HH (m n:Nat):B9 m n=some (aj m n:Int):=by
 unfold B9
 induction n using dm generalizing m with
 |ind n ih=>
  by_cases h0:n=0
  · subst h0
    rw [de];exact aK (by simp [xL])
  have e:xL ((m:Int),(n:Int))=some (.next ((n:Int),((m%n:Nat):Int))):=by
   have h1:decide (0<(n:Int))=true:=by simp;omega
   have h2:((n:Int)==0)=false:=by simp;omega
   simp only [xL,h1,h2,cond_true,cond_false,dw]
  rw [bC e,ih (m%n) (Nat.mod_lt _ (by omega)) n,bn m n,Nat.gcd_rec n m,bn]
def bQ (r:Int×Int):Prop:=1<=r.2/\r.1≠ -9223372036854775808/\aj r.2.natAbs r.1.natAbs=1
abbrev oA (r:Int×Int):Prop:=DL r.1/\DL r.2
theorem dP {r:Int×Int} (h:oA r):eL r=some (if bQ r then 0 else 8):=by
 obtain ⟨a,b⟩:=r;obtain ⟨ha,hb⟩:=h;unfold eL bQ;dsimp only at ha hb ⊢
 by_cases h1:b<1
 · rw [if_neg (by omega)];simp [h1]
 by_cases h2:a= -9223372036854775808
 · rw [if_neg (by omega)];simp [h1,h2]
 have e2:(a== -9223372036854775808)=false:=by simpa using h2
 have e3:aA .u64 b=(b.natAbs:Int):=by rw [wu];omega
 simp only [h1,decide_false,cond_false,e2,sP ha,aB,e3,HH];have hp:0<aj b.natAbs a.natAbs:=Nat.gcd_pos_of_pos_left _ (by omega)
 by_cases h3:aj b.natAbs a.natAbs=1
 · rw [if_pos ⟨by omega,h2,h3⟩,h3];rfl
 rw [if_neg (fun h=>h3 h.2.2)]
 have:decide (1<(aj b.natAbs a.natAbs:Int))=true:=by simp;omega
 rw [this];rfl
theorem mC {r:Int×Int} (h:oA r):oL r=some (if bQ r then 0 else 8):=by
 obtain ⟨a,b⟩:=r;obtain ⟨ha,hb⟩:=h;unfold oL bQ;dsimp only at ha hb ⊢
 by_cases h1:b<1
 · rw [if_neg (by omega)];simp [h1]
 by_cases h2:a= -9223372036854775808
 · rw [if_neg (by omega)];simp [h1,h2]
 have e2:(a== -9223372036854775808)=false:=by simpa using h2
 have e3:aA .u64 b=(b.natAbs:Int):=by rw [wu];omega
 simp only [h1,decide_false,cond_false,e2,lH ha,aB,e3,uC];rw [bn]
 by_cases h3:aj b.natAbs a.natAbs=1
 · rw [if_pos ⟨by omega,h2,h3⟩,h3];rfl
 rw [if_neg (fun h=>h3 h.2.2)]
 have:((aj b.natAbs a.natAbs:Int) !=1)=true:=by simp;omega
 rw [this];rfl
theorem aFF (x y:Int) (hx:U64 x) (hy:U64 y): ∃p q r s:Int,0<=p/\p<=18446744065119617025/\0<=q/\q<=18446744065119617025/\0<=r/\r<=18446744065119617025/\0<=s/\s<=18446744065119617025/\
 x / 4294967296*(y / 4294967296)=p/\x / 4294967296*(y%4294967296)=q/\x%4294967296*(y / 4294967296)=r/\x%4294967296*(y%4294967296)=s/\
 x*y=p*18446744073709551616+(q+r)*4294967296+s:=by
 have hx1:0<=x / 4294967296/\x / 4294967296<=4294967295:=by omega
 have hx0:0<=x%4294967296/\x%4294967296<=4294967295:=by omega
 have hy1:0<=y / 4294967296/\y / 4294967296<=4294967295:=by omega
 have hy0:0<=y%4294967296/\y%4294967296<=4294967295:=by omega
 have ex:x=x / 4294967296*4294967296+x%4294967296:=by omega
 have ey:y=y / 4294967296*4294967296+y%4294967296:=by omega
 generalize x / 4294967296=a at*;generalize x%4294967296=b at*;generalize y / 4294967296=c at*;generalize y%4294967296=d at*;have bd: ∀{u v:Int},0<=u/\u<=4294967295->0<=v/\v<=4294967295->0<=u*v/\u*v<=18446744065119617025:=by
  intro u v hu hv;refine ⟨c6 hu.1 hv.1,?_⟩
  calc u*v<=4294967295*4294967295:=cd hu.2 hv.2 hv.1 (by decide)
   _=_:=by decide
 refine ⟨a*c,a*d,b*c,b*d,(bd hx1 hy1).1,(bd hx1 hy1).2,(bd hx1 hy0).1,(bd hx1 hy0).2,(bd hx0 hy1).1,(bd hx0 hy1).2,(bd hx0 hy0).1,(bd hx0 hy0).2,rfl,rfl,rfl,rfl,?_⟩;rw [ex,ey]
 grind
theorem PU {x y:Int} (hx:U64 x) (hy:U64 y):iY x y=some (x*y / 18446744073709551616,x*y%18446744073709551616):=by
 unfold iY;obtain ⟨p,q,r,s,p0,p1,q0,q1,r0,r1,s0,s1,ep,eq,er,es,exy⟩:=aFF x y hx hy;have key: ∀z:Int,HY .u64 (z%18446744073709551616) 4294967295=z%18446744073709551616%4294967296:=fun z=>aA2 (by constructor<;>omega)
 simp only [aTt,aA2 hx,aA2 hy,wu,key,ep,eq,er,es,exy,ai,ba,and_true];clear ep eq er es exy key hx hy;have e1:s%18446744073709551616=s:=by omega
 have e2:(q+s / 4294967296)%18446744073709551616=q+s / 4294967296:=by omega
 have ep:p%18446744073709551616=p:=by omega
 have eq:q%18446744073709551616=q:=by omega
 have er:r%18446744073709551616=r:=by omega
 rw [e1,ep,eq,er,e2];have e3:s=s / 4294967296*4294967296+s%4294967296:=by omega
 have e4:q+s / 4294967296=(q+s / 4294967296) / 4294967296*4294967296+(q+s / 4294967296)%4294967296:=by omega
 have b1:0<=s%4294967296/\s%4294967296<4294967296:=by omega
 have b2:0<=(q+s / 4294967296)%4294967296/\(q+s / 4294967296)%4294967296<4294967296:=by omega
 have b3:0<=(q+s / 4294967296) / 4294967296/\(q+s / 4294967296) / 4294967296<=4294967295:=by omega
 have b4:0<=s / 4294967296/\s / 4294967296<=4294967295:=by omega
 generalize (q+s / 4294967296) / 4294967296=t1 at*;generalize (q+s / 4294967296)%4294967296=t0 at*;generalize s / 4294967296=c1 at*;generalize s%4294967296=c0 at*;clear e1 e2;have e5:(t0+r)%18446744073709551616=t0+r:=by omega
 rw [e5];have e6:t0+r=(t0+r) / 4294967296*4294967296+(t0+r)%4294967296:=by omega
 have b5:0<=(t0+r)%4294967296/\(t0+r)%4294967296<4294967296:=by omega
 have b6:0<=(t0+r) / 4294967296/\(t0+r) / 4294967296<=4294967295:=by omega
 generalize (t0+r) / 4294967296=u1 at*;generalize (t0+r)%4294967296=u0 at*;omega
theorem aA3 {x y:Int} (hx:U64 x) (hy:U64 y):uT x y=some (false,x*y / 18446744073709551616,x*y%18446744073709551616):=by
 unfold uT;obtain ⟨p,q,r,s,p0,p1,q0,q1,r0,r1,s0,s1,ep,eq,er,es,exy⟩:=aFF x y hx hy;have t1: ∀a:Int,0<=a->ay a 4294967296=a / 4294967296:=fun a h=>ce h
 have t2: ∀a:Int,0<=a->Int.tmod a 4294967296=a%4294967296:=fun a h=>Int.tmod_eq_emod_of_nonneg h
 simp only [wu];rw [t1 x hx.1,t1 y hy.1,t2 x hx.1,t2 y hy.1];have f1:x / 4294967296%18446744073709551616=x / 4294967296:=by omega
 have f2:y / 4294967296%18446744073709551616=y / 4294967296:=by omega
 simp only [f1,f2,ep,eq,er,es];have g: ∀a:Int,ay (a%18446744073709551616) 4294967296=a%18446744073709551616 / 4294967296:=fun a=>t1 _ (by omega)
 have g2: ∀a:Int,Int.tmod (a%18446744073709551616) 4294967296=a%18446744073709551616%4294967296:=fun a=>t2 _ (by omega)
 simp only [g,g2,exy,ai,ba,true_and];constructor<;>omega
abbrev B64 (a:Bool×Int×Int):Prop:=U64 a.2.1/\U64 a.2.2
theorem GO {n:Int} (h:DL n):U64 (n.natAbs:Int):=by constructor<;>omega
theorem GP {n:Int} (h:DL n):(n.natAbs:Int)<=9223372036854775808:=by omega
theorem KB (a b:Int):((a.natAbs:Int)*(b.natAbs:Int))=((a*b).natAbs:Int):=by rw [Int.natAbs_mul];rfl
theorem zB {a b:Int} (ha:DL a) (hb:DL b):((a*b).natAbs:Int)<=85070591730234615865843651857942052864:=by
 rw [<- KB]
 calc (a.natAbs:Int)*(b.natAbs:Int)<=9223372036854775808*9223372036854775808:=cd (GP ha) (GP hb) (by omega) (by decide)
  _=_:=by decide
theorem DM {a b:Int} (ha:DL a) (hb:DL b):
 lE a b=some (decide (a*b<0),((a*b).natAbs:Int) / 18446744073709551616,((a*b).natAbs:Int)%18446744073709551616):=by
 unfold lE;simp only [lH ha,lH hb,aB,aA3 (GO ha) (GO hb),KB];have hs:(a*b<0)↔((a<0/\0<b)\/(0<a/\b<0)):=by
  constructor
  · intro h
    rcases cj a 0 with h1|h1|h1
    · rcases cj b 0 with h2|h2|h2
      · have:=Int.mul_pos_of_neg_of_neg h1 h2;omega
      · subst h2;simp at h
      exact .inl ⟨h1,h2⟩
    · subst h1;simp at h
    rcases cj b 0 with h2|h2|h2
    · exact .inr ⟨h1,h2⟩
    · subst h2;simp at h
    have:=Int.mul_pos h1 h2;omega
  rintro (⟨h1,h2⟩|⟨h1,h2⟩)
  · exact bj h1 h2
  exact Int.mul_neg_of_pos_of_neg h1 h2
 have hd:decide (a*b<0)=decide ((a<0/\0<b)\/(0<a/\b<0)):=by simp only [hs]
 rw [hd];clear hd hs;generalize ((a*b).natAbs:Int)=z
 by_cases h1:a<0
 · have h1': ¬0<a:=by omega
   have h1'':(a !=0)=true:=dL (by omega)
   by_cases h2:b<0
   · have h2': ¬0<b:=by omega
     simp [h1,h2,h1',h2']
   by_cases h3:b=0
   · simp [h1,h3,h1'']
   have h3':0<b:=by omega
   simp [h1,h2,h3',h1'',dL h3]
 by_cases h0:a=0
 · subst h0
   by_cases h2:b<0<;>simp [h2]
 have h1':0<a:=by omega
 by_cases h2:b<0
 · have h2':(b !=0)=true:=dL (by omega)
   simp [h1,h2,h1',dL h0,h2']
 simp [h1,h2,h1']
theorem YZ {a b:Int} (ha:DL a) (hb:DL b):
 vP a b=some (!(decide (a<0)==decide (b<0)),((a*b).natAbs:Int) / 18446744073709551616,((a*b).natAbs:Int)%18446744073709551616):=by
 unfold vP;simp only [sP ha,sP hb,aB,PU (GO ha) (GO hb),KB]
def lJ (a b:Int):Int:=if a<b then -1 else if b<a then 1 else 0
theorem HI (a b:Int):kT a b=some (lJ a b):=by
 unfold kT qA lJ
 by_cases h1:a<b<;>by_cases h2:b<a<;>simp [h1,h2]
theorem RS (a b:Int):kA a b=some (lJ a b):=by
 unfold kA oZ lJ
 by_cases h1:a<b<;>by_cases h2:b<a<;>simp [h1,h2]
theorem mD (a b:Int):fG a b=some (lJ a b):=by
 unfold fG uM lJ
 by_cases h1:a<b<;>by_cases h2:b<a<;>simp [h1,h2]
theorem eN (a b:Int):(a<b/\lJ a b= -1)\/(a=b/\lJ a b=0)\/(b<a/\lJ a b=1):=by
 unfold lJ
 by_cases h1:a<b
 · exact .inl ⟨h1,by rw [if_pos h1]⟩
 by_cases h2:b<a
 · exact .inr (.inr ⟨h2,by rw [if_neg h1,if_pos h2]⟩)
 exact .inr (.inl ⟨by omega,by rw [if_neg h1,if_neg h2]⟩)
theorem VI (a b:Bool×Int×Int) (ha:B64 a) (hb:B64 b):tQ a b=some (lJ (a.2.1*18446744073709551616+a.2.2) (b.2.1*18446744073709551616+b.2.2)):=by
 obtain ⟨s,ah,al⟩:=a;obtain ⟨t,bh,bl⟩:=b;obtain ⟨⟨a1,a2⟩,a3,a4⟩:=ha;obtain ⟨⟨b1,b2⟩,b3,b4⟩:=hb;dsimp only at*;unfold tQ lJ;dsimp only
 by_cases h1:ah=bh
 · subst h1
   by_cases h2:al=bl
   · subst h2;simp
   by_cases h3:al<bl
   · simp [dL h2,h3]
   rw [if_neg (by omega),if_pos (by omega)];simp [dL h2,h3]
 by_cases h3:ah<bh
 · rw [if_pos (by omega)];simp [dL h1,h3]
 rw [if_neg (by omega),if_pos (by omega)];simp [dL h1,h3]
theorem aA4 (a b:Bool×Int×Int) (ha:B64 a) (hb:B64 b):uR a b=some (lJ (a.2.1*18446744073709551616+a.2.2) (b.2.1*18446744073709551616+b.2.2)):=by
 obtain ⟨s,ah,al⟩:=a;obtain ⟨t,bh,bl⟩:=b;obtain ⟨⟨a1,a2⟩,a3,a4⟩:=ha;obtain ⟨⟨b1,b2⟩,b3,b4⟩:=hb;dsimp only at*;unfold uR;simp only [RS,aB];unfold lJ
 by_cases h1:ah=bh
 · subst h1
   by_cases h3:al<bl
   · simp [h3]
   by_cases h2:bl<al
   · rw [if_neg (show¬(ah*18446744073709551616+al<ah*18446744073709551616+bl) by omega),if_pos (show ah*18446744073709551616+bl<ah*18446744073709551616+al by omega)];simp [h2,h3]
   have:al=bl:=by omega
   subst this;simp
 by_cases h3:ah<bh
 · rw [if_pos (show ah*18446744073709551616+al<bh*18446744073709551616+bl by omega)];simp [h3]
 rw [if_neg (show¬(ah*18446744073709551616+al<bh*18446744073709551616+bl) by omega),if_pos (show bh*18446744073709551616+bl<ah*18446744073709551616+al by omega)];simp [h3,show bh<ah by omega]
theorem AT (a:Bool) {n:Int} (h0:0<=n) (h:n<=85070591730234615865843651857942052864):B64 (a,n / 18446744073709551616,n%18446744073709551616):=by
 constructor<;>constructor<;>dsimp only<;>omega
theorem VJ {n:Int} (h:(n.natAbs:Int)<=85070591730234615865843651857942052864):mZ (decide (n<0),(n.natAbs:Int) / 18446744073709551616,(n.natAbs:Int)%18446744073709551616)=some (lJ n 0):=by
 unfold mZ lJ;dsimp only
 by_cases h0:n=0
 · subst h0;simp
 by_cases h1:n<0
 · rw [if_pos h1]
   by_cases h2:(n.natAbs:Int) / 18446744073709551616=0
   · have h3: ¬((n.natAbs:Int)%18446744073709551616=0):=by omega
     simp [h1,h2,eM h3]
   simp [h1,eM h2]
 rw [if_neg h1,if_pos (by omega)]
 by_cases h2:(n.natAbs:Int) / 18446744073709551616=0
 · have h3: ¬((n.natAbs:Int)%18446744073709551616=0):=by omega
   simp [h1,h2,eM h3]
 simp [h1,eM h2]
def mE (a b:Int×Int):Int:=lJ (a.1*b.2) (b.1*a.2)
theorem uD {a b:Int×Int} (ha:oA a) (hb:oA b):lF a b=some (mE a b):=by
 unfold lF mE;have n1:=zB ha.1 hb.2;have n2:=zB hb.1 ha.2;simp only [DM ha.1 hb.2,DM hb.1 ha.2,aB,VJ n1,VJ n2];generalize a.1*b.2=x at*;generalize b.1*a.2=y at*;rw [VI _ _ (AT _ (by omega) n1) (AT _ (by omega) n2),VI _ _ (AT _ (by omega) n2) (AT _ (by omega) n1)]
 have ex:((x.natAbs:Int) / 18446744073709551616)*18446744073709551616+(x.natAbs:Int)%18446744073709551616=(x.natAbs:Int):=by omega
 have ey:((y.natAbs:Int) / 18446744073709551616)*18446744073709551616+(y.natAbs:Int)%18446744073709551616=(y.natAbs:Int):=by omega
 simp only [ex,ey,aB];rcases eN x 0 with ⟨h1,e1⟩|⟨h1,e1⟩|⟨h1,e1⟩<;>rcases eN y 0 with ⟨h2,e2⟩|⟨h2,e2⟩|⟨h2,e2⟩<;>rw [e1,e2]<;>simp<;>
  unfold lJ<;>(repeat' split)<;>first|rfl|omega
theorem aM4 {a b:Int×Int} (ha:oA a) (hb:oA b):DC a b=some (if bQ a/\bQ b then 0 else 8):=by
 unfold DC;simp only [dP ha,dP hb,aB]
 by_cases h1:bQ a<;>by_cases h2:bQ b<;>simp [h1,h2]
theorem LZ {a b:Int×Int} (ha:oA a) (hb:oA b):tL a b=some (if bQ a/\bQ b then (mE a b,0) else (0,8)):=by
 unfold tL;rw [aM4 ha hb]
 by_cases h:bQ a/\bQ b
 · rw [if_pos h,if_pos h]
   obtain ⟨⟨a1,a2,a3⟩,b1,b2,b3⟩:=h;have n1:=zB ha.1 hb.2;have n2:=zB hb.1 ha.2;simp only [aB,HI,YZ ha.1 hb.2,YZ hb.1 ha.2];rw [aA4 _ _ (AT _ (by omega) n1) (AT _ (by omega) n2)]
   have ex:((a.1*b.2).natAbs:Int) / 18446744073709551616*18446744073709551616+((a.1*b.2).natAbs:Int)%18446744073709551616=((a.1*b.2).natAbs:Int):=by omega
   have ey:((b.1*a.2).natAbs:Int) / 18446744073709551616*18446744073709551616+((b.1*a.2).natAbs:Int)%18446744073709551616=((b.1*a.2).natAbs:Int):=by omega
   simp only [ex,ey,aB];unfold mE;have s1:(a.1<0↔a.1*b.2<0):=by
    constructor
    · intro h;exact bj h (by omega)
    intro h;rcases lt_or_ge a.1 0 with h1|h1
    · exact h1
    have:=c6 h1 (show 0<=b.2 by omega);omega
   have s2:(b.1<0↔b.1*a.2<0):=by
    constructor
    · intro h;exact bj h (by omega)
    intro h;rcases lt_or_ge b.1 0 with h1|h1
    · exact h1
    have:=c6 h1 (show 0<=a.2 by omega);omega
   generalize a.1*b.2=x at*;generalize b.1*a.2=y at*
   by_cases h1:a.1<0<;>by_cases h2:b.1<0
   · have h3:=s1.1 h1;have h4:=s2.1 h2
     have:aA .i64 (-lJ (x.natAbs:Int) (y.natAbs:Int))=lJ x y:=by
      rw [wi];unfold lJ;(repeat' split)<;>omega
     simp [h1,h2,this]
   · have h3:=s1.1 h1;have h4: ¬y<0:=fun h=>h2 (s2.2 h)
     have:lJ a.1 b.1=lJ x y:=by unfold lJ;(repeat' split)<;>omega
     simp [h1,h2,this]
   · have h3: ¬x<0:=fun h=>h1 (s1.2 h);have h4:=s2.1 h2
     have:lJ a.1 b.1=lJ x y:=by unfold lJ;(repeat' split)<;>omega
     simp [h1,h2,this]
   have h3: ¬x<0:=fun h=>h1 (s1.2 h);have h4: ¬y<0:=fun h=>h2 (s2.2 h)
   have:lJ (x.natAbs:Int) (y.natAbs:Int)=lJ x y:=by unfold lJ;(repeat' split)<;>omega
   simp [h1,h2,this]
 rw [if_neg h,if_neg h];rfl
abbrev Pt:=Int×Int×Int
def hG (p:Pt):Prop:=0<=p.1/\p.1<=65535/\ -1048576<=p.2.1/\p.2.1<=1048576/\ -1048576<=p.2.2/\p.2.2<=1048576
theorem EE (p:Pt):oW p=some (if hG p then 0 else 8):=by
 obtain ⟨i,a,b⟩:=p;unfold oW rU hG;dsimp only
 by_cases h1:i<0
 · rw [if_neg (by omega)];simp [h1]
 by_cases h2:65535<i
 · rw [if_neg (by omega)];simp [h1,h2]
 by_cases h3:a< -1048576
 · rw [if_neg (by omega)];simp [h1,h2,h3]
 by_cases h4:1048576<a
 · rw [if_neg (by omega)];simp [h1,h2,h3,h4]
 by_cases h5:b< -1048576
 · rw [if_neg (by omega)];simp [h1,h2,h3,h4,h5]
 by_cases h6:1048576<b
 · rw [if_neg (by omega)];simp [h1,h2,h3,h4,h5,h6]
 rw [if_pos (by omega)];simp [h1,h2,h3,h4,h5,h6]
theorem PW (p:Pt):AG p=some (if hG p then 0 else 8):=by
 obtain ⟨i,a,b⟩:=p;unfold AG hG;dsimp only
 by_cases h1:i<0
 · rw [if_neg (by omega)];simp [h1]
 by_cases h2:65535<i
 · rw [if_neg (by omega)];simp [h1,h2]
 by_cases h3:a< -1048576
 · rw [if_neg (by omega)];simp [h1,h2,h3]
 by_cases h4:1048576<a
 · rw [if_neg (by omega)];simp [h1,h2,h3,h4]
 by_cases h5:b< -1048576
 · rw [if_neg (by omega)];simp [h1,h2,h3,h4,h5]
 by_cases h6:1048576<b
 · rw [if_neg (by omega)];simp [h1,h2,h3,h4,h5,h6]
 rw [if_pos (by omega)];simp [h1,h2,h3,h4,h5,h6]
theorem CB {x y:Int} (hx:DL x) (hy:DL y): -85070591730234615865843651857942052864<=x*y/\x*y<=85070591730234615865843651857942052864:=by
 have:=zB hx hy;omega
theorem aNT {x y:Int} (hx:DL x) (hy:DL y):(x%18446744073709551616)*(y%18446744073709551616)=x*y+(if x<0 then y else 0)*18446744073709551616+(if y<0 then x else 0)*18446744073709551616+(if x<0/\y<0 then 340282366920938463463374607431768211456 else 0):=by
 by_cases h1:x<0<;>by_cases h2:y<0
 · have e1:x%18446744073709551616=x+18446744073709551616:=by omega
   have e2:y%18446744073709551616=y+18446744073709551616:=by omega
   rw [e1,e2,if_pos h1,if_pos h2,if_pos ⟨h1,h2⟩];grind
 · have e1:x%18446744073709551616=x+18446744073709551616:=by omega
   have e2:y%18446744073709551616=y:=by omega
   rw [e1,e2,if_pos h1,if_neg h2,if_neg (fun h=>h2 h.2)];grind
 · have e1:x%18446744073709551616=x:=by omega
   have e2:y%18446744073709551616=y+18446744073709551616:=by omega
   rw [e1,e2,if_neg h1,if_pos h2,if_neg (fun h=>h1 h.1)];grind
 have e1:x%18446744073709551616=x:=by omega
 have e2:y%18446744073709551616=y:=by omega
 rw [e1,e2,if_neg h1,if_neg h2,if_neg (fun h=>h1 h.1)];grind
theorem Y0 {a b:Int} (ha:0<=a) (hb:0<=b):tH a b 0=some ((a+b)%18446744073709551616,(a+b) / 18446744073709551616):=by
 unfold tH;simp [ha,hb]
theorem aFG {a b c d u v:Int} (ha:DL a) (hb:DL b):pQ (a,b,c,d,0,u,v,0,0)=some (.next (a,b,c,d,1,u,v,a*b / 18446744073709551616,a*b%18446744073709551616)):=by
 unfold pQ;have hm:=PU (x:=aA .u64 a) (y:=aA .u64 b) (by rw [wu];constructor<;>omega) (by rw [wu];constructor<;>omega)
 have hb2:=CB ha hb;have hu:=aNT ha hb;simp only [hm,aB];simp only [wu,hu];generalize a*b=x at*
 by_cases h1:a<0<;>by_cases h2:b<0
 all_goals
  simp only [h1,h2,decide_true,decide_false,cond_true,cond_false,if_true,if_false,and_self,and_false,false_and];rw [Y0 (by omega) (by omega)]
  simp only [wi,aB,show decide ((0:Int)<2)=true from rfl,cond_true,show ((0:Int)==0)=true from rfl,ai,bS.next.injEq,ba,true_and]
  refine ⟨by omega,?_,?_⟩<;>omega
theorem aFH {a b c d u v h l:Int} (hc:DL c) (hd:DL d) (hl:U64 l)
 (_hh: -9223372036854775808<=h/\h<9223372036854775808) (hs: -170141183460469231731687303715884105728<=h*18446744073709551616+l+c*d/\h*18446744073709551616+l+c*d<170141183460469231731687303715884105728):
 pQ (a,b,c,d,1,u,v,h,l)=some (.next (a,b,c,d,2,u,v,(h*18446744073709551616+l+c*d) / 18446744073709551616,(h*18446744073709551616+l+c*d)%18446744073709551616)):=by
 unfold pQ;have hm:=PU (x:=aA .u64 c) (y:=aA .u64 d) (by rw [wu];constructor<;>omega) (by rw [wu];constructor<;>omega)
 have hb2:=CB hc hd;have hu:=aNT hc hd;simp only [hm,aB];simp only [wu,hu];generalize c*d=x at*
 by_cases h1:c<0<;>by_cases h2:d<0
 all_goals
  simp only [h1,h2,decide_true,decide_false,cond_true,cond_false,if_true,if_false,and_self,and_false,false_and];rw [Y0 (by omega) (by omega)]
  simp only [wi,aB,show decide ((1:Int)<2)=true from rfl,cond_true,cond_false,show ((1:Int)==0)=false from rfl,show ((1:Int)==1)=true from rfl,ai,bS.next.injEq,ba,true_and]
  refine ⟨by omega,?_,?_⟩<;>omega
theorem RU {a b c d:Int} (ha:DL a) (hb:DL b) (hc:DL c) (hd:DL d) (hs: -170141183460469231731687303715884105728<=a*b+c*d/\a*b+c*d<170141183460469231731687303715884105728):
 DB (a,b,c,d)=some ((a*b+c*d) / 18446744073709551616,(a*b+c*d)%18446744073709551616):=by
 unfold DB;dsimp only;have hb2:=CB ha hb;have e:a*b / 18446744073709551616*18446744073709551616+a*b%18446744073709551616+c*d=a*b+c*d:=by omega
 rw [bC (aFG ha hb),bC (aFH hc hd (by constructor<;>omega) (by constructor<;>omega) (by rw [e];exact hs)),e]
 exact aK rfl
def PX (p q:Pt) (t:Int×Int):Int:=(p.2.1-q.2.1)*t.2+(p.2.2-q.2.2)*t.1
def dQ (p q:Pt) (t:Int×Int):Prop:=0<PX p q t\/(PX p q t=0/\(q.2.2<p.2.2\/(p.2.2=q.2.2/\p.1<q.1)))
def aA5 (p q:Pt) (t:Int×Int):Int:=if PX p q t<0 then -1 else if 0<PX p q t then 1 else if p.2.2<q.2.2 then -1 else if q.2.2<p.2.2 then 1 else lJ q.1 p.1
theorem PY (p q:Pt) (t:Int×Int):0<aA5 p q t↔dQ p q t:=by
 unfold aA5 dQ
 by_cases h1:PX p q t<0
 · rw [if_pos h1];omega
 by_cases h2:0<PX p q t
 · rw [if_neg h1,if_pos h2];simp [h2]
 rw [if_neg h1,if_neg h2]
 by_cases h3:p.2.2<q.2.2
 · rw [if_pos h3];omega
 by_cases h4:q.2.2<p.2.2
 · rw [if_neg h3,if_pos h4];omega
 rw [if_neg h3,if_neg h4]
 rcases eN q.1 p.1 with ⟨h,e⟩|⟨h,e⟩|⟨h,e⟩<;>rw [e]<;>omega
theorem GQ (a b:Int):yN [a,b]=some (if a≠0 then a else b):=by
 unfold yN
 by_cases h1:a=0
 · subst h1
   rw [bC (y:=(0,[0,b],2,1)) (by rfl)]
   by_cases h2:b=0
   · subst h2
     rw [bC (y:=(0,[0,0],2,2)) (by rfl)]
     exact aK rfl
   refine (aK (r:=b) ?_).trans (by simp)
   have e:A7 (0,[0,b],2,1)=(bif b !=0 then some (.done b) else some (.next (0,[0,b],2,aA .i64 (1+1)))):=rfl
   rw [e,dL h2];rfl
 refine (aK (r:=a) ?_).trans (by simp [h1])
 have e:A7 (0,[a,b],ac [a,b].length,0)=(bif a !=0 then some (.done a) else some (.next (0,[a,b],ac [a,b].length,aA .i64 (0+1)))):=rfl
 rw [e,dL h1];rfl
theorem aFI {p q:Pt} {t:Int×Int} (hp:hG p) (hq:hG q) (ht:oA t):DL (p.2.1-q.2.1)/\DL (p.2.2-q.2.2)/\ -170141183460469231731687303715884105728<=PX p q t/\PX p q t<170141183460469231731687303715884105728:=by
 obtain ⟨a1,a2,a3,a4,a5,a6⟩:=hp;obtain ⟨b1,b2,b3,b4,b5,b6⟩:=hq;have h1:DL (p.2.1-q.2.1):=by constructor<;>omega
 have h2:DL (p.2.2-q.2.2):=by constructor<;>omega
 refine ⟨h1,h2,?_⟩;have k: ∀{x y:Int},-2097152<=x/\x<=2097152->DL y-> -19342813113834066795298816<=x*y/\x*y<=19342813113834066795298816:=by
  intro x y hx hy
  have:((x*y).natAbs:Int)<=2097152*9223372036854775808:=by
   rw [<- KB];exact cd (by omega) (GP hy) (by omega) (by decide)
  omega
 have k1:=k (x:=p.2.1-q.2.1) (by omega) ht.2
 have k2:=k (x:=p.2.2-q.2.2) (by omega) ht.1
 unfold PX;omega
theorem AU {p q:Pt} {t:Int×Int} (hp:hG p) (hq:hG q) (ht:oA t):oJ p q t=some (aA5 p q t):=by
 obtain ⟨g1,g2,g3⟩:=aFI hp hq ht;unfold oJ;rw [oR g1,oR g2,RU g1 ht.2 g2 ht.1 g3];simp only [aB,HI,mD,GQ];rw [show (p.2.1-q.2.1)*t.2+(p.2.2-q.2.2)*t.1=PX p q t from rfl];unfold aA5;generalize PX p q t=n at*
 by_cases h1:n<0
 · have e1:(n / 18446744073709551616==0)=false:=by simp;omega
   have e2:decide (n / 18446744073709551616<0)=true:=by simp;omega
   rw [if_pos h1];simp [e1,e2]
 by_cases h2:0<n
 · have e1:((n / 18446744073709551616==0)&&(n%18446744073709551616==0))=false:=by simp;omega
   have e2:decide (n / 18446744073709551616<0)=false:=by simp;omega
   rw [if_neg h1,if_pos h2];simp only [e1,e2,am,cond_true,cond_false]
 have:n=0:=by omega
 subst this;rw [if_neg h1,if_neg h2];unfold lJ
 by_cases h3:p.2.2<q.2.2
 · simp [h3]
 by_cases h4:q.2.2<p.2.2
 · simp [h3,h4]
 simp [h3,h4]
theorem aM5 {x y:Int} (hx: -85070591730234615865843651857942052864<=x/\x<=85070591730234615865843651857942052864) (hy: -85070591730234615865843651857942052864<=y/\y<=85070591730234615865843651857942052864):
 DG (decide (x<0),(x.natAbs:Int) / 18446744073709551616,(x.natAbs:Int)%18446744073709551616) (decide (y<0),(y.natAbs:Int) / 18446744073709551616,(y.natAbs:Int)%18446744073709551616)=
  some (decide (x+y<0),((x+y).natAbs:Int) / 18446744073709551616,((x+y).natAbs:Int)%18446744073709551616):=by
 have n1:(x.natAbs:Int)<=85070591730234615865843651857942052864:=by omega
 have n2:(y.natAbs:Int)<=85070591730234615865843651857942052864:=by omega
 unfold DG;rw [VI _ _ (AT _ (by omega) n1) (AT _ (by omega) n2)]
 have ex:((x.natAbs:Int) / 18446744073709551616)*18446744073709551616+(x.natAbs:Int)%18446744073709551616=(x.natAbs:Int):=by omega
 have ey:((y.natAbs:Int) / 18446744073709551616)*18446744073709551616+(y.natAbs:Int)%18446744073709551616=(y.natAbs:Int):=by omega
 simp only [ex,ey,aB];have same: ∀{X Y Z:Int},0<=X->0<=Y->X<=85070591730234615865843651857942052864->Y<=85070591730234615865843651857942052864->Z=X+Y-> ∀b:Bool,
  (bif decide (aA .u64 (X%18446744073709551616+Y%18446744073709551616)<X%18446744073709551616) then some (b,aA .u64 (aA .u64 (X / 18446744073709551616+Y / 18446744073709551616)+1),aA .u64 (X%18446744073709551616+Y%18446744073709551616))
   else some (b,aA .u64 (X / 18446744073709551616+Y / 18446744073709551616),aA .u64 (X%18446744073709551616+Y%18446744073709551616)))=some (b,Z / 18446744073709551616,Z%18446744073709551616):=by
  intro X Y Z h1 h2 h3 h4 h5 b;subst h5;simp only [wu]
  by_cases h:(X%18446744073709551616+Y%18446744073709551616)%18446744073709551616<X%18446744073709551616
  · simp only [h,decide_true,cond_true,ai,ba,true_and];constructor<;>omega
  simp only [h,decide_false,cond_false,ai,ba,true_and];constructor<;>omega
 have minus: ∀{X Y Z:Int} (b c:Bool),0<=X->0<=Y->X<=85070591730234615865843651857942052864->Y<=X->Z=X-Y->vZ (b,X / 18446744073709551616,X%18446744073709551616) (c,Y / 18446744073709551616,Y%18446744073709551616)=some (false,Z / 18446744073709551616,Z%18446744073709551616):=by
  intro X Y Z b c h1 h2 h3 h4 h5;subst h5;unfold vZ;simp only [wu]
  by_cases h:X%18446744073709551616<Y%18446744073709551616
  · simp only [h,decide_true,cond_true,ai,ba,true_and];constructor<;>omega
  simp only [h,decide_false,cond_false,ai,ba,true_and];constructor<;>omega
 by_cases h1:x<0<;>by_cases h2:y<0
 · have h3:x+y<0:=by omega
   simp only [h1,h2,h3,decide_true,beq_self_eq_true,cond_true];exact same (by omega) (by omega) n1 n2 (by omega) true
 · simp only [h1,h2,decide_true,decide_false,show (true==false)=false from rfl,cond_false,cond_true]
   by_cases h3:(y.natAbs:Int)<=(x.natAbs:Int)
   · have e:decide (0<=lJ (x.natAbs:Int) (y.natAbs:Int))=true:=by
      rcases eN (x.natAbs:Int) (y.natAbs:Int) with ⟨h,e⟩|⟨h,e⟩|⟨h,e⟩<;>rw [e]<;>first|rfl|omega
     rw [e,minus (Z:=((x+y).natAbs:Int)) _ _ (by omega) (by omega) n1 h3 (by omega)]
     simp only [cond_true,aB]
     by_cases h4:x+y=0
     · rw [h4];rfl
     have h5:x+y<0:=by omega
     by_cases h6:0<((x+y).natAbs:Int) / 18446744073709551616
     · simp [h5,h6]
     have h7:0<((x+y).natAbs:Int)%18446744073709551616:=by omega
     simp only [h5,h6,h7,decide_true,decide_false,cond_false]
   have e:decide (0<=lJ (x.natAbs:Int) (y.natAbs:Int))=false:=by
    rcases eN (x.natAbs:Int) (y.natAbs:Int) with ⟨h,e⟩|⟨h,e⟩|⟨h,e⟩<;>rw [e]<;>first|rfl|omega
   rw [e,minus (Z:=((x+y).natAbs:Int)) _ _ (by omega) (by omega) n2 (by omega) (by omega)]
   have h5: ¬(x+y<0):=by omega
   simp [h5]
 · simp only [h1,h2,decide_true,decide_false,show (false==true)=false from rfl,cond_false]
   by_cases h3:(y.natAbs:Int)<=(x.natAbs:Int)
   · have e:decide (0<=lJ (x.natAbs:Int) (y.natAbs:Int))=true:=by
      rcases eN (x.natAbs:Int) (y.natAbs:Int) with ⟨h,e⟩|⟨h,e⟩|⟨h,e⟩<;>rw [e]<;>first|rfl|omega
     rw [e,minus (Z:=((x+y).natAbs:Int)) _ _ (by omega) (by omega) n1 h3 (by omega)]
     have h5: ¬(x+y<0):=by omega
     simp [h5]
   have e:decide (0<=lJ (x.natAbs:Int) (y.natAbs:Int))=false:=by
    rcases eN (x.natAbs:Int) (y.natAbs:Int) with ⟨h,e⟩|⟨h,e⟩|⟨h,e⟩<;>rw [e]<;>first|rfl|omega
   rw [e,minus (Z:=((x+y).natAbs:Int)) _ _ (by omega) (by omega) n2 (by omega) (by omega)]
   have h5:x+y<0:=by omega
   simp [h5]
 have h3: ¬(x+y<0):=by omega
 simp only [h1,h2,h3,decide_false,beq_self_eq_true,cond_true];exact same (by omega) (by omega) n1 n2 (by omega) false
theorem aTu {p q:Pt} {t:Int×Int} (hp:hG p) (hq:hG q) (ht:oA t):GL p q t=some (lJ (PX p q t) 0):=by
 obtain ⟨g1,g2,g3⟩:=aFI hp hq ht;unfold GL;rw [oR g1,oR g2,DM g1 ht.2,DM g2 ht.1];simp only [aB];rw [aM5 (CB g1 ht.2) (CB g2 ht.1)];simp only [aB];rw [show (p.2.1-q.2.1)*t.2+(p.2.2-q.2.2)*t.1=PX p q t from rfl];obtain ⟨a1,a2,a3,a4,a5,a6⟩:=hp;obtain ⟨b1,b2,b3,b4,b5,b6⟩:=hq
 have k: ∀{x y:Int},-2097152<=x/\x<=2097152->DL y-> -19342813113834066795298816<=x*y/\x*y<=19342813113834066795298816:=by
  intro x y hx hy
  have:((x*y).natAbs:Int)<=2097152*9223372036854775808:=by
   rw [<- KB];exact cd (by omega) (GP hy) (by omega) (by decide)
  omega
 have k1:=k (x:=p.2.1-q.2.1) (by omega) ht.2
 have k2:=k (x:=p.2.2-q.2.2) (by omega) ht.1
 have:((PX p q t).natAbs:Int)<=85070591730234615865843651857942052864:=by unfold PX;omega
 rw [VJ this];rfl
theorem FQ {p q:Pt} {t:Int×Int} (hp:hG p) (hq:hG q) (ht:oA t):mP p q t=some (decide (dQ p q t)):=by
 unfold mP dQ;rw [aTu hp hq ht];simp only [aB];rcases eN (PX p q t) 0 with ⟨h,e⟩|⟨h,e⟩|⟨h,e⟩<;>rw [e]
 · have h1: ¬(0<PX p q t):=by omega
   have h2: ¬(PX p q t=0):=by omega
   simp [h1,h2]
 · rw [h]
   by_cases h3:p.2.2=q.2.2
   · simp [h3]
   simp [h3,dL h3]
 simp [h]
theorem BD {p q:Pt} {t:Int×Int} (ht:oA t):tI p q t=some (if hG p/\hG q/\bQ t then (if p.1=q.1 then 2 else 0) else 8):=by
 unfold tI;simp only [EE,dP ht,aB]
 by_cases h4:p.1=q.1
 · by_cases h1:hG p<;>by_cases h2:hG q<;>by_cases h3:bQ t<;>simp [h1,h2,h3,h4]
 have h5:=eM h4
 by_cases h1:hG p<;>by_cases h2:hG q<;>by_cases h3:bQ t<;>simp [h1,h2,h3,h4,h5]
theorem aM6 {n d:Int} (hn:DL n) (hd:DL d):DD n d=oN n d:=by
 unfold DD oN
 by_cases h0:d=0
 · subst h0;rfl
 have e0:(d==0)=false:=by simpa using h0
 simp only [e0,cond_false,sP hn,sP hd,lH hn,lH hd,aB,HH,uC];have hp:0<aj n.natAbs d.natAbs:=cu _ (by omega)
 have e1:((aj n.natAbs d.natAbs:Int)==0)=false:=by simp;omega
 simp only [e1,cond_false];unfold FB tT;simp only [show decide ((0:Int)<0)=false from rfl,cond_false]
 by_cases h3:n=0
 · subst h3
   have z: ∀k:Int,aA .u64 (ay (((0:Int).natAbs:Nat):Int) k)=0:=fun k=>by
    rw [show (((0:Int).natAbs:Nat):Int)=0 from rfl,Int.zero_tdiv];rfl
   have z2:aA .i64 0=0:=rfl;have z3:aA .i64 (0-0)=0:=rfl;simp only [z,z2,z3,show ((0:Int) !=0)=false from rfl,cond_false,show decide ((0:Int)<0)=false from rfl];cases (!(false==decide (d<0)))<;>simp
 simp only [dL h3]
 cases (!(decide (n<0)==decide (d<0)))<;>rfl
noncomputable def met (p q:Pt):Int×Int:=((oN (p.2.1-q.2.1) (q.2.2-p.2.2)).getD ((0,0),0)).1
theorem aA6 {n d:Int} (hn: -2097152<=n/\n<=2097152) (hd: -2097152<=d/\d<=2097152) (h0:d≠0): ∃r,oN n d=some (r,0)/\bQ r/\oA r/\r.1*d=n*r.2:=by
 have hn':DL n:=by constructor<;>omega
 have hd':DL d:=by constructor<;>omega
 unfold oN;have e0:(d==0)=false:=by simpa using h0
 have hp:0<aj n.natAbs d.natAbs:=cu _ (by omega)
 have e1:((aj n.natAbs d.natAbs:Int)==0)=false:=by simp;omega
 simp only [e0,cond_false,lH hn',lH hd',aB,uC,e1];have q1:ay (n.natAbs:Int) (aj n.natAbs d.natAbs:Int)=((n.natAbs / aj n.natAbs d.natAbs:Nat):Int):=by
  rw [dy]
 have q2:ay (d.natAbs:Int) (aj n.natAbs d.natAbs:Int)=((d.natAbs / aj n.natAbs d.natAbs:Nat):Int):=by
  rw [dy]
 rw [q1,q2];have l1:n.natAbs / aj n.natAbs d.natAbs<=2097152:=d7 (dp _ _) (by omega)
 have l2:d.natAbs / aj n.natAbs d.natAbs<=2097152:=d7 (dp _ _) (by omega)
 have l3:1<=d.natAbs / aj n.natAbs d.natAbs:=Nat.div_pos (Nat.le_of_dvd (by omega) (cm _ _)) hp
 have co:aj (d.natAbs / aj n.natAbs d.natAbs) (n.natAbs / aj n.natAbs d.natAbs)=1:=by
  rw [bn,Nat.gcd_div (dh _ _) (cm _ _)];exact Nat.div_self hp
 have v1:n.natAbs=aj n.natAbs d.natAbs*(n.natAbs / aj n.natAbs d.natAbs):=(db (dh _ _)).symm;have v2:d.natAbs=aj n.natAbs d.natAbs*(d.natAbs / aj n.natAbs d.natAbs):=(db (cm _ _)).symm
 have val:(n.natAbs:Int)*((d.natAbs / aj n.natAbs d.natAbs:Nat):Int)=(d.natAbs:Int)*((n.natAbs / aj n.natAbs d.natAbs:Nat):Int):=by
  generalize n.natAbs / aj n.natAbs d.natAbs=a at*;generalize d.natAbs / aj n.natAbs d.natAbs=b at*;generalize aj n.natAbs d.natAbs=g at*;rw [v1,v2,dt,dt,dz,dz,bw (a:Int) (b:Int)]
 clear v1 v2;generalize n.natAbs / aj n.natAbs d.natAbs=a at*;generalize d.natAbs / aj n.natAbs d.natAbs=b at*;have w1:aA .u64 (a:Int)=a:=by rw [wu];omega
 have w2:aA .u64 (b:Int)=b:=by rw [wu];omega
 have made: ∀s:Bool,tT s (false,0,(a:Int)) (false,0,(b:Int))=some ((if s=true then -(a:Int) else a,(b:Int)),0):=by
  intro s;unfold tT;have d1:decide (9223372036854775807<(a:Int))=false:=by simp;omega
  have d2:decide (9223372036854775807<(b:Int))=false:=by simp;omega
  have v1:aA .i64 (a:Int)=a:=by rw [wi];omega
  have v2:aA .i64 (b:Int)=b:=by rw [wi];omega
  have v3:aA .i64 (0- (a:Int))= -(a:Int):=by rw [wi];omega
  simp only [show decide ((0:Int)<0)=false from rfl,cond_false,d1,d2,v1,v2,v3];cases s<;>simp
 have fin: ∀s:Bool,(if s=true then -(a:Int) else a)*d=n*b-> ∃r,(some ((if s=true then -(a:Int) else a,(b:Int)),(0:Int)):Option ((Int×Int)×Int))=some (r,0)/\bQ r/\oA r/\r.1*d=n*r.2:=by
  intro s hv;refine ⟨_,rfl,?_,?_,hv⟩
  · unfold bQ
    dsimp only;refine ⟨by omega,?_,?_⟩
    · cases s
      · simp only [df,if_false];omega
      simp only [if_true];omega
    rw [show (if s=true then -(a:Int) else (a:Int)).natAbs=a by cases s<;>simp,show ((b:Int)).natAbs=b by omega];exact co
  constructor
  · dsimp only;cases s
    · simp only [df,if_false];constructor<;>omega
    simp only [if_true];constructor<;>omega
  dsimp only;constructor<;>omega
 simp only [w1,w2,made,aB]
 by_cases h1:(!(decide (n<0)==decide (d<0)))=true
 · rw [h1]
   refine fin (n !=0) ?_
   by_cases hn0:n=0
   · subst hn0
     have a0:(a:Int)=0:=by
      have:((d.natAbs:Nat):Int)*(a:Int)=0:=by rw [<- val];simp
      rcases Int.mul_eq_zero.1 this with h|h
      · omega
      exact h
     simp [a0]
   have e:(n !=0)=true:=by simpa using hn0
   rw [e,if_pos rfl]
   by_cases hneg:n<0
   · have hd0: ¬d<0:=fun k=>by simp [hneg,k] at h1
     have x1:(n.natAbs:Int)= -n:=by omega
     have x2:(d.natAbs:Int)=d:=by omega
     rw [x1,x2,bq] at val;rw [bq,bw];omega
   have hd0:d<0:=by
    by_cases k:d<0
    · exact k
    simp [hneg,k] at h1
   have x1:(n.natAbs:Int)=n:=by omega
   have x2:(d.natAbs:Int)= -d:=by omega
   rw [x1,x2,bq] at val;rw [bq,bw];omega
 rw [cw] at h1;rw [h1]
 refine fin false ?_;rw [if_neg (by simp)]
 by_cases hneg:n<0
 · have hd0:d<0:=by
    by_cases k:d<0
    · exact k
    simp [hneg,k] at h1
   have x1:(n.natAbs:Int)= -n:=by omega
   have x2:(d.natAbs:Int)= -d:=by omega
   rw [x1,x2,bq,bq] at val;rw [bw];omega
 have hd0: ¬d<0:=fun k=>by simp [hneg,k] at h1
 have x1:(n.natAbs:Int)=n:=by omega
 have x2:(d.natAbs:Int)=d:=by omega
 rw [x1,x2] at val;rw [bw];omega
theorem L0 {p q:Pt} (hp:hG p) (hq:hG q) (h:p.2.2≠q.2.2):oN (p.2.1-q.2.1) (q.2.2-p.2.2)=some (met p q,0)/\bQ (met p q)/\oA (met p q)/\(met p q).1*(q.2.2-p.2.2)=(p.2.1-q.2.1)*(met p q).2:=by
 obtain ⟨a1,a2,a3,a4,a5,a6⟩:=hp;obtain ⟨b1,b2,b3,b4,b5,b6⟩:=hq;obtain ⟨r,h1,h2,h3⟩:=aA6 (n:=p.2.1-q.2.1) (d:=q.2.2-p.2.2) (by omega) (by omega) (by omega)
 have:met p q=r:=by unfold met;rw [h1];rfl
 rw [this];exact ⟨h1,h2,h3⟩
theorem TB {p q:Pt} (hp:hG p) (hq:hG q):aA .i64 (p.2.1-q.2.1)=p.2.1-q.2.1/\aA .i64 (q.2.2-p.2.2)=q.2.2-p.2.2/\DL (p.2.1-q.2.1)/\DL (q.2.2-p.2.2):=by
 obtain ⟨a1,a2,a3,a4,a5,a6⟩:=hp;obtain ⟨b1,b2,b3,b4,b5,b6⟩:=hq;have h1:DL (p.2.1-q.2.1):=by constructor<;>omega
 have h2:DL (q.2.2-p.2.2):=by constructor<;>omega
 exact ⟨oR h1,oR h2,h1,h2⟩
noncomputable def nJ (h l:Pt) (t:Int×Int):(Int×Int)×Bool:=if dQ l h t then (t,true) else if h.2.2<l.2.2 then (met h l,true) else ((0,0),false)
theorem aTv {p q:Pt} (hp:hG p) (hq:hG q) (h:p.2.2≠q.2.2):GM p q=some (met p q):=by
 obtain ⟨w1,w2,_,_⟩:=TB hp hq;unfold GM;rw [w1,w2,(L0 hp hq h).1];rfl
theorem aA7 {h l:Pt} {t:Int×Int} (hh:hG h) (hl:hG l) (ht:oA t):uU h l t=some (nJ h l t):=by
 unfold uU nJ;rw [FQ hl hh ht];simp only [aB]
 by_cases h1:dQ l h t
 · simp [h1]
 simp only [h1,decide_false,cond_false,if_false]
 by_cases h2:h.2.2<l.2.2
 · simp [h2,aTv hh hl (by omega)]
 simp [h2]
theorem aFJ:bQ (0,1):=by unfold bQ;decide
theorem NE {h l:Pt} {t:Int×Int} (ht:oA t):
 xM h l t=some (if hG h/\hG l/\bQ t/\h.1≠l.1 then ((nJ h l t).1,(nJ h l t).2,0) else ((0,0),false,if hG h/\hG l/\bQ t then 2 else 8)):=by
 unfold xM;rw [BD ht]
 by_cases h1:hG h/\hG l/\bQ t
 · rw [if_pos h1]
   by_cases h2:h.1=l.1
   · simp [h1,h2]
   obtain ⟨hh,hl,hr⟩:=h1
   rw [if_neg h2,if_pos ⟨hh,hl,hr,h2⟩];simp only [aB,show ((0:Int) !=0)=false from rfl,cond_false,AU hl hh ht];unfold nJ
   by_cases h3:dQ l h t
   · have:decide (0<aA5 l h t)=true:=by simpa using (PY l h t).2 h3
     rw [this];simp [h3]
   have:decide (0<aA5 l h t)=false:=decide_eq_false fun k=>h3 ((PY l h t).1 k)
   rw [this,if_neg h3];simp only [cond_false]
   by_cases h4:h.2.2<l.2.2
   · have e:decide (l.2.2<=h.2.2)=false:=by simp;omega
     rw [e,if_pos h4];unfold FC;obtain ⟨w1,w2,i1,i2⟩:=TB hh hl;have e2:(h.2.2==l.2.2)=false:=by simp;omega
     rw [BD (by constructor<;>constructor<;>decide),if_pos ⟨hh,hl,aFJ⟩,if_neg h2]
     simp only [aB,show ((0:Int) !=0)=false from rfl,cond_false,e2,w1,w2,aM6 i1 i2,(L0 hh hl (by omega)).1]
     rfl
   have e:decide (l.2.2<=h.2.2)=true:=by simp;omega
   rw [e,if_neg h4];rfl
 rw [if_neg h1,if_neg (fun h=>h1 ⟨h.1,h.2.1,h.2.2.1⟩),if_neg h1];rfl
theorem KC {h l:Pt} {t:Int×Int} (hh:hG h) (hl:hG l) (ht:oA t) (hr:bQ t) (h2:(nJ h l t).2=true):bQ (nJ h l t).1/\oA (nJ h l t).1:=by
 unfold nJ at*
 by_cases h3:dQ l h t
 · rw [if_pos h3];exact ⟨hr,ht⟩
 rw [if_neg h3] at h2 ⊢
 by_cases h4:h.2.2<l.2.2
 · rw [if_pos h4];have:=(L0 hh hl (by omega)).2;exact ⟨this.1,this.2.1⟩
 rw [if_neg h4] at h2;cases h2
theorem aA8: ∀(n:Nat) (l:List Nat),l.Nodup->(∀x∈l,x<n)->l.length<=n
 |0,l,_,h=>by
  cases l with
  |nil=>simp
  |cons a l=>exact absurd (h a (by simp)) (by omega)
 |n+1,l,hd,h=>by
  have h1:=aA8 n (l.filter (fun x=>x≠n)) (hd.filter _) (by
   intro x hx;rw [dv] at hx
   have:=h x hx.1
   have h2:x≠n:=by simpa using hx.2
   omega)
  have h2:l.length<=(l.filter (fun x=>x≠n)).length+1:=by
   clear h1 h
   induction l with
   |nil=>simp
   |cons a l ih=>
    rw [bu] at hd
    have:=ih hd.2
    by_cases ha:a=n
    · subst ha
      have e:l.filter (fun x=>decide (x≠a))=l:=by
       rw [List.filter_eq_self];intro x hx;simp only [ne_eq,decide_eq_true_eq];rintro rfl;exact hd.1 hx
      rw [List.filter_cons_of_neg (by simp),e];simp
    rw [List.filter_cons_of_pos (by simpa using ha)]
    simp only [di];omega
  omega
theorem MY {n:Nat} {l:List Nat} (hd:l.Nodup) (h: ∀x∈l,x<n) (hn:n<=l.length): ∀x,x<n->x∈l:=by
 intro x hx;refine ar fun hc=>?_
 have:=aA8 n (x::l) (by rw [bu];exact ⟨hc,hd⟩) (by
  intro y hy;rcases d5.1 hy with rfl|hy
  · exact hx
  exact h y hy)
 simp only [di] at this;omega
def gI (l:List Pt):Prop:= ∀i,i+1<l.length->(l[i]!).1<(l[i+1]!).1
def cC (l:List Pt):Prop:=l.length<=64/\(∀p∈l,hG p)/\gI l
noncomputable def zC (l:List Pt):Int:=if 64<l.length then 4 else if¬(∀p∈l,hG p) then 8 else if¬gI l then 32 else 0
theorem mS {l:List Pt}:zC l=0↔cC l:=by
 unfold zC cC
 by_cases h1:64<l.length
 · rw [if_pos h1];simp;omega
 rw [if_neg h1]
 by_cases h2: ∀p∈l,hG p
 · rw [if_neg (ae.2 h2)]
   by_cases h3:gI l
   · rw [if_neg (ae.2 h3)]
     exact ⟨fun _=>⟨by omega,h2,h3⟩,fun _=>rfl⟩
   rw [if_pos h3]
   exact ⟨fun h=>(by cases h),fun h=>absurd h.2.2 h3⟩
 rw [if_pos h2]
 constructor
 · intro h;cases h
 intro h;exact absurd h.2.1 h2
theorem aT {n:Nat} (h:n<1000000000):aA .i64 ((n:Int)+1)=((n+1:Nat):Int):=by rw [wi];omega
theorem qD {n:Nat} (h:n<1000000000) (h1:1<=n):aA .i64 ((n:Int) -1)=((n-1:Nat):Int):=by rw [wi];omega
theorem aE (n:Nat):ac n=(n:Int):=rfl
theorem Y1 (l:List Pt) (h:l.length<=64):aG kD (1,l)=some (.done (if gI l then 0 else 32)):=by
 by_cases hl:l.length<=1
 · have:gI l:=fun i hi=>by omega
   rw [if_pos this];refine aK ?_;unfold kD;rw [aE]
   have:decide ((1:Int)<(l.length:Int))=false:=by simp;omega
   simp [this]
 have key:=dS (body:=kD) (fun i=>(((i+1:Nat):Int),l)) (l.length-1) (fun i=>(l[i+1]!).1<=(l[i]!).1) (r:= .done 32) (e:= .done 0) (by
  intro i hi;have e1:decide (((i+1:Nat):Int)<(l.length:Int))=true:=by simp;omega
  have e2:aA .i64 (((i+1:Nat):Int) -1)=(i:Int):=by rw [wi];omega
  have hb:kD (((i+1:Nat):Int),l)=bif decide ((l[i+1]!).1<=(l[i]!).1) then some (.done (.done 32)) else some (.next (((i+1+1:Nat):Int),l)):=by
   unfold kD;simp only [aE,e1,cond_true,e2,aC l i (by omega),aC l (i+1) (by omega),aB,aT (show i+1<1000000000 by omega)]
  constructor
  · intro hc;rw [hb,decide_eq_true hc];rfl
  · intro hc;rw [hb,decide_eq_false hc];rfl) (by
  unfold kD
  have:decide (((l.length-1+1:Nat):Int)<ac l.length)=false:=by rw [aE];simp;omega
  simp only [this,cond_false])
 by_cases hs:gI l
 · rw [if_pos hs]
   refine key.2 fun i hi=>?_
   have:=hs i (by omega)
   omega
 rw [if_neg hs]
 refine key.1 ?_;unfold gI at hs;simp only [ao] at hs;obtain ⟨i,hi,h2⟩:=hs;exact ⟨i,by omega,by omega⟩
theorem PZ (f:Field):AH f=some (zC f.points):=by
 unfold AH zC;rw [aE]
 by_cases h:64<f.points.length
 · have:decide ((64:Int)<(f.points.length:Int))=true:=by simp;omega
   rw [this,if_pos h];rfl
 have:decide ((64:Int)<(f.points.length:Int))=false:=by simp;omega
 rw [this,if_neg h];simp only [cond_false];generalize f.points=l at*;have key:=dS (body:=oM) (fun i=>((i:Int),l)) l.length (fun i=> ¬hG l[i]!) (r:=8) (e:=if gI l then 0 else 32) (by
  intro i hi;have e1:decide ((i:Int)<(l.length:Int))=true:=by simp;omega
  have hb:oM ((i:Int),l)=bif (if hG l[i]! then (0:Int) else 8) !=0 then some (.done 8) else some (.next (((i+1:Nat):Int),l)):=by
   unfold oM;simp only [aE,e1,cond_true,aC l i (by omega),aB,PW,aT (show i<1000000000 by omega)]
  constructor
  · intro hc;rw [hb,if_neg hc];rfl
  · intro hc;rw [hb,if_pos (ae.1 hc)];rfl) (by
  unfold oM
  have:decide ((l.length:Int)<ac l.length)=false:=by rw [aE];simp
  simp only [this,cond_false];exact Y1 l (by omega))
 by_cases hp: ∀p∈l,hG p
 · rw [if_neg (ae.2 hp)]
   refine (key.2 fun i hi=>?_).trans ?_
   · exact ae.2 (hp _ (bL hi))
   by_cases hs:gI l
   · simp [hs]
   simp [hs]
 rw [if_pos hp]
 refine key.1 ?_;obtain ⟨p,hp⟩:=ao.1 hp;obtain ⟨hm,h2⟩:=bo.1 hp;obtain ⟨i,hi,rfl⟩:=aW.1 hm;exact ⟨i,hi,h2⟩
theorem Y2 (l:List Pt) (h:l.length<=64):aG jZ (l,(l.length:Int),0,l)=some (.done (if gI l then 0 else 32)):=by
 have key:=dS (body:=jZ) (fun i=>(l,(l.length:Int),(i:Int),l)) l.length (fun i=>0<i/\(l[i]!).1<=(l[i-1]!).1) (r:= .done 32) (e:= .done 0) (by
  intro i hi;have e1:decide ((i:Int)<(l.length:Int))=true:=by simp;omega
  by_cases h0:0<i
  · have e3:decide ((0:Int)<(i:Int))=true:=by simp;omega
    have hb:jZ (l,(l.length:Int),(i:Int),l)=bif decide ((l[i]!).1<=(l[i-1]!).1) then some (.done (.done 32)) else some (.next (l,(l.length:Int),((i+1:Nat):Int),l)):=by
     unfold jZ;simp only [e1,e3,cond_true,aC l i (by omega),qD (show i<1000000000 by omega) h0,aC l (i-1) (by omega),aB,aT (show i<1000000000 by omega)]
    constructor
    · intro hc;rw [hb,decide_eq_true hc.2];rfl
    intro hc
    have: ¬(l[i]!).1<=(l[i-1]!).1:=fun h=>hc ⟨h0,h⟩
    rw [hb,decide_eq_false this];rfl
  · have e3:decide ((0:Int)<(i:Int))=false:=by simp;omega
    constructor
    · intro hc;exact absurd hc.1 h0
    intro _
    unfold jZ;simp only [e1,e3,cond_true,cond_false,aC l i (by omega),aB,aT (show i<1000000000 by omega)]) (by
  unfold jZ
  have:decide ((l.length:Int)<(l.length:Int))=false:=by simp
  simp only [this,cond_false])
 by_cases hs:gI l
 · rw [if_pos hs]
   refine key.2 fun i hi=>?_
   rintro ⟨h0,h1⟩
   have:=hs (i-1) (by omega)
   rw [show i-1+1=i by omega] at this
   omega
 rw [if_neg hs]
 refine key.1 ?_;unfold gI at hs;simp only [ao] at hs;obtain ⟨i,hi,h2⟩:=hs;exact ⟨i+1,by omega,by omega,by rw [show i+1-1=i by omega];omega⟩
theorem mF (f:Field):eW f=some (zC f.points):=by
 unfold eW zC;rw [aE]
 by_cases h:64<f.points.length
 · have:decide ((64:Int)<(f.points.length:Int))=true:=by simp;omega
   rw [this,if_pos h];rfl
 have:decide ((64:Int)<(f.points.length:Int))=false:=by simp;omega
 rw [this,if_neg h];simp only [cond_false];generalize f.points=l at*;have key:=dS (body:=oI) (fun i=>(l,(l.length:Int),(i:Int),l)) l.length (fun i=> ¬hG l[i]!) (r:=8) (e:=if gI l then 0 else 32) (by
  intro i hi;have e1:decide ((i:Int)<(l.length:Int))=true:=by simp;omega
  have hb:oI (l,(l.length:Int),(i:Int),l)=bif (if hG l[i]! then (0:Int) else 8) !=0 then some (.done (if hG l[i]! then (0:Int) else 8)) else some (.next (l,(l.length:Int),((i+1:Nat):Int),l)):=by
   unfold oI;simp only [e1,cond_true,aC l i (by omega),aB,EE,aT (show i<1000000000 by omega)]
  constructor
  · intro hc;rw [hb,if_neg hc];rfl
  · intro hc;rw [hb,if_pos (ae.1 hc)];rfl) (by
  unfold oI
  have:decide ((l.length:Int)<(l.length:Int))=false:=by simp
  simp only [this,cond_false];exact Y2 l (by omega))
 by_cases hp: ∀p∈l,hG p
 · rw [if_neg (ae.2 hp)]
   refine (key.2 fun i hi=>?_).trans ?_
   · exact ae.2 (hp _ (bL hi))
   by_cases hs:gI l
   · simp [hs]
   simp [hs]
 rw [if_pos hp]
 refine key.1 ?_;obtain ⟨p,hp⟩:=ao.1 hp;obtain ⟨hm,h2⟩:=bo.1 hp;obtain ⟨i,hi,rfl⟩:=aW.1 hm;exact ⟨i,hi,h2⟩
theorem pF {l:List Pt} (h:gI l) {i j:Nat} (hij:i<j) (hj:j<l.length):(l[i]!).1<(l[j]!).1:=by
 induction j with
 |zero=>omega
 |succ j ih=>
  have h1:=h j hj
  by_cases he:i=j
  · subst he;exact h1
  have:=ih (by omega) (by omega);omega
theorem zD {l:List Pt} (h:gI l) {i j:Nat} (hi:i<l.length) (hj:j<l.length) (he:(l[i]!).1=(l[j]!).1):i=j:=by
 rcases Nat.lt_trichotomy i j with h1|h1|h1
 · have:=pF h h1 hj;omega
 · exact h1
 have:=pF h h1 hi;omega
theorem MZ (l:List Pt) (id:Int) (hl:l.length<=1000000):(∀k,k<l.length->(l[k]!).1=id->(∀j,j<k->(l[j]!).1≠id)->fZ ⟨l⟩ id=some (k:Int))/\((∀k,k<l.length->(l[k]!).1≠id)->fZ ⟨l⟩ id=some (-1)):=by
 unfold fZ;refine mR (body:=vX) (fun i=>(id,(i:Int),l)) l.length (fun i=>(l[i]!).1=id) (fun i=>(i:Int)) (fun i hi=>?_) ?_
 · have e1:decide ((i:Int)<(l.length:Int))=true:=by simp;omega
   have hb:vX (id,(i:Int),l)=bif (l[i]!).1==id then some (.done (i:Int)) else some (.next (id,((i+1:Nat):Int),l)):=by
    unfold vX;simp only [aE,e1,cond_true,aC l i hi,aB,aT (show i<1000000000 by omega)]
   constructor
   · intro hc;rw [hb,eH hc];rfl
   intro hc;rw [hb,eM hc];rfl
 unfold vX
 have:decide ((l.length:Int)<(l.length:Int))=false:=by simp
 simp only [aE,this,cond_false]
theorem aDG {l:List Pt} (hs:gI l) (hl:l.length<=1000000) {k:Nat} (hk:k<l.length) {id:Int} (he:(l[k]!).1=id):fZ ⟨l⟩ id=some (k:Int):=by
 refine (MZ l id hl).1 k hk he fun j hj hc=>?_
 have:=pF hs hj hk
 omega
theorem aM7 {l:List Pt} (hl:l.length<=1000000) {id:Int} (h: ∀k,k<l.length->(l[k]!).1≠id):fZ ⟨l⟩ id=some (-1):=(MZ l id hl).2 h
theorem Y3 (f:Nat->Int) (id:Int): ∀(n:Nat),(∀i j,i<j->j<n->f i<f j)-> ∃m,m<=n/\(∀i,i<m->f i<id)/\(∀i,m<=i->i<n->id<=f i)
 |0,_=>⟨0,cz _,fun i h=>by omega,fun i _ h=>by omega⟩
 |n+1,h=>by
  obtain ⟨m,h1,h2,h3⟩:=Y3 f id n fun i j a b=>h i j a (by omega)
  by_cases hm:m=n
  · by_cases hf:f n<id
    · refine ⟨n+1,cz _,fun i hi=>?_,fun i a b=>by omega⟩
      by_cases he:i=n
      · subst he;exact hf
      exact h2 i (by omega)
    refine ⟨n,by omega,fun i hi=>h2 i (by omega),fun i a b=>?_⟩
    have:i=n:=by omega
    subst this;omega
  refine ⟨m,by omega,h2,fun i a b=>?_⟩
  by_cases he:i=n
  · subst he
    have:=h m i (by omega) (by omega)
    have:=h3 m (cz _) (by omega)
    omega
  exact h3 i a (by omega)
theorem gU {α:Type} [Inhabited α] {l:List α}:l.Nodup↔ ∀i j,i<j->j<l.length->l[i]!≠l[j]!:=by
 unfold List.Nodup;rw [List.pairwise_iff_getElem];constructor
 · intro h i j hij hj
   rw [getElem!_pos l i (by omega),getElem!_pos l j hj]
   exact h i j (by omega) hj hij
 intro h i j hi hj hij
 have:=h i j hij hj
 rwa [getElem!_pos l i hi,getElem!_pos l j hj] at this
theorem cJ {α:Type} [Inhabited α] {l:List α} {k:Nat} {x:α}:x∈l.take k↔ ∃i,i<k/\i<l.length/\l[i]! =x:=by
 rw [aW];constructor
 · rintro ⟨i,hi,rfl⟩
   rw [bi] at hi;exact ⟨i,by omega,by omega,(nS (by omega)).symm⟩
 rintro ⟨i,h1,h2,rfl⟩
 exact ⟨i,by rw [bi];omega,nS h1⟩
theorem iK {α:Type} [Inhabited α] {l:List α} {k:Nat} (h:k<l.length):l.take (k+1)=l.take k++[l[k]!]:=by
 rw [List.take_add_one,cq h,getElem!_pos l k h];rfl
def gE (l:List Bool):List Int->List Bool
 | []=>l
 |x::r=>gE (cL l x true) r
theorem pG: ∀(r:List Int) (l:List Bool),(gE l r).length=l.length
 | [],_=>rfl
 |x::r,l=>by rw [gE,pG r,B4]
theorem IU: ∀(r:List Int) (l:List Bool) (x:Int),gE l (r++[x])=cL (gE l r) x true
 | [],_,_=>rfl
 |y::r,l,x=>by
  show gE (cL l y true) (r++[x])=_;rw [IU r];rfl
theorem rB : ∀ (r : List Int) (l : List Bool) (i : Nat), (∀ x ∈ r, 0 <= x) -> i < l.length -> (gE l r)[i]! = (l[i]! || decide ((i : Int) ∈ r))
  | [], l, i, _, _ => by simp [gE]
  | x :: r, l, i, h, hi => by
    rw [gE, rB r _ i (fun y hy => h y (by simp [hy])) (by rw [B4]; exact hi)]
    obtain ⟨k, rfl⟩ := bk (h x (by simp))
    rw [wG, bF]
    by_cases e : i = k
    · subst e; rw [if_pos ⟨rfl, hi⟩]; simp
    rw [if_neg (fun h => e h.1)]
    have : ((i : Int) ∈ (k : Int) :: r) ↔ (i : Int) ∈ r := by
      rw [d5]
      constructor
      · rintro (h | h)
        · omega
        exact h
      exact .inr
    simp only [this]
theorem P0 (l:List Bool) (h:l.length<=1000000):eX l false=some (decide (false∈l)):=by
 unfold eX rV;have key:=mR (body:=iH) (fun i=>(l,false,(l.length:Int),(i:Int))) l.length (fun i=>l[i]! =false) (fun i=>(i:Int)) (e:= -1) (fun i hi=>by
  have e1:decide ((i:Int)<(l.length:Int))=true:=by simp;omega
  have hb:iH (l,false,(l.length:Int),(i:Int))=bif false==l[i]! then some (.done (i:Int)) else some (.next (l,false,(l.length:Int),((i+1:Nat):Int))):=by
   unfold iH;simp only [e1,cond_true,aC l i hi,aB,aT (show i<1000000000 by omega)]
  constructor
  · intro hc;rw [hb,hc];rfl
  · intro hc
    have:l[i]! =true:=by simpa using hc
    rw [hb,this];rfl) (by
  unfold iH
  have:decide ((l.length:Int)<(l.length:Int))=false:=by simp
  simp only [this,cond_false])
 rw [aE]
 by_cases hx:false∈l
 · obtain ⟨i,hi,he⟩:=aW.1 hx
   obtain ⟨k,h1,h2,h3⟩:=KA (c:=fun i=>l[i]! =false) ⟨i,hi,he⟩
   have:=key.1 k h1 h2 h3
   rw [show ((0:Nat):Int)=0 from rfl] at this;rw [this];have e:decide ((0:Int)<=(k:Int))=true:=by simp
   simp [hx]
 have:=key.2 fun i hi he=>hx (aW.2 ⟨i,hi,he⟩)
 rw [show ((0:Nat):Int)=0 from rfl] at this;rw [this];simp [hx]
structure fS (s:aU):Prop where
 n1:1<=s.uses.length
 n2:s.uses.length<=200
 ul:s.used.length=s.uses.length
 fr: ∀x∈s.free,0<=x/\x<s.uses.length
 fd:s.free.Nodup
 uf: ∀i,i<s.uses.length->(s.used[i]! =true↔(i:Int)∉s.free)
 us: ∀i,i<s.uses.length->0<=s.uses[i]!/\s.uses[i]!<=1000000/\(s.used[i]! =true->1<=s.uses[i]!)
theorem aA9 (uses:List Int) (used:List Bool) (fr:List Int) (h1:uses.length<=200) (h2:used.length=uses.length):
 aG iB (uses,(uses.length:Int),0,uses,used,fr)=some (.done (if∀i,i<uses.length->0<=uses[i]!/\uses[i]!<=1000000/\(used[i]! =true->1<=uses[i]!) then 0 else 8)):=by
 have key:=dS (body:=iB) (fun i=>(uses,(uses.length:Int),(i:Int),uses,used,fr)) uses.length (fun i=> ¬(0<=uses[i]!/\uses[i]!<=1000000/\(used[i]! =true->1<=uses[i]!))) (r:= .done 8) (e:= .done 0) (fun i hi=>by
  have e1:decide ((i:Int)<(uses.length:Int))=true:=by simp;omega
  have hb:iB (uses,(uses.length:Int),(i:Int),uses,used,fr)=bif decide (uses[i]!<0) then some (.done (.done 8)) else bif decide (1000000<uses[i]!) then some (.done (.done 8)) else bif uses[i]! ==0 then (bif used[i]! then some (.done (.done 8)) else some (.next (uses,(uses.length:Int),((i+1:Nat):Int),uses,used,fr))) else some (.next (uses,(uses.length:Int),((i+1:Nat):Int),uses,used,fr)):=by
   unfold iB;simp only [e1,cond_true,aC uses i hi,aC used i (by omega),aB,aT (show i<1000000000 by omega)]
  rw [hb];generalize uses[i]! =u at*
  by_cases a1:u<0
  · simp [a1];omega
  · by_cases a2:1000000<u
    · simp [a1,a2];omega
    by_cases a3:u=0
    · subst a3
      cases used[i]!<;>simp
    have a4:1<=u:=by omega
    have a5:0<=u:=by omega
    have a6:u<=1000000:=by omega
    simp [a1,a2,eM a3,a4,a5,a6]) (by
  unfold iB
  have:decide ((uses.length:Int)<(uses.length:Int))=false:=by simp
  simp only [this,cond_false])
 by_cases hc: ∀i,i<uses.length->0<=uses[i]!/\uses[i]!<=1000000/\(used[i]! =true->1<=uses[i]!)
 · rw [if_pos hc]
   exact key.2 fun i hi=>ae.2 (hc i hi)
 rw [if_neg hc]
 simp only [ao] at hc;obtain ⟨i,hi,hx⟩:=hc;exact key.1 ⟨i,hi,by simpa only [ao] using hx⟩
theorem BE (s:aU) (hf:s.free.length<=1000000):tK s=some (if fS s then 0 else 8):=by
 obtain ⟨uses,used,fr⟩:=s;dsimp only at hf;unfold tK;simp only [aE]
 by_cases a1:uses.length<1
 · have e:decide ((uses.length:Int)<1)=true:=by simp;omega
   rw [e,if_neg (fun h=>by have:=h.n1;dsimp only at this;omega)];rfl
 have e1:decide ((uses.length:Int)<1)=false:=by simp;omega
 by_cases a2:200<uses.length
 · have e:decide (200<(uses.length:Int))=true:=by simp;omega
   rw [e1,e,if_neg (fun h=>by have:=h.n2;dsimp only at this;omega)];rfl
 have e2:decide (200<(uses.length:Int))=false:=by simp;omega
 by_cases a3:used.length=uses.length
 case neg=>
  have e:((used.length:Int) !=(uses.length:Int))=true:=by simp;omega
  rw [e1,e2,e,if_neg (fun h=>a3 h.ul)];rfl
 have e3:((used.length:Int) !=(uses.length:Int))=false:=by simp;omega
 simp only [e1,e2,e3,cond_false,aY (show used.length<=1048576 by omega),aB]
 have inner:=aA9 uses used fr (by omega) a3
 have key:=dS (body:=uQ used) (fun k=>(fr,(fr.length:Int),(k:Int),uses,used,fr,(uses.length:Int),gE used (fr.take k))) fr.length
  (fun k=>fr[k]!<0\/(uses.length:Int)<=fr[k]!\/(gE used (fr.take k))[(fr[k]!).toNat]! =true) (r:=8)
  (e:=if false∈gE used fr then 8 else if∀i,i<uses.length->0<=uses[i]!/\uses[i]!<=1000000/\(used[i]! =true->1<=uses[i]!) then 0 else 8) (fun k hk=>by
   have f1:decide ((k:Int)<(fr.length:Int))=true:=by simp;omega
   have f2:((gE used (fr.take k)).length==used.length)=true:=by rw [pG];simp
   have f3:decide ((0:Int)<=(k:Int))=true:=by simp
   have f4: ∀x:Int,((cL (gE used (fr.take k)) x true).length==(gE used (fr.take k)).length)=true:=by intro x;rw [B4];simp
   have f5:gE used (fr.take (k+1))=cL (gE used (fr.take k)) fr[k]! true:=by rw [iK hk,IU]
   unfold uQ;simp only [f1,f2,f3,f4,cond_true,beq_self_eq_true,aC fr k hk,aB,aT (show k<1000000000 by omega),f5]
   clear f5;generalize fr[k]! =x
   by_cases b1:x<0
   · simp [b1]
   · by_cases b2:(uses.length:Int)<=x
     · simp [b1,b2]
     simp only [b1,b2,decide_false,cond_false,false_or]
     rw [eG (l:=gE used (fr.take k)) (i:=x) (by omega) (by rw [pG];omega)]
     simp only [aB];cases (gE used (fr.take k))[x.toNat]!<;>simp) (by
   have f1:decide ((fr.length:Int)<(fr.length:Int))=false:=by simp
   unfold uQ;simp only [f1,cond_false,dj];rw [P0 _ (by rw [pG];omega)]
   have f2:((gE used fr).length==used.length)=true:=by rw [pG];simp
   simp only [f2,cond_true,aB,aE,inner]
   by_cases hx:false∈gE used fr
   · simp [hx]
   simp [hx])
 have h0:gE used (fr.take 0)=used:=rfl;rw [show ((0:Nat):Int)=0 from rfl,h0] at key
 by_cases bad: ∃k,k<fr.length/\(fr[k]!<0\/(uses.length:Int)<=fr[k]!\/(gE used (fr.take k))[(fr[k]!).toNat]! =true)
 · rw [key.1 bad,if_neg]
   intro ok;obtain ⟨k,hk,hb⟩:=bad;have hr:=ok.fr fr[k]! (bL hk);dsimp only at hr;rcases hb with hb|hb|hb
   · omega
   · omega
   rw [rB _ _ _ (fun x hx=>(ok.fr x (bg hx)).1) (by omega)] at hb
   have hi:((fr[k]!).toNat:Int)=fr[k]!:=by omega
   rw [hi,Bool.or_eq_true] at hb;rcases hb with hb|hb
   · have:=(ok.uf (fr[k]!).toNat (by show _<uses.length;omega)).1 hb
     rw [hi] at this;exact this (bL hk)
   have hm:fr[k]!∈fr.take k:=by simpa using hb
   obtain ⟨j,h1,h2,h3⟩:=cJ.1 hm;exact gU.1 ok.fd j k h1 hk h3
 have good: ∀k,k<fr.length->0<=fr[k]!/\fr[k]!<uses.length/\(gE used (fr.take k))[(fr[k]!).toNat]! =false:=by
  intro k hk;refine ⟨?_,?_,?_⟩
  · exact Int.not_lt.1 fun h=>bad ⟨k,hk,.inl h⟩
  · exact Int.not_le.1 fun h=>bad ⟨k,hk,.inr (.inl h)⟩
  exact cw _▸fun h=>bad ⟨k,hk,.inr (.inr h)⟩
 rw [key.2 fun k hk hb=>bad ⟨k,hk,hb⟩]
 have rng: ∀x∈fr,0<=x/\x<(uses.length:Int):=by
  intro x hx;obtain ⟨k,hk,rfl⟩:=aW.1 hx;exact ⟨(good k hk).1,(good k hk).2.1⟩
 have g2: ∀k,k<fr.length->used[(fr[k]!).toNat]! =false/\fr[k]!∉fr.take k:=by
  intro k hk;obtain ⟨c1,c2,c3⟩:=good k hk;rw [rB _ _ _ (fun x hx=>(rng x (bg hx)).1) (by omega),show ((fr[k]!).toNat:Int)=fr[k]! by omega,c8] at c3
  exact ⟨c3.1,by simpa using c3.2⟩
 have nd:fr.Nodup:=gU.2 fun i j hij hj he=>(g2 j hj).2 (cJ.2 ⟨i,hij,by omega,he⟩)
 by_cases hx:false∈gE used fr
 · rw [if_pos hx,if_neg]
   intro ok;obtain ⟨i,hi,he⟩:=aW.1 hx;rw [pG] at hi;rw [rB _ _ _ (fun x hx=>(rng x hx).1) hi,c8] at he
   have h3:(i:Int)∉fr:=by simpa using he.2
   have:=(ok.uf i (by show _<uses.length;omega)).2 h3
   rw [show used[i]! =false from he.1] at this;cases this
 rw [if_neg hx]
 by_cases hu: ∀i,i<uses.length->0<=uses[i]!/\uses[i]!<=1000000/\(used[i]! =true->1<=uses[i]!)
 · rw [if_pos hu,if_pos]
   refine ⟨by show 1<=uses.length;omega,by show uses.length<=200;omega,a3,rng,nd,fun i hi=>?_,hu⟩
   dsimp only at hi ⊢;constructor
   · intro h1 h2
     obtain ⟨k,hk,he⟩:=aW.1 h2
     have:=(g2 k hk).1
     rw [he,show ((i:Int)).toNat=i by omega,h1] at this
     cases this
   intro h1
   refine ar fun h2=>hx ?_
   refine aW.2 ⟨i,by rw [pG];omega,?_⟩
   rw [rB _ _ _ (fun x hx=>(rng x hx).1) (by omega)]
   have:used[i]! =false:=by simpa using h2
   rw [this];simpa using h1
 rw [if_neg hu,if_neg]
 intro ok;exact hu ok.us
theorem fS.fl {s:aU} (ok:fS s):s.free.length<=s.uses.length:=by
 have h:=aA8 s.uses.length (s.free.map d6) (by
  rw [gU];intro i j hij hj he;rw [bv] at hj;have e: ∀k,k<s.free.length->(s.free.map d6)[k]! =(s.free[k]!).toNat:=by
   intro k hk;rw [getElem!_pos _ k (by simpa using hk),List.getElem_map,getElem!_pos s.free k hk]
  rw [e i (by omega),e j hj] at he
  have h1:=(ok.fr _ (bL (show i<s.free.length by omega))).1
  have h2:=(ok.fr _ (bL hj)).1;exact gU.1 ok.fd i j hij hj (by omega)) (by
  intro x hx;obtain ⟨y,hy,rfl⟩:=be.1 hx
  have:=ok.fr y hy
  omega)
 rwa [bv] at h
def AV (s:aU) (h:Int×Int):Prop:=0<=h.1/\h.1<s.uses.length/\s.used[h.1.toNat]! =true/\s.uses[h.1.toNat]! =h.2
def gJ (s:aU) (h:Int×Int):aU:=⟨s.uses,s.used.set h.1.toNat false,s.free++[h.1]⟩
def dM (s:aU):Nat:=(s.free[s.free.length-1]!).toNat
def EF (s:aU):Prop:=0<s.free.length/\s.uses[dM s]!<1000000
def iL (s:aU):aU:=⟨s.uses.set (dM s) (s.uses[dM s]!+1),s.used.set (dM s) true,s.free.take (s.free.length-1)⟩
def nA (s:aU):Int×Int:=((dM s:Int),s.uses[dM s]!+1)
theorem M0 {s:aU} (ok:fS s) (h:Int×Int):FE s h=some (decide (AV s h),0):=by
 have hl:=ok.fl;have hn:=ok.n2;have hu:=ok.ul;unfold FE AV;rw [BE s (by omega),if_pos ok]
 simp only [aB,show ((0:Int) !=0)=false from rfl,cond_false,aE]
 by_cases a1:0<=h.1
 · by_cases a2:h.1<s.uses.length
   · have e2:decide (h.1<(s.used.length:Int))=true:=by simp;omega
     simp only [a1,a2,e2,decide_true,cond_true,eG (l:=s.used) a1 (by omega),eG (l:=s.uses) a1 a2,aB,true_and]
     generalize s.uses[h.1.toNat]! =u;cases s.used[h.1.toNat]!<;>simp [aCA]
   have e2:decide (h.1<(s.used.length:Int))=false:=by simp;omega
   simp [a1,a2,e2]
 simp [a1]
theorem VK {s:aU} (ok:fS s) {h:Int×Int} (lv:AV s h):GJ s h=some (gJ s h,0):=by
 have hl:=ok.fl;have hn:=ok.n2;have hu:=ok.ul;unfold GJ;rw [M0 ok,decide_eq_true lv];unfold wT;obtain ⟨l1,l2,l3,l4⟩:=lv;have e1:cL s.used h.1 false=s.used.set h.1.toNat false:=rfl
 simp only [aB,show ((0:Int) !=0)=false from rfl,cond_false,aq,aY (show s.uses.length<=1048576 by omega),aY (show s.used.length<=1048576 by omega),aY (show s.free.length<=1048576 by omega),
  fE (show s.free.length+[h.1].length<=1048576 by simp;omega),eG (l:=s.used) l1 (by omega),e1,gJ]
theorem BF {s:aU} (ok:fS s):tX s=some s:=by
 have hl:=ok.fl;have hn:=ok.n2;have hu:=ok.ul;unfold tX;simp only [aB,aY (show s.uses.length<=1048576 by omega),aY (show s.used.length<=1048576 by omega),aY (show s.free.length<=1048576 by omega)]
theorem P1 {s:aU} (ok:fS s) {h:Int×Int} (lv:AV s h):wF s h=some (gJ s h):=by
 have hl:=ok.fl;have hn:=ok.n2;have hu:=ok.ul;obtain ⟨l1,l2,l3,l4⟩:=lv;unfold wF;rw [BF ok];have e1:cL s.used h.1 false=s.used.set h.1.toNat false:=rfl;simp only [aB,fE (show s.free.length+[h.1].length<=1048576 by simp;omega),eG (l:=s.used) l1 (by omega),e1,gJ]
theorem aFK {s:aU} (ok:fS s) {h:Int×Int} (lv:AV s h):fS (gJ s h):=by
 have hl:=ok.fl;have hn:=ok.n2;have hu:=ok.ul;obtain ⟨l1,l2,l3,l4⟩:=lv;have nf:h.1∉s.free:=by
  have:=(ok.uf h.1.toNat (by omega)).1 l3
  rwa [show (h.1.toNat:Int)=h.1 by omega] at this
 refine ⟨ok.n1,ok.n2,?_,?_,?_,?_,?_⟩
 · show (s.used.set _ _).length=_;rw [aa];exact hu
 · intro x hx
   rcases cy.1 hx with hx|hx
   · exact ok.fr x hx
   rw [cf] at hx;subst hx;exact ⟨l1,l2⟩
 · show (s.free++[h.1]).Nodup
   rw [List.nodup_append];refine ⟨ok.fd,by simp,?_⟩
   intro x hx y hy he;rw [cf] at hy;subst hy;subst he;exact nf hx
 · intro i hi
   change i<s.uses.length at hi;show (s.used.set h.1.toNat false)[i]! =true↔(i:Int)∉s.free++[h.1];rw [bF,cy,cf]
   by_cases e:i=h.1.toNat
   · rw [if_pos ⟨e,by omega⟩]
     have:(i:Int)=h.1:=by omega
     simp [this]
   rw [if_neg (fun k=>e k.1),ok.uf i hi]
   have: ¬(i:Int)=h.1:=by omega
   simp [this]
 intro i hi
 change i<s.uses.length at hi;obtain ⟨u1,u2,u3⟩:=ok.us i hi;refine ⟨u1,u2,?_⟩;show (s.used.set h.1.toNat false)[i]! =true->_;rw [bF];split
 · intro h;cases h
 exact u3
theorem GR {s:aU} (ok:fS s) (h:0<s.free.length):dM s<s.uses.length/\(dM s:Int)=s.free[s.free.length-1]!/\(dM s:Int)∈s.free:=by
 have hm:=bL (l:=s.free) (i:=s.free.length-1) (by omega)
 have:=ok.fr _ hm
 have e:(dM s:Int)=s.free[s.free.length-1]!:=by unfold dM;omega
 refine ⟨by omega,e,by rw [e];exact hm⟩
theorem kK {α:Type} (l:List α) (n:Nat) (h:n<=l.length):iX l 0 (n:Int)=some (l.take n):=by
 unfold iX;rw [if_pos ⟨by omega,by omega,by omega⟩]
 simp
theorem KD {s:aU} (ok:fS s):GK s=some (if EF s then (iL s,nA s,0) else (⟨[],[],[]⟩,(0,0),18)):=by
 have hl:=ok.fl;have hn:=ok.n2;have hu:=ok.ul;unfold GK EF;rw [BE s (by omega),if_pos ok]
 simp only [aB,show ((0:Int) !=0)=false from rfl,cond_false,aE]
 by_cases a1:0<s.free.length
 · obtain ⟨n1,n2,n3⟩:=GR ok a1
   have e1:((s.free.length:Int)==0)=false:=eM (by omega)
   have e2:aA .i64 ((s.free.length:Int) -1)=((s.free.length-1:Nat):Int):=qD (by omega) (by omega)
   unfold yR;simp only [e1,cond_false,aE,e2,kK s.free (s.free.length-1) (by omega),aB,aY (show (s.free.take (s.free.length-1)).length<=1048576 by rw [bi];omega),
    aC s.free (s.free.length-1) (by omega),<- n2,aC s.uses (dM s) n1]
   obtain ⟨u1,u2,u3⟩:=ok.us (dM s) n1
   by_cases a2:s.uses[dM s]! =1000000
   · have e3:(s.uses[dM s]! ==1000000)=true:=by simpa using a2
     rw [e3,if_neg (by omega)];rfl
   have e3:(s.uses[dM s]! ==1000000)=false:=by simpa using a2
   have e4:aA .i64 (s.uses[dM s]!+1)=s.uses[dM s]!+1:=by rw [wi];omega
   rw [e3,if_pos (by omega)]
   simp only [cond_false,aY (show s.uses.length<=1048576 by omega),aY (show s.used.length<=1048576 by omega),aB,aC s.used (dM s) (by omega),aC s.uses (dM s) n1,e4,wG,
    aC (s.uses.set (dM s) (s.uses[dM s]!+1)) (dM s) (by rw [aa];exact n1),bF,n1,and_self,if_true,iL,nA]
 have e1:((s.free.length:Int)==0)=true:=eH (by omega)
 rw [e1,if_neg (fun h=>a1 h.1)];rfl
theorem vA {s:aU} (ok:fS s):jA s=some (decide (EF s)):=by
 have hl:=ok.fl;have hn:=ok.n2;have hu:=ok.ul;unfold jA EF;simp only [aE]
 by_cases a1:0<s.free.length
 · obtain ⟨n1,n2,n3⟩:=GR ok a1
   have e1:decide ((0:Int)<(s.free.length:Int))=true:=by simp;omega
   have e2:aA .i64 ((s.free.length:Int) -1)=((s.free.length-1:Nat):Int):=qD (by omega) (by omega)
   simp only [e1,e2,cond_true,aC s.free (s.free.length-1) (by omega),aB,<- n2,aC s.uses (dM s) n1,a1,true_and]
 have e1:decide ((0:Int)<(s.free.length:Int))=false:=decide_eq_false (by omega)
 rw [e1];simp [a1]
theorem P2 {s:aU} (ok:fS s) (h:EF s):FM s=some (iL s,nA s):=by
 have hl:=ok.fl;have hn:=ok.n2;have hu:=ok.ul;obtain ⟨a1,a2⟩:=h;obtain ⟨n1,n2,n3⟩:=GR ok a1;obtain ⟨u1,u2,u3⟩:=ok.us (dM s) n1;unfold FM;rw [BF ok];have e2:aA .i64 ((s.free.length:Int) -1)=((s.free.length-1:Nat):Int):=qD (by omega) (by omega)
 have e4:aA .i64 (s.uses[dM s]!+1)=s.uses[dM s]!+1:=by rw [wi];omega
 simp only [aB,aE,e2,aC s.free (s.free.length-1) (by omega),kK s.free (s.free.length-1) (by omega),<- n2,aC s.uses (dM s) n1,aC s.used (dM s) (by omega),e4,wG,
  aC (s.uses.set (dM s) (s.uses[dM s]!+1)) (dM s) (by rw [aa];exact n1),bF,n1,and_self,if_true,iL,nA,Int.toNat_natCast]
theorem aFL {s:aU} (ok:fS s) (h:EF s):fS (iL s):=by
 have hl:=ok.fl;have hn:=ok.n2;have hu:=ok.ul;obtain ⟨a1,a2⟩:=h;obtain ⟨n1,n2,n3⟩:=GR ok a1;have mt: ∀x:Int,x∈s.free.take (s.free.length-1)↔(x∈s.free/\x≠(dM s:Int)):=by
  intro x;rw [cJ];constructor
  · rintro ⟨i,h1,h2,rfl⟩
    refine ⟨bL h2,?_⟩;rw [n2];exact gU.1 ok.fd i (s.free.length-1) h1 (by omega)
  rintro ⟨h1,h2⟩
  obtain ⟨i,hi,rfl⟩:=aW.1 h1;refine ⟨i,?_,hi,rfl⟩;refine ar fun hc=>h2 ?_
  rw [n2,show i=s.free.length-1 by omega]
 refine ⟨?_,?_,?_,?_,?_,?_,?_⟩
 · show 1<=(s.uses.set _ _).length;rw [aa];exact ok.n1
 · show (s.uses.set _ _).length<=200;rw [aa];exact ok.n2
 · show (s.used.set _ _).length=(s.uses.set _ _).length;rw [aa,aa];exact hu
 · intro x hx
   show 0<=x/\x<((s.uses.set _ _).length:Int);rw [aa];exact ok.fr x ((mt x).1 hx).1
 · exact ok.fd.sublist (List.take_sublist _ _)
 · intro i hi
   change i<(s.uses.set _ _).length at hi;rw [aa] at hi;show (s.used.set (dM s) true)[i]! =true↔(i:Int)∉s.free.take (s.free.length-1);rw [bF,mt]
   by_cases e:i=dM s
   · rw [if_pos ⟨e,by omega⟩]
     simp [e]
   rw [if_neg (fun k=>e k.1),ok.uf i hi]
   have:(i:Int)≠(dM s:Int):=by omega
   simp [this]
 intro i hi
 change i<(s.uses.set _ _).length at hi;rw [aa] at hi;obtain ⟨u1,u2,u3⟩:=ok.us i hi;show 0<=(s.uses.set (dM s) (s.uses[dM s]!+1))[i]!/\(s.uses.set (dM s) (s.uses[dM s]!+1))[i]!<=1000000/\((s.used.set (dM s) true)[i]! =true->1<=(s.uses.set (dM s) (s.uses[dM s]!+1))[i]!);rw [bF,bF]
 by_cases e:i=dM s
 · subst e
   rw [if_pos ⟨rfl,n1⟩];refine ⟨by omega,by omega,fun _=>by omega⟩
 rw [if_neg (fun k=>e k.1),if_neg (fun k=>e k.1)]
 exact ⟨u1,u2,u3⟩
abbrev Ev:=Int×Int×Int×Int×Int
abbrev Ev.at (x:Ev):Int×Int:=(x.1,x.2.1)
abbrev Ev.num (x:Ev):Int:=x.2.2.1
abbrev Ev.ix (x:Ev):Int:=x.2.2.2.1
abbrev Ev.n (x:Ev):Nat:=x.2.2.2.1.toNat
theorem aV3 {x:Ev} {k:Nat} (h:x.ix<(k:Int)) (h0:0<=x.ix):x.n<k:=by
 show x.ix.toNat<k;omega
theorem aV4 {x y:Ev} (h0:0<=x.ix) (h1:0<=y.ix) (h:x.ix≠y.ix):x.n≠y.n:=by
 show x.ix.toNat≠y.ix.toNat
 omega
def eC (x y:Ev):Prop:=mE (x.1,x.2.1) (y.1,y.2.1)<0\/(mE (x.1,x.2.1) (y.1,y.2.1)=0/\x.2.2.1<y.2.2.1)
theorem xT {a b:Int×Int}:mE a b<0↔a.1*b.2<b.1*a.2:=by
 unfold mE;rcases eN (a.1*b.2) (b.1*a.2) with ⟨h,e⟩|⟨h,e⟩|⟨h,e⟩<;>rw [e]<;>constructor<;>intro<;>omega
theorem aCB {a b:Int×Int}:mE a b=0↔a.1*b.2=b.1*a.2:=by
 unfold mE;rcases eN (a.1*b.2) (b.1*a.2) with ⟨h,e⟩|⟨h,e⟩|⟨h,e⟩<;>rw [e]<;>constructor<;>intro<;>omega
theorem qL {x y:Ev} (h:eC x y): ¬eC y x:=by
 unfold eC at*;rw [xT,aCB] at*;dsimp only at*;rintro (k|k)<;>rcases h with h|h<;>omega
theorem aBa {a1 a2 b1 b2 c1 c2:Int} (ha:1<=a2) (hb:1<=b2) (hc:1<=c2) (h1:a1*b2<=b1*a2) (h2:b1*c2<=c1*b2):a1*c2<=c1*a2:=by
 have e1:a1*b2*c2<=b1*a2*c2:=au h1 (by omega)
 have e2:b1*c2*a2<=c1*b2*a2:=au h2 (by omega)
 have e3:(a1*c2)*b2<=(c1*a2)*b2:=by
  have r1:(a1*c2)*b2=a1*b2*c2:=by grind
  have r2:b1*a2*c2=b1*c2*a2:=by grind
  have r3:c1*b2*a2=(c1*a2)*b2:=by grind
  omega
 exact Int.le_of_mul_le_mul_right e3 (by omega)
theorem BG {a1 a2 b1 b2 c1 c2:Int} (ha:1<=a2) (hb:1<=b2) (hc:1<=c2) (h1:a1*b2<b1*a2) (h2:b1*c2<=c1*b2):a1*c2<c1*a2:=by
 have e1:a1*b2*c2<b1*a2*c2:=bz h1 (by omega)
 have e2:b1*c2*a2<=c1*b2*a2:=au h2 (by omega)
 have e3:(a1*c2)*b2<(c1*a2)*b2:=by
  have r1:(a1*c2)*b2=a1*b2*c2:=by grind
  have r2:b1*a2*c2=b1*c2*a2:=by grind
  have r3:c1*b2*a2=(c1*a2)*b2:=by grind
  omega
 exact ci e3 (by omega)
theorem P3 {a1 a2 b1 b2 c1 c2:Int} (ha:1<=a2) (hb:1<=b2) (hc:1<=c2) (h1:a1*b2<=b1*a2) (h2:b1*c2<c1*b2):a1*c2<c1*a2:=by
 have e1:a1*b2*c2<=b1*a2*c2:=au h1 (by omega)
 have e2:b1*c2*a2<c1*b2*a2:=bz h2 (by omega)
 have e3:(a1*c2)*b2<(c1*a2)*b2:=by
  have r1:(a1*c2)*b2=a1*b2*c2:=by grind
  have r2:b1*a2*c2=b1*c2*a2:=by grind
  have r3:c1*b2*a2=(c1*a2)*b2:=by grind
  omega
 exact ci e3 (by omega)
theorem CC {x y z:Ev} (hx:1<=x.2.1) (hy:1<=y.2.1) (hz:1<=z.2.1) (h1: ¬eC y x) (h2: ¬eC z y): ¬eC z x:=by
 unfold eC at*;rw [xT,aCB] at*;dsimp only at*;have t1:= @aBa x.1 x.2.1 y.1 y.2.1 z.1 z.2.1 hx hy hz;have t2:= @BG x.1 x.2.1 y.1 y.2.1 z.1 z.2.1 hx hy hz;have t3:= @P3 x.1 x.2.1 y.1 y.2.1 z.1 z.2.1 hx hy hz;generalize x.1*y.2.1=p at*;generalize y.1*x.2.1=q at*;generalize y.1*z.2.1=r at*;generalize z.1*y.2.1=s at*;generalize x.1*z.2.1=u at*
 generalize z.1*x.2.1=v at*;have a1:p<=q:=by omega
 have a2:r<=s:=by omega
 have a3:=t1 a1 a2;rintro (k|k)
 · omega
 by_cases b1:p<q
 · have:=t2 b1 a2;omega
 by_cases b2:r<s
 · have:=t3 a1 b2;omega
 omega
structure IV (n:Nat) (x:Ev) (M:Ev->Prop) (H:List Ev) (W:List Int) (i:Nat):Prop where
 lt:i<n
 hn:n<=H.length
 ix: ∀w,w<n->w≠i->0<=(H[w]!).ix/\(H[w]!).ix<W.length/\W[(H[w]!).n]! =(w:Int)/\(H[w]!).ix≠x.ix
 x0:0<=x.ix
 x1:x.ix<W.length
 mem: ∀e,(∃w,w<n/\w≠i/\H[w]! =e)↔M e
theorem IV.move {n:Nat} {x:Ev} {M:Ev->Prop} {H:List Ev} {W:List Int} {i j:Nat} (h:IV n x M H W i) (hj:j<n) (hij:j≠i):IV n x M (H.set i H[j]!) (W.set (H[j]!).n (i:Int)) j:=by
 have hn:=h.hn;have hi:=h.lt;obtain ⟨j1,j2,j3,j4⟩:=h.ix j hj hij;have cell: ∀w,(H.set i H[j]!)[w]! =if w=i then H[j]! else H[w]!:=by
  intro w;rw [bF]
  by_cases e:w=i
  · rw [if_pos ⟨e,by omega⟩,if_pos e]
  rw [if_neg (fun k=>e k.1),if_neg e]
 refine ⟨hj,by rw [aa];exact hn,?_,h.x0,by rw [aa];exact h.x1,?_⟩
 · intro w hw hwj
   rw [cell,aa]
   by_cases e:w=i
   · rw [if_pos e,bF,if_pos ⟨rfl,aV3 j2 j1⟩]
     exact ⟨j1,j2,by rw [e],j4⟩
   rw [if_neg e,bF]
   obtain ⟨k1,k2,k3,k4⟩:=h.ix w hw e;refine ⟨k1,k2,?_,k4⟩;rw [if_neg,k3];rintro ⟨c,_⟩;rw [c,j3] at k3;omega
 intro e
 rw [<- h.mem e];constructor
 · rintro ⟨w,hw,hwj,he⟩
   rw [cell] at he
   by_cases c:w=i
   · rw [if_pos c] at he;exact ⟨j,hj,hij,he⟩
   rw [if_neg c] at he;exact ⟨w,hw,c,he⟩
 rintro ⟨w,hw,hwi,he⟩
 by_cases c:w=j
 · refine ⟨i,hi,fun h=>hij h.symm,?_⟩
   rw [cell,if_pos rfl,<- c];exact he
 exact ⟨w,hw,c,by rw [cell,if_neg hwi];exact he⟩
theorem IV.fill {n:Nat} {x:Ev} {M:Ev->Prop} {H:List Ev} {W:List Int} {i:Nat} (h:IV n x M H W i):
 (∀w,w<n->0<=((H.set i x)[w]!).ix/\((H.set i x)[w]!).ix<W.length/\(W.set x.n (i:Int))[((H.set i x)[w]!).n]! =(w:Int))/\
  (∀e,(∃w,w<n/\(H.set i x)[w]! =e)↔(e=x\/M e)):=by
 have hn:=h.hn;have hi:=h.lt;have x0:=h.x0;have x1:=h.x1;have cell: ∀w,(H.set i x)[w]! =if w=i then x else H[w]!:=by
  intro w;rw [bF]
  by_cases e:w=i
  · rw [if_pos ⟨e,by omega⟩,if_pos e]
  rw [if_neg (fun k=>e k.1),if_neg e]
 constructor
 · intro w hw
   rw [cell]
   by_cases e:w=i
   · rw [if_pos e,bF,if_pos ⟨rfl,aV3 x1 x0⟩]
     exact ⟨x0,x1,by rw [e]⟩
   rw [if_neg e,bF]
   obtain ⟨k1,k2,k3,k4⟩:=h.ix w hw e;exact ⟨k1,k2,by rw [if_neg (fun c=>aV4 k1 x0 k4 c.1),k3]⟩
 intro e
 rw [<- h.mem e];constructor
 · rintro ⟨w,hw,he⟩
   rw [cell] at he
   by_cases c:w=i
   · rw [if_pos c] at he;exact .inl he.symm
   rw [if_neg c] at he;exact .inr ⟨w,hw,c,he⟩
 rintro (he|⟨w,hw,hwi,he⟩)
 · exact ⟨i,hi,by rw [cell,if_pos rfl,he]⟩
 exact ⟨w,hw,by rw [cell,if_neg hwi];exact he⟩
noncomputable def kF (x:Ev):Nat->List Ev->List Int->Nat×List Ev×List Int
 |0,H,W=>(0,H,W)
 |i+1,H,W=>if eC x H[i / 2]! then kF x (i / 2) (H.set (i+1) H[i / 2]!) (W.set (H[i / 2]!).n ((i+1:Nat):Int)) else (i+1,H,W)
termination_by i=>i
decreasing_by omega
noncomputable def jB (n:Nat) (H:List Ev) (i:Nat):Nat:=if 2*i+2<n/\eC H[2*i+2]! H[2*i+1]! then 2*i+2 else 2*i+1
theorem rC (n:Nat) (H:List Ev) (i:Nat):jB n H i=2*i+1\/(jB n H i=2*i+2/\2*i+2<n):=by
 unfold jB;split
 · rename_i h;exact .inr ⟨rfl,h.1⟩
 exact .inl rfl
noncomputable def eI (n:Nat) (x:Ev) (i:Nat) (H:List Ev) (W:List Int):Nat×List Ev×List Int:=
 if _h:2*i+1<n then
  if eC H[jB n H i]! x then eI n x (jB n H i) (H.set i H[jB n H i]!) (W.set (H[jB n H i]!).n (i:Int)) else (i,H,W)
 else (i,H,W)
termination_by n-i
decreasing_by
 rcases rC n H i with h|h<;>omega
structure I6 (n:Nat) (H:List Ev) (i:Nat):Prop where
 den: ∀w,w<n->1<=(H[w]!).2.1
 ord: ∀k,0<k->k<n->k≠i->(k-1) / 2≠i-> ¬eC H[k]! H[(k-1) / 2]!
 grand:0<i-> ∀k,0<k->k<n->(k-1) / 2=i-> ¬eC H[k]! H[(i-1) / 2]!
theorem NS {n : Nat} {x : Ev} {M : Ev -> Prop} (dx : 1 <= x.2.1) : ∀ (i : Nat) (H : List Ev) (W : List Int), IV n x M H W i -> I6 n H i ->
    ∃ j H1 W1, kF x i H W = (j, H1, W1) /\ IV n x M H1 W1 j /\ I6 n H1 j /\ H1.length = H.length /\ W1.length = W.length /\ (0 < j -> ¬ eC x H1[(j - 1) / 2]!) /\
      (∀ k, n <= k -> H1[k]! = H[k]!) /\ (∀ k, (∀ w, w < n -> w ≠ i -> (H[w]!).n ≠ k) -> W1[k]! = W[k]!) /\
      ((∀ k, 0 < k -> k < n -> (k - 1) / 2 = i -> ¬ eC H[k]! x) -> ∀ k, 0 < k -> k < n -> (k - 1) / 2 = j -> ¬ eC H1[k]! x)
  | 0, H, W, h, o => ⟨0, H, W, by rw [kF], h, o, rfl, rfl, fun h => by omega, fun _ _ => rfl, fun _ _ => rfl, fun h => h⟩
  | i + 1, H, W, h, o => by
    rw [kF]
    by_cases hl : eC x H[i / 2]!
    · rw [if_pos hl]
      have hi := h.lt
      have hn := h.hn
      have hp : i / 2 < n := by omega
      have hne : i / 2 ≠ i + 1 := by omega
      have hm := h.move hp hne
      have cell : ∀ w, (H.set (i + 1) H[i / 2]!)[w]! = if w = i + 1 then H[i / 2]! else H[w]! := by
        intro w
        rw [bF]
        by_cases e : w = i + 1
        · rw [if_pos ⟨e, by omega⟩, if_pos e]
        rw [if_neg (fun k => e k.1), if_neg e]
      have o' : I6 n (H.set (i + 1) H[i / 2]!) (i / 2) := by
        refine ⟨?_, ?_, ?_⟩
        · intro w hw
          rw [cell]
          split
          · exact o.den _ hp
          exact o.den _ hw
        · intro k k0 kn k1 k2
          rw [cell, cell]
          by_cases e : k = i + 1
          · subst e; exact absurd (by omega) k2
          rw [if_neg e]
          by_cases e2 : (k - 1) / 2 = i + 1
          · rw [if_pos e2]
            have := o.grand (by omega) k k0 kn e2
            rwa [show (i + 1 - 1) / 2 = i / 2 by omega] at this
          rw [if_neg e2]
          exact o.ord k k0 kn e e2
        intro p0 k k0 kn k1
        rw [cell, cell, if_neg (show (i / 2 - 1) / 2 ≠ i + 1 by omega)]
        have up1 : ¬ eC H[i / 2]! H[(i / 2 - 1) / 2]! := o.ord (i / 2) p0 hp hne (by omega)
        by_cases e : k = i + 1
        · rw [if_pos e]; exact up1
        rw [if_neg e]
        have up2 : ¬ eC H[k]! H[i / 2]! := by
          have := o.ord k k0 kn e (by omega)
          rwa [k1] at this
        exact CC (o.den _ (by omega)) (o.den _ hp) (o.den _ kn) up1 up2
      obtain ⟨j, H1, W1, e1, e3, e4, e5, e6, e7, e8, e9, e10⟩ := NS dx (i / 2) _ _ hm o'
      rw [aa] at e5 e6
      refine ⟨j, H1, W1, e1, e3, e4, e5, e6, e7, ?_, ?_, ?_⟩
      · intro k hk
        rw [e8 k hk, cell, if_neg (by omega)]
      · intro k hk
        rw [e9 k ?_, bF, if_neg (fun c => hk (i / 2) hp hne c.1.symm)]
        intro w hw hwp
        rw [cell]
        split
        · exact hk (i / 2) hp hne
        rename_i e; exact hk w hw e
      intro _
      refine e10 fun k k0 kn k1 => ?_
      rw [cell]
      by_cases e : k = i + 1
      · rw [if_pos e]; exact qL hl
      rw [if_neg e]
      have up2 : ¬ eC H[k]! H[i / 2]! := by
        have := o.ord k k0 kn e (by omega)
        rwa [k1] at this
      exact CC dx (o.den _ hp) (o.den _ kn) (qL hl) up2
    rw [if_neg hl]
    refine ⟨i + 1, H, W, rfl, h, o, rfl, rfl, fun _ => ?_, fun _ _ => rfl, fun _ _ => rfl, fun h => h⟩
    rwa [show (i + 1 - 1) / 2 = i / 2 by omega]
termination_by i=>i
decreasing_by omega
theorem aDH {n:Nat} {x:Ev} {i:Nat} {H:List Ev} {W:List Int} (h: ∀k,0<k->k<n->(k-1) / 2=i-> ¬eC H[k]! x):eI n x i H W=(i,H,W):=by
 rw [eI];split
 · rename_i hk
   rw [if_neg];rcases rC n H i with e|⟨e,e2⟩
   · rw [e];exact h _ (by omega) hk (by omega)
   rw [e];exact h _ (by omega) e2 (by omega)
 rfl
theorem TC {n : Nat} {x : Ev} {M : Ev -> Prop} (dx : 1 <= x.2.1) : ∀ (d i : Nat) (H : List Ev) (W : List Int), n - i <= d -> IV n x M H W i -> I6 n H i -> (0 < i -> ¬ eC x H[(i - 1) / 2]!) ->
    ∃ j H1 W1, eI n x i H W = (j, H1, W1) /\ IV n x M H1 W1 j /\ I6 n H1 j /\ H1.length = H.length /\ W1.length = W.length /\ (0 < j -> ¬ eC x H1[(j - 1) / 2]!) /\
      (∀ k, n <= k -> H1[k]! = H[k]!) /\ (∀ k, (∀ w, w < n -> w ≠ i -> (H[w]!).n ≠ k) -> W1[k]! = W[k]!) /\ (∀ k, 0 < k -> k < n -> (k - 1) / 2 = j -> ¬ eC H1[k]! x)
  | 0, i, H, W, hd, h, o, u => by have := h.lt; omega
  | d + 1, i, H, W, hd, h, o, u => by
    have hi := h.lt
    have hn := h.hn
    rw [eI]
    by_cases hk : 2 * i + 1 < n
    · rw [dif_pos hk]
      have kc := rC n H i
      have kn : jB n H i < n := by omega
      have kne : jB n H i ≠ i := by omega
      have kp : (jB n H i - 1) / 2 = i := by omega
      have kb : ∀ k, 0 < k -> k < n -> (k - 1) / 2 = i -> ¬ eC H[k]! H[jB n H i]! := by
        intro k k0 k1 k2
        have kk : k = 2 * i + 1 \/ k = 2 * i + 2 := by omega
        unfold jB
        split
        · rename_i hc
          rcases kk with e | e
          · rw [e]; exact qL hc.2
          rw [e]; exact fun h => qL h h
        rename_i hc
        rcases kk with e | e
        · rw [e]; exact fun h => qL h h
        rw [e] at k1 ⊢; exact fun h => hc ⟨k1, h⟩
      by_cases hl : eC H[jB n H i]! x
      · rw [if_pos hl]
        have hm := h.move kn kne
        have cell : ∀ w, (H.set i H[jB n H i]!)[w]! = if w = i then H[jB n H i]! else H[w]! := by
          intro w
          rw [bF]
          by_cases e : w = i
          · rw [if_pos ⟨e, by omega⟩, if_pos e]
          rw [if_neg (fun k => e k.1), if_neg e]
        have o' : I6 n (H.set i H[jB n H i]!) (jB n H i) := by
          refine ⟨?_, ?_, ?_⟩
          · intro w hw
            rw [cell]
            split
            · exact o.den _ kn
            exact o.den _ hw
          · intro k k0 k1 k2 k3
            rw [cell, cell]
            by_cases e : k = i
            · rw [if_pos e, if_neg (by omega)]
              have := o.grand (by omega) (jB n H i) (by omega) kn kp
              rwa [e]
            rw [if_neg e]
            by_cases e2 : (k - 1) / 2 = i
            · rw [if_pos e2]; exact kb k k0 k1 e2
            rw [if_neg e2]; exact o.ord k k0 k1 e e2
          intro _ k k0 k1 k2
          rw [cell, cell, if_pos kp, if_neg (by omega)]
          have := o.ord k k0 k1 (by omega) (by omega)
          rwa [k2] at this
        obtain ⟨j, H1, W1, e1, e3, e4, e5, e6, e7, e8, e9, e10⟩ := TC dx d (jB n H i) _ _ (by omega) hm o' (by
          intro _
          rw [cell, if_pos kp]
          exact qL hl)
        rw [aa] at e5 e6
        refine ⟨j, H1, W1, e1, e3, e4, e5, e6, e7, ?_, ?_, e10⟩
        · intro k hk
          rw [e8 k hk, cell, if_neg (by omega)]
        intro k hk
        rw [e9 k ?_, bF, if_neg (fun c => hk (jB n H i) kn kne c.1.symm)]
        intro w hw hwp
        rw [cell]
        split
        · exact hk (jB n H i) kn kne
        rename_i e; exact hk w hw e
      rw [if_neg hl]
      refine ⟨i, H, W, rfl, h, o, rfl, rfl, u, fun _ _ => rfl, fun _ _ => rfl, ?_⟩
      intro k k0 k1 k2
      exact CC dx (o.den _ kn) (o.den _ k1) hl (kb k k0 k1 k2)
    rw [dif_neg hk]
    refine ⟨i, H, W, rfl, h, o, rfl, rfl, u, fun _ _ => rfl, fun _ _ => rfl, ?_⟩
    intro k k0 k1 k2
    omega
structure GS (n:Nat) (x:Ev) (M:Ev->Prop) (K:Nat->Prop) (H:List Ev) (W:List Int) (H1:List Ev) (W1:List Int):Prop where
 hl:H1.length=H.length
 wl:W1.length=W.length
 ix: ∀w,w<n->0<=(H1[w]!).ix/\(H1[w]!).ix<W.length/\W1[(H1[w]!).n]! =(w:Int)
 mem: ∀e,(∃w,w<n/\H1[w]! =e)↔(e=x\/M e)
 ord: ∀k,0<k->k<n-> ¬eC H1[k]! H1[(k-1) / 2]!
 out: ∀k,K k->W1[k]! =W[k]!
theorem VL {n:Nat} {x:Ev} {M:Ev->Prop} {H H1:List Ev} {W W1:List Int} {i j:Nat} (h1:IV n x M H1 W1 j) (o1:I6 n H1 j) (hl:H1.length=H.length) (wl:W1.length=W.length)
 (u:0<j-> ¬eC x H1[(j-1) / 2]!) (kd: ∀k,0<k->k<n->(k-1) / 2=j-> ¬eC H1[k]! x) (out: ∀k,(∀w,w<n->w≠i->(H[w]!).n≠k)->W1[k]! =W[k]!):
 GS n x M (fun k=>k≠x.n/\ ∀w,w<n->w≠i->(H[w]!).n≠k) H W (H1.set j x) (W1.set x.n (j:Int)):=by
 have hn:=h1.hn;have hj:=h1.lt;have f:=h1.fill;have cell: ∀w,(H1.set j x)[w]! =if w=j then x else H1[w]!:=by
  intro w;rw [bF]
  by_cases e:w=j
  · rw [if_pos ⟨e,by omega⟩,if_pos e]
  rw [if_neg (fun k=>e k.1),if_neg e]
 refine ⟨by rw [aa];exact hl,by rw [aa];exact wl,?_,f.2,?_,?_⟩
 · rw [<- wl];exact f.1
 · intro k k0 kn
   rw [cell,cell]
   by_cases e:k=j
   · rw [if_pos e,if_neg (by omega),e];exact u (by omega)
   rw [if_neg e]
   by_cases e2:(k-1) / 2=j
   · rw [if_pos e2];exact kd k k0 kn e2
   rw [if_neg e2];exact o1.ord k k0 kn e e2
 rintro k ⟨k1,k2⟩
 rw [bF,if_neg (fun c=>k1 c.1)]
 exact out k k2
noncomputable def cR (n:Nat) (x:Ev) (i:Nat) (H:List Ev) (W:List Int):List Ev×List Int:=
 let u:=kF x i H W
 let d:=eI n x u.1 u.2.1 u.2.2
 (d.2.1.set d.1 x,d.2.2.set x.n (d.1:Int))
theorem F0s {n:Nat} {x:Ev} {M:Ev->Prop} (dx:1<=x.2.1) {i:Nat} {H:List Ev} {W:List Int} (h:IV n x M H W i) (o:I6 n H i):
 GS n x M (fun k=>k≠x.n/\ ∀w,w<n->w≠i->(H[w]!).n≠k) H W (cR n x i H W).1 (cR n x i H W).2:=by
 obtain ⟨j,H1,W1,e1,e3,e4,e5,e6,e7,e8,e9,e10⟩:=NS dx i H W h o;obtain ⟨k,H2,W2,f1,f3,f4,f5,f6,f7,f8,f9,f10⟩:=TC dx n j H1 W1 (by omega) e3 e4 e7
 have e:cR n x i H W=(H2.set k x,W2.set x.n (k:Int)):=by
  unfold cR;rw [e1];dsimp only;rw [f1]
 rw [e];refine VL f3 f4 (by omega) (by omega) f7 f10 ?_
 intro c hc;rw [f9 c ?_,e9 c hc];intro w hw hwj hcw;have hm:M H1[w]!:=(e3.mem _).1 ⟨w,hw,hwj,rfl⟩;obtain ⟨v,v1,v2,v3⟩:=(h.mem _).2 hm;exact hc v v1 v2 (by rw [v3];exact hcw)
theorem Y4 {n:Nat} {x:Ev} {M:Ev->Prop} (dx:1<=x.2.1) {i:Nat} {H:List Ev} {W:List Int} (h:IV n x M H W i) (o:I6 n H i) (hk: ∀k,0<k->k<n->(k-1) / 2=i-> ¬eC H[k]! x):
 cR n x i H W=((kF x i H W).2.1.set (kF x i H W).1 x,(kF x i H W).2.2.set x.n ((kF x i H W).1:Int)):=by
 obtain ⟨j,H1,W1,e1,e3,e4,e5,e6,e7,e8,e9,e10⟩:=NS dx i H W h o;unfold cR;rw [e1];dsimp only;rw [aDH (e10 hk)]
def uE (x:Ev):Prop:=bQ (x.1,x.2.1)/\oA (x.1,x.2.1)/\0<=x.2.2.1/\x.2.2.1<=1000000
theorem uE.den {x:Ev} (h:uE x):1<=x.2.1:=h.1.1
noncomputable def P4 (x y:Ev):Int:=if mE (x.1,x.2.1) (y.1,y.2.1)≠0 then mE (x.1,x.2.1) (y.1,y.2.1) else lJ x.2.2.1 y.2.2.1
theorem KE (x y:Ev):P4 x y<0↔eC x y:=by
 unfold P4 eC
 by_cases h:mE (x.1,x.2.1) (y.1,y.2.1)=0
 · rw [if_neg (by simpa using h),h]
   rcases eN x.2.2.1 y.2.2.1 with ⟨h1,e⟩|⟨h1,e⟩|⟨h1,e⟩<;>rw [e]<;>constructor<;>intro<;>omega
 rw [if_pos h];constructor<;>intro<;>omega
theorem eE {x y:Ev} (hx:uE x) (hy:uE y):cO x y=some (P4 x y):=by
 unfold cO P4;rw [LZ hx.2.1 hy.2.1,if_pos ⟨hx.1,hy.1⟩];simp only [aB,mD,GQ]
theorem qE {x y:Ev} (hx:uE x) (hy:uE y):fC x y=some (decide (eC x y)):=by
 unfold fC eC;rw [uD hx.2.1 hy.2.1];simp only [aB];generalize mE (x.1,x.2.1) (y.1,y.2.1)=c
 by_cases h1:c<0
 · simp [h1]
 by_cases h2:c=0
 · subst h2;simp
 simp only [h1,eM h2,h2,decide_false,cond_false,false_or,false_and]
theorem L1 {x y:Ev}:decide (P4 x y<0)=decide (eC x y):=by simp only [KE]
theorem VM {x y:Ev}:decide (0<=P4 x y)=!decide (eC x y):=by
 have:=KE x y
 by_cases h:eC x y
 · have h2:=this.2 h
   have: ¬0<=P4 x y:=by omega
   simp [h,this]
 have h2: ¬P4 x y<0:=fun k=>h (this.1 k)
 have:0<=P4 x y:=by omega
 simp [h,this]
structure oS (n:Nat) (H:List Ev) (W:List Int):Prop where
 hn:n<=H.length
 hb:H.length<=1000000
 ev: ∀w,w<n->uE H[w]!/\0<=(H[w]!).ix/\(H[w]!).ix<W.length
theorem oS.move {n:Nat} {H:List Ev} {W:List Int} (c:oS n H W) {i j:Nat} (_hi:i<n) (hj:j<n) (k:Nat) (v:Int):oS n (H.set i H[j]!) (W.set k v):=by
 have hn:=c.hn;refine ⟨by rw [aa];exact hn,by rw [aa];exact c.hb,?_⟩
 intro w hw;rw [bF,aa];split
 · exact c.ev j hj
 exact c.ev w hw
theorem NT {H:List Ev} {W:List Int} {x:Ev} {u fr:List Int} {us:List Bool} {i:Nat} (hi:i<H.length) (h0:0<=x.ix) (h1:x.ix<W.length):
 cH (u,us,fr,(i:Int),x.1,x.2.1,x.2.2.1,x.2.2.2.1,x.2.2.2.2,H,W)=some (H.set i x,W.set x.n (i:Int)):=by
 unfold cH;have e1:=aC H i hi;have e2:=eG (l:=W) h0 h1;simp only [e1,e2,aB,B4,beq_self_eq_true,cond_true];rfl
theorem NU {n cap:Nat} {H:List Ev} {W:List Int} {x:Ev} {u fr:List Int} {us:List Bool} {i:Nat} (hi:i<n) (hn:n<=H.length) (h0:0<=x.ix) (h1:x.ix<W.length):
 cE (u,us,fr,n,cap,(i:Int),x.1,x.2.1,x.2.2.1,x.2.2.2.1,x.2.2.2.2,H,W)=some (H.set i x,W.set x.n (i:Int)):=by
 unfold cE;have e1:=aC (H.take n) i (by rw [bi];omega)
 have e2:=eG (l:=W) h0 h1;simp only [e1,e2,aB,B4,beq_self_eq_true,cond_true];rfl
theorem wX {i:Nat} (h:i<1000000000):aA .i64 (ay (aA .i64 (((i+1:Nat):Int) -1)) 2)=((i / 2:Nat):Int):=by
 have e:aA .i64 (((i+1:Nat):Int) -1)=(i:Int):=by rw [wi];omega
 rw [e,ce (by omega),wi];omega
theorem BH {i:Nat} (h:i<1000000000):aA .i64 ((aA .i64 (2*(i:Int)))+1)=((2*i+1:Nat):Int):=by
 have e:aA .i64 (2*(i:Int))=((2*i:Nat):Int):=by rw [wi];omega
 rw [e,wi];omega
theorem FT {n:Nat} {x:Ev}: ∀{i:Nat} {H:List Ev} {W:List Int} {j:Nat} {H1:List Ev} {W1:List Int},oS n H W->i<n->kF x i H W=(j,H1,W1)-> ∀w,w<n->uE H1[w]!/\0<=(H1[w]!).ix/\(H1[w]!).ix<W.length
 |0,H,W,j,H1,W1,c,hi,e=>by
  rw [kF] at e;injection e with e1 e;injection e with e2 e3;subst e2;exact c.ev
 |i+1,H,W,j,H1,W1,c,hi,e=>by
  rw [kF] at e;split at e
  · have:=FT (c.move hi (show i / 2<n by omega) (H[i / 2]!).n ((i+1:Nat):Int)) (by omega) e
    rw [aa] at this;exact this
  injection e with e1 e;injection e with e2 e3
  subst e2;exact c.ev
termination_by i=>i
decreasing_by omega
theorem aBb {c0:List Int×List Bool×List Int×Int×Int×Int×Int×Int×Int×List Ev×List Int} {n i:Nat} {H:List Ev} {W:List Int} {u fr:List Int} {us:List Bool} {x:Ev}
 (c:oS n H W) (hn:H.length=n) (hi:i<n) (hx:uE x) (x0:0<=x.ix) (x1:x.ix<W.length) (l1:c0.2.2.2.2.2.2.2.2.2.1.length=n) (l2:c0.2.2.2.2.2.2.2.2.2.2.length=W.length):
 gR c0 ((i:Int),((2*i+1:Nat):Int),H,W,u,us,fr,x)=
  some (if 2*i+1<n/\eC H[jB n H i]! x then .next (((jB n H i:Nat):Int),((2*jB n H i+1:Nat):Int),H.set i H[jB n H i]!,W.set (H[jB n H i]!).n (i:Int),u,us,fr,x)
   else .done (.done (H.set i x,W.set x.n (i:Int)))):=by
 have hb:=c.hb;have fin:(cH (u,us,fr,(i:Int),x.1,x.2.1,x.2.2.1,x.2.2.2.1,x.2.2.2.2,H,W))=some (H.set i x,W.set x.n (i:Int)):=NT (by omega) x0 x1
 have ln1:(H.set i x).length=c0.2.2.2.2.2.2.2.2.2.1.length:=by rw [aa];omega
 have ln2:(W.set x.n (i:Int)).length=c0.2.2.2.2.2.2.2.2.2.2.length:=by rw [aa];omega
 unfold gR;simp only [aE,hn,fin,aB,ln1,ln2,beq_self_eq_true,cond_true]
 by_cases h1:2*i+1<n
 · have e1:decide (((2*i+1:Nat):Int)<(n:Int))=true:=by simp;omega
   have e2:aA .i64 (((2*i+1:Nat):Int)+1)=((2*i+2:Nat):Int):=aT (by omega)
   obtain ⟨ok1,a1,a2⟩:=c.ev (2*i+1) h1;have g1:=aC H (2*i+1) (by omega)
   have s1:(cH (u,us,fr,(i:Int),(H[2*i+1]!).1,(H[2*i+1]!).2.1,(H[2*i+1]!).2.2.1,(H[2*i+1]!).2.2.2.1,(H[2*i+1]!).2.2.2.2,H,W))=some (H.set i H[2*i+1]!,W.set (H[2*i+1]!).n (i:Int)):=NT (by omega) a1 a2
   simp only [e1,e2,cond_true,g1,aB,s1,eE ok1 hx,VM,BH (show 2*i+1<1000000000 by omega)]
   by_cases h2:2*i+2<n
   · have e3:decide (((2*i+2:Nat):Int)<(n:Int))=true:=by simp;omega
     obtain ⟨ok2,b1,b2⟩:=c.ev (2*i+2) h2;have g2:=aC H (2*i+2) (by omega)
     have s2:(cH (u,us,fr,(i:Int),(H[2*i+2]!).1,(H[2*i+2]!).2.1,(H[2*i+2]!).2.2.1,(H[2*i+2]!).2.2.2.1,(H[2*i+2]!).2.2.2.2,H,W))=some (H.set i H[2*i+2]!,W.set (H[2*i+2]!).n (i:Int)):=NT (by omega) b1 b2
     simp only [e3,cond_true,g2,aB,s2,eE ok2 hx,eE ok2 ok1,L1,VM,BH (show 2*i+2<1000000000 by omega)]
     by_cases h3:eC H[2*i+2]! H[2*i+1]!
     · have k:jB n H i=2*i+2:=by unfold jB;rw [if_pos ⟨h2,h3⟩]
       rw [k]
       by_cases h4:eC H[2*i+2]! x
       · simp only [h1,h3,h4,decide_true,cond_true,cond_false,aq,and_self,if_true]
       simp only [h1,h3,h4,decide_true,decide_false,cond_true,am,and_false,if_false]
     have k:jB n H i=2*i+1:=by unfold jB;rw [if_neg (fun h=>h3 h.2)]
     rw [k]
     by_cases h4:eC H[2*i+1]! x
     · simp only [h1,h3,h4,decide_true,decide_false,cond_false,aq,and_self,if_true]
     simp only [h1,h3,h4,decide_false,cond_true,cond_false,am,and_false,if_false]
   have e3:decide (((2*i+2:Nat):Int)<(n:Int))=false:=by simp;omega
   have k:jB n H i=2*i+1:=by unfold jB;rw [if_neg (fun h=>h2 h.1)]
   rw [k];simp only [e3,cond_false]
   by_cases h4:eC H[2*i+1]! x
   · simp only [h1,h4,decide_true,cond_false,aq,and_self,if_true]
   simp only [h1,h4,decide_false,cond_true,am,and_false,if_false]
 have e1:decide (((2*i+1:Nat):Int)<(n:Int))=false:=by simp;omega
 rw [if_neg (fun h=>h1 h.1),e1];rfl
theorem DN {c0 : List Int × List Bool × List Int × Int × Int × Int × Int × Int × Int × List Ev × List Int} {n : Nat} {u fr : List Int} {us : List Bool} {x : Ev} (hx : uE x) (x0 : 0 <= x.ix) (l1 : c0.2.2.2.2.2.2.2.2.2.1.length = n) :
    ∀ (d i : Nat) (H : List Ev) (W : List Int), n - i <= d -> oS n H W -> H.length = n -> i < n -> x.ix < W.length -> c0.2.2.2.2.2.2.2.2.2.2.length = W.length ->
      aG (gR c0) ((i : Int), ((2 * i + 1 : Nat) : Int), H, W, u, us, fr, x) = some (.done ((eI n x i H W).2.1.set (eI n x i H W).1 x, (eI n x i H W).2.2.set x.n ((eI n x i H W).1 : Int)))
  | 0, i, H, W, hd, c, hn, hi, x1, l2 => by omega
  | d + 1, i, H, W, hd, c, hn, hi, x1, l2 => by
    have r := aBb (u := u) (us := us) (fr := fr) c hn hi hx x0 x1 l1 l2
    by_cases h : 2 * i + 1 < n /\ eC H[jB n H i]! x
    · rw [if_pos h] at r
      have kc := rC n H i
      have kn : jB n H i < n := by omega
      rw [bC r, DN hx x0 l1 d (jB n H i) _ _ (by omega) (c.move hi kn _ _) (by rw [aa]; exact hn) kn (by rw [aa]; exact x1) (by rw [aa]; exact l2)]
      have e : eI n x i H W = eI n x (jB n H i) (H.set i H[jB n H i]!) (W.set (H[jB n H i]!).n (i : Int)) := by
        rw [eI, dif_pos h.1, if_pos h.2]
      rw [e]
    rw [if_neg h] at r
    rw [aK r]
    have e : eI n x i H W = (i, H, W) := by
      rw [eI]
      split
      · rename_i h1; rw [if_neg (fun k => h ⟨h1, k⟩)]
      rfl
    rw [e]
theorem P5 {c0 : List Int × List Bool × List Int × Int × Int × Int × Int × Int × Int × List Ev × List Int} {n : Nat} {u fr : List Int} {us : List Bool} {x : Ev} (hx : uE x) (x0 : 0 <= x.ix) (l1 : c0.2.2.2.2.2.2.2.2.2.1.length = n) :
    ∀ (i : Nat) (H : List Ev) (W : List Int), oS n H W -> H.length = n -> i < n -> x.ix < W.length -> c0.2.2.2.2.2.2.2.2.2.2.length = W.length ->
      aG (fJ c0) ((i : Int), H, W, u, us, fr, x) = some (cR n x i H W)
  | 0, H, W, c, hn, hi, x1, l2 => by
    have hb := c.hb
    have dn := DN (u := u) (us := us) (fr := fr) hx x0 l1 n 0 H W (by omega) c hn hi x1 l2
    refine (aK (r := cR n x 0 H W) ?_)
    unfold fJ
    have e1 : decide ((0 : Int) < ((0 : Nat) : Int)) = false := by simp
    simp only [e1, cond_false, BH (show 0 < 1000000000 by omega)]
    rw [dn]
    unfold cR
    rw [kF]
  | i + 1, H, W, c, hn, hi, x1, l2 => by
    have hb := c.hb
    have e1 : decide ((0 : Int) < ((i + 1 : Nat) : Int)) = true := decide_eq_true (by omega)
    have hp : i / 2 < n := by omega
    obtain ⟨ok1, a1, a2⟩ := c.ev (i / 2) hp
    have g1 := aC H (i / 2) (by omega)
    have s1 : (cH (u, us, fr, ((i + 1 : Nat) : Int), (H[i / 2]!).1, (H[i / 2]!).2.1, (H[i / 2]!).2.2.1, (H[i / 2]!).2.2.2.1, (H[i / 2]!).2.2.2.2, H, W)) = some (H.set (i + 1) H[i / 2]!, W.set (H[i / 2]!).n ((i + 1 : Nat) : Int)) := NT (by omega) a1 a2
    by_cases h : eC x H[i / 2]!
    · have r : fJ c0 (((i + 1 : Nat) : Int), H, W, u, us, fr, x) = some (.next (((i / 2 : Nat) : Int), H.set (i + 1) H[i / 2]!, W.set (H[i / 2]!).n ((i + 1 : Nat) : Int), u, us, fr, x)) := by
        unfold fJ
        simp only [e1, cond_true, wX (show i < 1000000000 by omega), g1, aB, eE hx ok1, L1, h, decide_true, s1]
      rw [bC r, P5 hx x0 l1 (i / 2) _ _ (c.move hi hp _ _) (by rw [aa]; exact hn) hp (by rw [aa]; exact x1) (by rw [aa]; exact l2)]
      have e : kF x (i + 1) H W = kF x (i / 2) (H.set (i + 1) H[i / 2]!) (W.set (H[i / 2]!).n ((i + 1 : Nat) : Int)) := by
        rw [kF, if_pos h]
      unfold cR
      rw [e]
    have dn := DN (u := u) (us := us) (fr := fr) hx x0 l1 n (i + 1) H W (by omega) c hn hi x1 l2
    refine (aK (r := cR n x (i + 1) H W) ?_)
    unfold fJ
    simp only [e1, cond_true, wX (show i < 1000000000 by omega), g1, aB, eE hx ok1, L1, h, decide_false, cond_false, BH (show i + 1 < 1000000000 by omega)]
    rw [dn]
    unfold cR
    rw [kF, if_neg h]
termination_by i=>i
decreasing_by omega
theorem P6 {n:Nat} {u fr:List Int} {us:List Bool} {x:Ev} (hx:uE x) (x0:0<=x.ix) {i:Nat} {H:List Ev} {W:List Int} (c:oS n H W) (hn:H.length=n) (hi:i<n) (x1:x.ix<W.length):
 fQ (u,us,fr,(i:Int),x.1,x.2.1,x.2.2.1,x.2.2.2.1,x.2.2.2.2,H,W)=some (cR n x i H W):=by
 unfold fQ;exact P5 hx x0 hn i H W c hn hi x1 rfl
theorem gX {l:List Ev} {n i:Nat} (h:i<n) (hn:n<=l.length):aL (l.take n) (i:Int)=some l[i]!:=by
 rw [aC (l.take n) i (by rw [bi];omega),nS h]
theorem aBc {c0:List Int×List Bool×List Int×Nat×Nat×Int×Int×Int×Int×Int×Int×List Ev×List Int} {n cap i:Nat} {H:List Ev} {W:List Int} {u fr:List Int} {us:List Bool} {x:Ev}
 (c:oS n H W) (hi:i<n) (hx:uE x) (x0:0<=x.ix) (x1:x.ix<W.length) (l1:c0.2.2.2.2.2.2.2.2.2.2.2.1.length=H.length) (l2:c0.2.2.2.2.2.2.2.2.2.2.2.2.length=W.length):
 gQ c0 ((i:Int),((2*i+1:Nat):Int),H,W,u,us,fr,n,cap,x)=
  some (if 2*i+1<n/\eC H[jB n H i]! x then .next (((jB n H i:Nat):Int),((2*jB n H i+1:Nat):Int),H.set i H[jB n H i]!,W.set (H[jB n H i]!).n (i:Int),u,us,fr,n,cap,x)
   else .done (.done (H.set i x,W.set x.n (i:Int)))):=by
 have hb:=c.hb;have hnn:=c.hn;have fin:(cE (u,us,fr,n,cap,(i:Int),x.1,x.2.1,x.2.2.1,x.2.2.2.1,x.2.2.2.2,H,W))=some (H.set i x,W.set x.n (i:Int)):=NU (cap:=cap) (by omega) c.hn x0 x1
 have ln1:(H.set i x).length=c0.2.2.2.2.2.2.2.2.2.2.2.1.length:=by rw [aa];omega
 have ln2:(W.set x.n (i:Int)).length=c0.2.2.2.2.2.2.2.2.2.2.2.2.length:=by rw [aa];omega
 unfold gQ;simp only [aE,fin,aB,ln1,ln2,beq_self_eq_true,cond_true]
 by_cases h1:2*i+1<n
 · have e1:decide (((2*i+1:Nat):Int)<(n:Int))=true:=by simp;omega
   have e2:aA .i64 (((2*i+1:Nat):Int)+1)=((2*i+2:Nat):Int):=aT (by omega)
   obtain ⟨ok1,a1,a2⟩:=c.ev (2*i+1) h1;have g1:=gX (l:=H) (n:=n) (i:=2*i+1) (by omega) c.hn
   have s1:(cE (u,us,fr,n,cap,(i:Int),(H[2*i+1]!).1,(H[2*i+1]!).2.1,(H[2*i+1]!).2.2.1,(H[2*i+1]!).2.2.2.1,(H[2*i+1]!).2.2.2.2,H,W))=some (H.set i H[2*i+1]!,W.set (H[2*i+1]!).n (i:Int)):=NU (cap:=cap) (by omega) c.hn a1 a2
   simp only [e1,e2,cond_true,g1,aB,s1,eE ok1 hx,VM,BH (show 2*i+1<1000000000 by omega)]
   by_cases h2:2*i+2<n
   · have e3:decide (((2*i+2:Nat):Int)<(n:Int))=true:=by simp;omega
     obtain ⟨ok2,b1,b2⟩:=c.ev (2*i+2) h2;have g2:=gX (l:=H) (n:=n) (i:=2*i+2) (by omega) c.hn
     have s2:(cE (u,us,fr,n,cap,(i:Int),(H[2*i+2]!).1,(H[2*i+2]!).2.1,(H[2*i+2]!).2.2.1,(H[2*i+2]!).2.2.2.1,(H[2*i+2]!).2.2.2.2,H,W))=some (H.set i H[2*i+2]!,W.set (H[2*i+2]!).n (i:Int)):=NU (cap:=cap) (by omega) c.hn b1 b2
     simp only [e3,cond_true,g2,aB,s2,eE ok2 hx,eE ok2 ok1,L1,VM,BH (show 2*i+2<1000000000 by omega)]
     by_cases h3:eC H[2*i+2]! H[2*i+1]!
     · have k:jB n H i=2*i+2:=by unfold jB;rw [if_pos ⟨h2,h3⟩]
       rw [k]
       by_cases h4:eC H[2*i+2]! x
       · simp only [h1,h3,h4,decide_true,cond_true,cond_false,aq,and_self,if_true]
       simp only [h1,h3,h4,decide_true,decide_false,cond_true,am,and_false,if_false]
     have k:jB n H i=2*i+1:=by unfold jB;rw [if_neg (fun h=>h3 h.2)]
     rw [k]
     by_cases h4:eC H[2*i+1]! x
     · simp only [h1,h3,h4,decide_true,decide_false,cond_false,aq,and_self,if_true]
     simp only [h1,h3,h4,decide_false,cond_true,cond_false,am,and_false,if_false]
   have e3:decide (((2*i+2:Nat):Int)<(n:Int))=false:=by simp;omega
   have k:jB n H i=2*i+1:=by unfold jB;rw [if_neg (fun h=>h2 h.1)]
   rw [k];simp only [e3,cond_false]
   by_cases h4:eC H[2*i+1]! x
   · simp only [h1,h4,decide_true,cond_false,aq,and_self,if_true]
   simp only [h1,h4,decide_false,cond_true,am,and_false,if_false]
 have e1:decide (((2*i+1:Nat):Int)<(n:Int))=false:=by simp;omega
 rw [if_neg (fun h=>h1 h.1),e1];rfl
theorem DO {c0 : List Int × List Bool × List Int × Nat × Nat × Int × Int × Int × Int × Int × Int × List Ev × List Int} {n cap : Nat} {u fr : List Int} {us : List Bool} {x : Ev} (hx : uE x) (x0 : 0 <= x.ix) :
    ∀ (d i : Nat) (H : List Ev) (W : List Int), n - i <= d -> oS n H W -> c0.2.2.2.2.2.2.2.2.2.2.2.1.length = H.length -> i < n -> x.ix < W.length -> c0.2.2.2.2.2.2.2.2.2.2.2.2.length = W.length ->
      aG (gQ c0) ((i : Int), ((2 * i + 1 : Nat) : Int), H, W, u, us, fr, n, cap, x) = some (.done ((eI n x i H W).2.1.set (eI n x i H W).1 x, (eI n x i H W).2.2.set x.n ((eI n x i H W).1 : Int)))
  | 0, i, H, W, hd, c, hn, hi, x1, l2 => by omega
  | d + 1, i, H, W, hd, c, hn, hi, x1, l2 => by
    have r := aBc (u := u) (us := us) (fr := fr) (cap := cap) c hi hx x0 x1 hn l2
    by_cases h : 2 * i + 1 < n /\ eC H[jB n H i]! x
    · rw [if_pos h] at r
      have kc := rC n H i
      have kn : jB n H i < n := by omega
      rw [bC r, DO hx x0 d (jB n H i) _ _ (by omega) (c.move hi kn _ _) (by rw [aa]; exact hn) kn (by rw [aa]; exact x1) (by rw [aa]; exact l2)]
      have e : eI n x i H W = eI n x (jB n H i) (H.set i H[jB n H i]!) (W.set (H[jB n H i]!).n (i : Int)) := by
        rw [eI, dif_pos h.1, if_pos h.2]
      rw [e]
    rw [if_neg h] at r
    rw [aK r]
    have e : eI n x i H W = (i, H, W) := by
      rw [eI]
      split
      · rename_i h1; rw [if_neg (fun k => h ⟨h1, k⟩)]
      rfl
    rw [e]
theorem P7 {c0 : List Int × List Bool × List Int × Nat × Nat × Int × Int × Int × Int × Int × Int × List Ev × List Int} {n cap : Nat} {u fr : List Int} {us : List Bool} {x : Ev} (hx : uE x) (x0 : 0 <= x.ix) :
    ∀ (i : Nat) (H : List Ev) (W : List Int), oS n H W -> c0.2.2.2.2.2.2.2.2.2.2.2.1.length = H.length -> i < n -> x.ix < W.length -> c0.2.2.2.2.2.2.2.2.2.2.2.2.length = W.length ->
      aG (fI c0) ((i : Int), H, W, u, us, fr, n, cap, x) = some (cR n x i H W)
  | 0, H, W, c, hn, hi, x1, l2 => by
    have hb := c.hb
    have hnn := c.hn
    have dn := DO (u := u) (us := us) (fr := fr) (cap := cap) hx x0 n 0 H W (by omega) c hn hi x1 l2
    refine (aK (r := cR n x 0 H W) ?_)
    unfold fI
    have e1 : decide ((0 : Int) < ((0 : Nat) : Int)) = false := by simp
    simp only [e1, cond_false, BH (show 0 < 1000000000 by omega)]
    rw [dn]
    unfold cR
    rw [kF]
  | i + 1, H, W, c, hn, hi, x1, l2 => by
    have hb := c.hb
    have hnn := c.hn
    have e1 : decide ((0 : Int) < ((i + 1 : Nat) : Int)) = true := decide_eq_true (by omega)
    have hp : i / 2 < n := by omega
    obtain ⟨ok1, a1, a2⟩ := c.ev (i / 2) hp
    have g1 := gX (l := H) (n := n) (i := i / 2) (by omega) c.hn
    have s1 : (cE (u, us, fr, n, cap, ((i + 1 : Nat) : Int), (H[i / 2]!).1, (H[i / 2]!).2.1, (H[i / 2]!).2.2.1, (H[i / 2]!).2.2.2.1, (H[i / 2]!).2.2.2.2, H, W)) = some (H.set (i + 1) H[i / 2]!, W.set (H[i / 2]!).n ((i + 1 : Nat) : Int)) := NU (cap := cap) (by omega) c.hn a1 a2
    by_cases h : eC x H[i / 2]!
    · have r : fI c0 (((i + 1 : Nat) : Int), H, W, u, us, fr, n, cap, x) = some (.next (((i / 2 : Nat) : Int), H.set (i + 1) H[i / 2]!, W.set (H[i / 2]!).n ((i + 1 : Nat) : Int), u, us, fr, n, cap, x)) := by
        unfold fI
        simp only [e1, cond_true, wX (show i < 1000000000 by omega), g1, aB, eE hx ok1, L1, h, decide_true, s1]
      rw [bC r, P7 hx x0 (i / 2) _ _ (c.move hi hp _ _) (by rw [aa]; exact hn) hp (by rw [aa]; exact x1) (by rw [aa]; exact l2)]
      have e : kF x (i + 1) H W = kF x (i / 2) (H.set (i + 1) H[i / 2]!) (W.set (H[i / 2]!).n ((i + 1 : Nat) : Int)) := by
        rw [kF, if_pos h]
      unfold cR
      rw [e]
    have dn := DO (u := u) (us := us) (fr := fr) (cap := cap) hx x0 n (i + 1) H W (by omega) c hn hi x1 l2
    refine (aK (r := cR n x (i + 1) H W) ?_)
    unfold fI
    simp only [e1, cond_true, wX (show i < 1000000000 by omega), g1, aB, eE hx ok1, L1, h, decide_false, cond_false, BH (show i + 1 < 1000000000 by omega)]
    rw [dn]
    unfold cR
    rw [kF, if_neg h]
termination_by i=>i
decreasing_by omega
theorem aBd {n cap:Nat} {u fr:List Int} {us:List Bool} {x:Ev} (hx:uE x) (x0:0<=x.ix) {i:Nat} {H:List Ev} {W:List Int} (c:oS n H W) (hi:i<n) (x1:x.ix<W.length):
 lK (u,us,fr,n,cap,(i:Int),x.1,x.2.1,x.2.2.1,x.2.2.2.1,x.2.2.2.2,H,W)=some (cR n x i H W):=by
 unfold lK;exact P7 hx x0 i H W c rfl hi x1 rfl
theorem P8 {n cap:Nat} {H:List Ev} {W:List Int} {x:Ev} {u fr:List Int} {us:List Bool} {i k:Nat} (hi:i<n) (hk:k<n) (hik:k≠i) (hn:n<=H.length) (x0:0<=x.ix) (x1:x.ix<W.length) (k0:0<=(H[k]!).ix) (k1:(H[k]!).ix<W.length):
 jV (u,us,fr,n,cap,(i:Int),(k:Int),H.set i x,W.set x.n (i:Int))=some ((H.set i H[k]!).set k x,(W.set (H[k]!).n (i:Int)).set x.n (k:Int)):=by
 have cell: ∀w,(H.set i x)[w]! =if w=i then x else H[w]!:=by
  intro w;rw [bF]
  by_cases e:w=i
  · rw [if_pos ⟨e,by omega⟩,if_pos e]
  rw [if_neg (fun k=>e k.1),if_neg e]
 have sh:((H.set i x).set i H[k]!).set k x=(H.set i H[k]!).set k x:=by rw [az]
 have sw:((W.set x.n (i:Int)).set (H[k]!).n (i:Int)).set x.n (k:Int)=(W.set (H[k]!).n (i:Int)).set x.n (k:Int):=by
  by_cases e:x.n=(H[k]!).n
  · simp only [e,az]
  rw [dc _ _ (fun h=>e h),az]
 have g1:aL ((H.set i x).take n) (k:Int)=some H[k]!:=by rw [gX (by omega) (by rw [aa];omega),cell,if_neg hik]
 have g2:aL ((H.set i x).take n) (i:Int)=some x:=by rw [gX (by omega) (by rw [aa];omega),cell,if_pos rfl]
 have g3:aL (((H.set i x).set i H[k]!).take n) (k:Int)=some H[k]!:=by rw [gX (by omega) (by rw [aa,aa];omega),bF,if_neg (fun h=>hik h.1),cell,if_neg hik]
 have g4:aL (((H.set i H[k]!).set k x).take n) (i:Int)=some H[k]!:=by rw [gX (by omega) (by rw [aa,aa];omega),bF,if_neg (fun h=>hik h.1.symm),bF,if_pos ⟨rfl,by omega⟩]
 have g5:aL (((H.set i H[k]!).set k x).take n) (k:Int)=some x:=by rw [gX (by omega) (by rw [aa,aa];omega),bF,if_pos ⟨rfl,by rw [aa];omega⟩]
 have w6:=eG (l:=W.set x.n (i:Int)) k0 (by rw [aa];exact k1)
 have w7:=eG (l:=(W.set x.n (i:Int)).set (H[k]!).n (i:Int)) x0 (by rw [aa,aa];exact x1)
 have q1: ∀(l:List Int) (a:Int) (y:Ev),cL l y.2.2.2.1 a=l.set y.n a:=fun _ _ _=>rfl
 unfold jV;simp only [wG,g1,g2,g3,aB,sh,g4,g5,q1,w6,w7,sw,aa,beq_self_eq_true,cond_true]
theorem aFM {c0:List Int×List Bool×List Int×Nat×Nat×Int×List Ev×List Int} {n cap:Nat} {u fr:List Int} {us:List Bool} {x:Ev} (hx:uE x) (x0:0<=x.ix):
 ∀(i:Nat) (H:List Ev) (W:List Int),oS n H W->i<n->x.ix<W.length->c0.2.2.2.2.2.2.1.length=H.length->c0.2.2.2.2.2.2.2.length=W.length->
  aG (iS c0) ((i:Int),H.set i x,W.set x.n (i:Int),u,us,fr,n,cap)=some (((kF x i H W).1:Int),(kF x i H W).2.1.set (kF x i H W).1 x,(kF x i H W).2.2.set x.n ((kF x i H W).1:Int))
 |0,H,W,c,hi,x1,l1,l2=>by
  have hnn:=c.hn;refine aK ?_;unfold iS;have e1:decide ((0:Int)<((0:Nat):Int))=false:=by simp
  rw [kF];simp only [e1,cond_false,aa,l1,l2,beq_self_eq_true,cond_true]
 |i+1,H,W,c,hi,x1,l1,l2=>by
  have hb:=c.hb;have hnn:=c.hn;have e1:decide ((0:Int)<((i+1:Nat):Int))=true:=decide_eq_true (by omega)
  have hp:i / 2<n:=by omega
  have hne:i / 2≠i+1:=by omega
  obtain ⟨ok1,a1,a2⟩:=c.ev (i / 2) hp;have cell: ∀w,(H.set (i+1) x)[w]! =if w=i+1 then x else H[w]!:=by
   intro w;rw [bF]
   by_cases e:w=i+1
   · rw [if_pos ⟨e,by omega⟩,if_pos e]
   rw [if_neg (fun k=>e k.1),if_neg e]
  have g0:aL ((H.set (i+1) x).take n) ((i+1:Nat):Int)=some x:=by rw [gX (by omega) (by rw [aa];omega),cell,if_pos rfl]
  have g1:aL ((H.set (i+1) x).take n) ((i / 2:Nat):Int)=some H[i / 2]!:=by rw [gX (by omega) (by rw [aa];omega),cell,if_neg hne]
  by_cases h:eC x H[i / 2]!
  · have sw:=P8 (cap:=cap) (u:=u) (us:=us) (fr:=fr) (x:=x) hi hp hne hnn x0 x1 a1 a2
    have r:iS c0 (((i+1:Nat):Int),H.set (i+1) x,W.set x.n ((i+1:Nat):Int),u,us,fr,n,cap)=some (.next (((i / 2:Nat):Int),(H.set (i+1) H[i / 2]!).set (i / 2) x,(W.set (H[i / 2]!).n ((i+1:Nat):Int)).set x.n ((i / 2:Nat):Int),u,us,fr,n,cap)):=by
     unfold iS;simp only [e1,cond_true,wX (show i<1000000000 by omega),g0,g1,aB,qE hx ok1,h,decide_true,sw]
    rw [bC r,aFM hx x0 (i / 2) _ _ (c.move hi hp _ _) hp (by rw [aa];exact x1) (by rw [aa];exact l1) (by rw [aa];exact l2)]
    have e:kF x (i+1) H W=kF x (i / 2) (H.set (i+1) H[i / 2]!) (W.set (H[i / 2]!).n ((i+1:Nat):Int)):=by
     rw [kF,if_pos h]
    rw [e]
  refine aK ?_
  unfold iS;have e:kF x (i+1) H W=(i+1,H,W):=by rw [kF,if_neg h]
  rw [e];simp only [e1,cond_true,wX (show i<1000000000 by omega),g0,g1,aB,qE hx ok1,h,decide_false,cond_false,aa,l1,l2,beq_self_eq_true]
termination_by i=>i
decreasing_by omega
theorem Y5 {c0:List Int×List Bool×List Int×Nat×Nat×Int×List Ev×List Int} {n cap:Nat} {u fr:List Int} {us:List Bool} {x:Ev} (hx:uE x) (x0:0<=x.ix):
 ∀(d i:Nat) (H:List Ev) (W:List Int),n-i<=d->oS n H W->i<n->x.ix<W.length->c0.2.2.2.2.2.2.1.length=H.length->c0.2.2.2.2.2.2.2.length=W.length->
  aG (lM c0) ((i:Int),H.set i x,W.set x.n (i:Int),u,us,fr,n,cap)=some (((eI n x i H W).2.1.set (eI n x i H W).1 x,(eI n x i H W).2.2.set x.n ((eI n x i H W).1:Int)))
 |0,i,H,W,hd,c,hi,x1,l1,l2=>by omega
 |d+1,i,H,W,hd,c,hi,x1,l1,l2=>by
  have hb:=c.hb;have hnn:=c.hn;have cell: ∀w,(H.set i x)[w]! =if w=i then x else H[w]!:=by
   intro w;rw [bF]
   by_cases e:w=i
   · rw [if_pos ⟨e,by omega⟩,if_pos e]
   rw [if_neg (fun k=>e k.1),if_neg e]
  have len0:(H.set i x).length=H.length:=aa;have body:lM c0 ((i:Int),H.set i x,W.set x.n (i:Int),u,us,fr,n,cap)=some (if 2*i+1<n/\eC H[jB n H i]! x then .next (((jB n H i:Nat):Int),(H.set i H[jB n H i]!).set (jB n H i) x,(W.set (H[jB n H i]!).n (i:Int)).set x.n ((jB n H i:Nat):Int),u,us,fr,n,cap) else .done ((H.set i x,W.set x.n (i:Int)))):=by
   have k1:=BH (show i<1000000000 by omega)
   unfold lM
   by_cases h1:2*i+1<n
   · have e1:decide ((n:Int)<=((2*i+1:Nat):Int))=false:=decide_eq_false (by omega)
     have e2:aA .i64 (((2*i+1:Nat):Int)+1)=((2*i+2:Nat):Int):=aT (by omega)
     obtain ⟨ok1,a1,a2⟩:=c.ev (2*i+1) h1;have g0:aL ((H.set i x).take n) (i:Int)=some x:=by rw [gX (by omega) (by rw [aa];omega),cell,if_pos rfl]
     have g1:aL ((H.set i x).take n) ((2*i+1:Nat):Int)=some H[2*i+1]!:=by rw [gX (by omega) (by rw [aa];omega),cell,if_neg (by omega)]
     have s1:=P8 (cap:=cap) (u:=u) (us:=us) (fr:=fr) (x:=x) hi h1 (by omega) hnn x0 x1 a1 a2
     simp only [aE,k1,len0,e1,e2,cond_false,g0,g1,aB,qE ok1 hx,s1,aa,l1,l2,beq_self_eq_true,cond_true]
     by_cases h2:2*i+2<n
     · have e3:decide (((2*i+2:Nat):Int)<(n:Int))=true:=decide_eq_true (by omega)
       obtain ⟨ok2,b1,b2⟩:=c.ev (2*i+2) h2;have g2:aL ((H.set i x).take n) ((2*i+2:Nat):Int)=some H[2*i+2]!:=by rw [gX (by omega) (by rw [aa];omega),cell,if_neg (by omega)]
       have s2:=P8 (cap:=cap) (u:=u) (us:=us) (fr:=fr) (x:=x) hi h2 (by omega) hnn x0 x1 b1 b2
       simp only [e3,cond_true,g2,aB,s2,qE ok2 hx,qE ok2 ok1]
       by_cases h3:eC H[2*i+2]! H[2*i+1]!
       · have k:jB n H i=2*i+2:=by unfold jB;rw [if_pos ⟨h2,h3⟩]
         rw [k]
         by_cases h4:eC H[2*i+2]! x
         · simp only [h1,h3,h4,decide_true,cond_true,cond_false,aq,and_self,if_true]
         simp only [h1,h3,h4,decide_true,decide_false,cond_true,am,and_false,if_false]
       have k:jB n H i=2*i+1:=by unfold jB;rw [if_neg (fun h=>h3 h.2)]
       rw [k]
       by_cases h4:eC H[2*i+1]! x
       · simp only [h1,h3,h4,decide_true,decide_false,cond_false,aq,and_self,if_true]
       simp only [h1,h3,h4,decide_false,cond_true,cond_false,am,and_false,if_false]
     have e3:decide (((2*i+2:Nat):Int)<(n:Int))=false:=decide_eq_false (by omega)
     have k:jB n H i=2*i+1:=by unfold jB;rw [if_neg (fun h=>h2 h.1)]
     rw [k];simp only [e3,cond_false]
     by_cases h4:eC H[2*i+1]! x
     · simp only [h1,h4,decide_true,cond_false,aq,and_self,if_true]
     simp only [h1,h4,decide_false,cond_true,am,and_false,if_false]
   have e1:decide ((n:Int)<=((2*i+1:Nat):Int))=true:=decide_eq_true (by omega)
   rw [if_neg (fun h=>h1 h.1)]
   simp only [aE,k1,len0,e1,cond_true,aa,l1,l2,beq_self_eq_true]
  by_cases h:2*i+1<n/\eC H[jB n H i]! x
  · rw [if_pos h] at body
    have kc:=rC n H i;have kn:jB n H i<n:=by omega
    rw [bC body,Y5 hx x0 d (jB n H i) _ _ (by omega) (c.move hi kn _ _) kn (by rw [aa];exact x1) (by rw [aa];exact l1) (by rw [aa];exact l2)]
    have e:eI n x i H W=eI n x (jB n H i) (H.set i H[jB n H i]!) (W.set (H[jB n H i]!).n (i:Int)):=by
     rw [eI,dif_pos h.1,if_pos h.2]
    rw [e]
  rw [if_neg h] at body
  rw [aK body];have e:eI n x i H W=(i,H,W):=by
   rw [eI];split
   · rename_i h1;rw [if_neg (fun k=>h ⟨h1,k⟩)]
   rfl
  rw [e]
theorem KF {n:Nat} {H:List Ev} {W:List Int} {x:Ev} {u fr:List Int} {us:List Bool} {i k:Nat} (hi:i<n) (hk:k<n) (hik:k≠i) (hn:n=H.length) (x0:0<=x.ix) (x1:x.ix<W.length) (k0:0<=(H[k]!).ix) (k1:(H[k]!).ix<W.length):
 hU ((i:Int),(k:Int),u,us,fr,H.set i x,W.set x.n (i:Int))=some (u,us,fr,(H.set i H[k]!).set k x,(W.set (H[k]!).n (i:Int)).set x.n (k:Int)):=by
 have cell: ∀w,(H.set i x)[w]! =if w=i then x else H[w]!:=by
  intro w;rw [bF]
  by_cases e:w=i
  · rw [if_pos ⟨e,by omega⟩,if_pos e]
  rw [if_neg (fun k=>e k.1),if_neg e]
 have sh:((H.set i x).set i H[k]!).set k x=(H.set i H[k]!).set k x:=by rw [az]
 have sw:((W.set x.n (i:Int)).set (H[k]!).n (i:Int)).set x.n (k:Int)=(W.set (H[k]!).n (i:Int)).set x.n (k:Int):=by
  by_cases e:x.n=(H[k]!).n
  · simp only [e,az]
  rw [dc _ _ (fun h=>e h),az]
 have g1:aL ((H.set i x)) (k:Int)=some H[k]!:=by rw [aC _ _ (by rw [aa];omega),cell,if_neg hik]
 have g2:aL ((H.set i x)) (i:Int)=some x:=by rw [aC _ _ (by rw [aa];omega),cell,if_pos rfl]
 have g3:aL (((H.set i x).set i H[k]!)) (k:Int)=some H[k]!:=by rw [aC _ _ (by rw [aa,aa];omega),bF,if_neg (fun h=>hik h.1),cell,if_neg hik]
 have g4:aL (((H.set i H[k]!).set k x)) (i:Int)=some H[k]!:=by rw [aC _ _ (by rw [aa,aa];omega),bF,if_neg (fun h=>hik h.1.symm),bF,if_pos ⟨rfl,by omega⟩]
 have g5:aL (((H.set i H[k]!).set k x)) (k:Int)=some x:=by rw [aC _ _ (by rw [aa,aa];omega),bF,if_pos ⟨rfl,by rw [aa];omega⟩]
 have w6:=eG (l:=W.set x.n (i:Int)) k0 (by rw [aa];exact k1)
 have w7:=eG (l:=(W.set x.n (i:Int)).set (H[k]!).n (i:Int)) x0 (by rw [aa,aa];exact x1)
 have q1: ∀(l:List Int) (a:Int) (y:Ev),cL l y.2.2.2.1 a=l.set y.n a:=fun _ _ _=>rfl
 unfold hU;simp only [wG,g1,g2,g3,aB,sh,g4,g5,q1,w6,w7,sw,aa,beq_self_eq_true,cond_true]
theorem aFN {c0:Int×List Int×List Bool×List Int×List Ev×List Int} {n:Nat} {u fr:List Int} {us:List Bool} {x:Ev} (hx:uE x) (x0:0<=x.ix) (l3:c0.2.1.length=u.length) (l4:c0.2.2.1.length=us.length) (l5:c0.2.2.2.1.length=fr.length):
 ∀(i:Nat) (H:List Ev) (W:List Int),oS n H W->i<n->H.length=n->x.ix<W.length->c0.2.2.2.2.1.length=H.length->c0.2.2.2.2.2.length=W.length->
  aG (iT c0) ((i:Int),u,us,fr,H.set i x,W.set x.n (i:Int))=some (((kF x i H W).1:Int),u,us,fr,(kF x i H W).2.1.set (kF x i H W).1 x,(kF x i H W).2.2.set x.n ((kF x i H W).1:Int))
 |0,H,W,c,hi,hln,x1,l1,l2=>by
  have hnn:=c.hn;refine aK ?_;unfold iT;have e1:decide ((0:Int)<((0:Nat):Int))=false:=by simp
  rw [kF];simp only [e1,cond_false,aa,l1,l2,l3,l4,l5,beq_self_eq_true,cond_true]
 |i+1,H,W,c,hi,hln,x1,l1,l2=>by
  have hb:=c.hb;have hnn:=c.hn;have e1:decide ((0:Int)<((i+1:Nat):Int))=true:=decide_eq_true (by omega)
  have hp:i / 2<n:=by omega
  have hne:i / 2≠i+1:=by omega
  obtain ⟨ok1,a1,a2⟩:=c.ev (i / 2) hp;have cell: ∀w,(H.set (i+1) x)[w]! =if w=i+1 then x else H[w]!:=by
   intro w;rw [bF]
   by_cases e:w=i+1
   · rw [if_pos ⟨e,by omega⟩,if_pos e]
   rw [if_neg (fun k=>e k.1),if_neg e]
  have g0:aL ((H.set (i+1) x)) ((i+1:Nat):Int)=some x:=by rw [aC _ _ (by rw [aa];omega),cell,if_pos rfl]
  have g1:aL ((H.set (i+1) x)) ((i / 2:Nat):Int)=some H[i / 2]!:=by rw [aC _ _ (by rw [aa];omega),cell,if_neg hne]
  by_cases h:eC x H[i / 2]!
  · have sw:=KF (u:=u) (us:=us) (fr:=fr) (x:=x) hi hp hne hln.symm x0 x1 a1 a2
    have r:iT c0 (((i+1:Nat):Int),u,us,fr,H.set (i+1) x,W.set x.n ((i+1:Nat):Int))=some (.next (((i / 2:Nat):Int),u,us,fr,(H.set (i+1) H[i / 2]!).set (i / 2) x,(W.set (H[i / 2]!).n ((i+1:Nat):Int)).set x.n ((i / 2:Nat):Int))):=by
     unfold iT;simp only [e1,cond_true,wX (show i<1000000000 by omega),g0,g1,aB,qE hx ok1,h,decide_true,sw]
    rw [bC r,aFN hx x0 l3 l4 l5 (i / 2) _ _ (c.move hi hp _ _) hp (by rw [aa];exact hln) (by rw [aa];exact x1) (by rw [aa];exact l1) (by rw [aa];exact l2)]
    have e:kF x (i+1) H W=kF x (i / 2) (H.set (i+1) H[i / 2]!) (W.set (H[i / 2]!).n ((i+1:Nat):Int)):=by
     rw [kF,if_pos h]
    rw [e]
  refine aK ?_
  unfold iT;have e:kF x (i+1) H W=(i+1,H,W):=by rw [kF,if_neg h]
  rw [e];simp only [e1,cond_true,wX (show i<1000000000 by omega),g0,g1,aB,qE hx ok1,h,decide_false,cond_false,aa,l1,l2,l3,l4,l5,beq_self_eq_true]
termination_by i=>i
decreasing_by omega
theorem Y6 {c0:Int×List Int×List Bool×List Int×List Ev×List Int} {n:Nat} {u fr:List Int} {us:List Bool} {x:Ev} (hx:uE x) (x0:0<=x.ix) (l3:c0.2.1.length=u.length) (l4:c0.2.2.1.length=us.length) (l5:c0.2.2.2.1.length=fr.length):
 ∀(d i:Nat) (H:List Ev) (W:List Int),n-i<=d->oS n H W->i<n->H.length=n->x.ix<W.length->c0.2.2.2.2.1.length=H.length->c0.2.2.2.2.2.length=W.length->
  aG (lN c0) ((i:Int),u,us,fr,H.set i x,W.set x.n (i:Int))=some ((u,us,fr,(eI n x i H W).2.1.set (eI n x i H W).1 x,(eI n x i H W).2.2.set x.n ((eI n x i H W).1:Int)))
 |0,i,H,W,hd,c,hi,hln,x1,l1,l2=>by omega
 |d+1,i,H,W,hd,c,hi,hln,x1,l1,l2=>by
  have hb:=c.hb;have hnn:=c.hn;have cell: ∀w,(H.set i x)[w]! =if w=i then x else H[w]!:=by
   intro w;rw [bF]
   by_cases e:w=i
   · rw [if_pos ⟨e,by omega⟩,if_pos e]
   rw [if_neg (fun k=>e k.1),if_neg e]
  have len0:(H.set i x).length=H.length:=aa;have body:lN c0 ((i:Int),u,us,fr,H.set i x,W.set x.n (i:Int))=some (if 2*i+1<n/\eC H[jB n H i]! x then .next (((jB n H i:Nat):Int),u,us,fr,(H.set i H[jB n H i]!).set (jB n H i) x,(W.set (H[jB n H i]!).n (i:Int)).set x.n ((jB n H i:Nat):Int)) else .done ((u,us,fr,H.set i x,W.set x.n (i:Int)))):=by
   have k1:=BH (show i<1000000000 by omega)
   unfold lN
   by_cases h1:2*i+1<n
   · have e1:decide ((n:Int)<=((2*i+1:Nat):Int))=false:=decide_eq_false (by omega)
     have e2:aA .i64 (((2*i+1:Nat):Int)+1)=((2*i+2:Nat):Int):=aT (by omega)
     obtain ⟨ok1,a1,a2⟩:=c.ev (2*i+1) h1;have g0:aL ((H.set i x)) (i:Int)=some x:=by rw [aC _ _ (by rw [aa];omega),cell,if_pos rfl]
     have g1:aL ((H.set i x)) ((2*i+1:Nat):Int)=some H[2*i+1]!:=by rw [aC _ _ (by rw [aa];omega),cell,if_neg (by omega)]
     have s1:=KF (u:=u) (us:=us) (fr:=fr) (x:=x) hi h1 (by omega) hln.symm x0 x1 a1 a2
     simp only [aE,k1,len0,hln,e1,e2,cond_false,g0,g1,aB,qE ok1 hx,s1,aa,l1,l2,l3,l4,l5,beq_self_eq_true,cond_true]
     by_cases h2:2*i+2<n
     · have e3:decide (((2*i+2:Nat):Int)<(n:Int))=true:=decide_eq_true (by omega)
       obtain ⟨ok2,b1,b2⟩:=c.ev (2*i+2) h2;have g2:aL ((H.set i x)) ((2*i+2:Nat):Int)=some H[2*i+2]!:=by rw [aC _ _ (by rw [aa];omega),cell,if_neg (by omega)]
       have s2:=KF (u:=u) (us:=us) (fr:=fr) (x:=x) hi h2 (by omega) hln.symm x0 x1 b1 b2
       simp only [e3,cond_true,g2,aB,s2,qE ok2 hx,qE ok2 ok1]
       by_cases h3:eC H[2*i+2]! H[2*i+1]!
       · have k:jB n H i=2*i+2:=by unfold jB;rw [if_pos ⟨h2,h3⟩]
         rw [k]
         by_cases h4:eC H[2*i+2]! x
         · simp only [h1,h3,h4,decide_true,cond_true,cond_false,aq,and_self,if_true]
         simp only [h1,h3,h4,decide_true,decide_false,cond_true,am,and_false,if_false]
       have k:jB n H i=2*i+1:=by unfold jB;rw [if_neg (fun h=>h3 h.2)]
       rw [k]
       by_cases h4:eC H[2*i+1]! x
       · simp only [h1,h3,h4,decide_true,decide_false,cond_false,aq,and_self,if_true]
       simp only [h1,h3,h4,decide_false,cond_true,cond_false,am,and_false,if_false]
     have e3:decide (((2*i+2:Nat):Int)<(n:Int))=false:=decide_eq_false (by omega)
     have k:jB n H i=2*i+1:=by unfold jB;rw [if_neg (fun h=>h2 h.1)]
     rw [k];simp only [e3,cond_false]
     by_cases h4:eC H[2*i+1]! x
     · simp only [h1,h4,decide_true,cond_false,aq,and_self,if_true]
     simp only [h1,h4,decide_false,cond_true,am,and_false,if_false]
   have e1:decide ((n:Int)<=((2*i+1:Nat):Int))=true:=decide_eq_true (by omega)
   rw [if_neg (fun h=>h1 h.1)]
   simp only [aE,k1,len0,hln,e1,cond_true,aa,l1,l2,l3,l4,l5,beq_self_eq_true]
  by_cases h:2*i+1<n/\eC H[jB n H i]! x
  · rw [if_pos h] at body
    have kc:=rC n H i;have kn:jB n H i<n:=by omega
    rw [bC body,Y6 hx x0 l3 l4 l5 d (jB n H i) _ _ (by omega) (c.move hi kn _ _) kn (by rw [aa];exact hln) (by rw [aa];exact x1) (by rw [aa];exact l1) (by rw [aa];exact l2)]
    have e:eI n x i H W=eI n x (jB n H i) (H.set i H[jB n H i]!) (W.set (H[jB n H i]!).n (i:Int)):=by
     rw [eI,dif_pos h.1,if_pos h.2]
    rw [e]
  rw [if_neg h] at body
  rw [aK body];have e:eI n x i H W=(i,H,W):=by
   rw [eI];split
   · rename_i h1;rw [if_neg (fun k=>h ⟨h1,k⟩)]
   rfl
  rw [e]
theorem aFO {n:Nat} {H:List Ev} {W:List Int} {x:Ev} {u fr:List Int} {us:List Bool} {i k:Nat} (hi:i<n) (hk:k<n) (hik:k≠i) (hn:n=H.length) (x0:0<=x.ix) (x1:x.ix<W.length) (k0:0<=(H[k]!).ix) (k1:(H[k]!).ix<W.length):
 uA (u,us,fr,(i:Int),(k:Int),H.set i x,W.set x.n (i:Int))=some ((H.set i H[k]!).set k x,(W.set (H[k]!).n (i:Int)).set x.n (k:Int)):=by
 have cell: ∀w,(H.set i x)[w]! =if w=i then x else H[w]!:=by
  intro w;rw [bF]
  by_cases e:w=i
  · rw [if_pos ⟨e,by omega⟩,if_pos e]
  rw [if_neg (fun k=>e k.1),if_neg e]
 have sh:((H.set i x).set i H[k]!).set k x=(H.set i H[k]!).set k x:=by rw [az]
 have sw:((W.set x.n (i:Int)).set (H[k]!).n (i:Int)).set x.n (k:Int)=(W.set (H[k]!).n (i:Int)).set x.n (k:Int):=by
  by_cases e:x.n=(H[k]!).n
  · simp only [e,az]
  rw [dc _ _ (fun h=>e h),az]
 have g1:aL ((H.set i x)) (k:Int)=some H[k]!:=by rw [aC _ _ (by rw [aa];omega),cell,if_neg hik]
 have g2:aL ((H.set i x)) (i:Int)=some x:=by rw [aC _ _ (by rw [aa];omega),cell,if_pos rfl]
 have g3:aL (((H.set i x).set i H[k]!)) (k:Int)=some H[k]!:=by rw [aC _ _ (by rw [aa,aa];omega),bF,if_neg (fun h=>hik h.1),cell,if_neg hik]
 have g4:aL (((H.set i H[k]!).set k x)) (i:Int)=some H[k]!:=by rw [aC _ _ (by rw [aa,aa];omega),bF,if_neg (fun h=>hik h.1.symm),bF,if_pos ⟨rfl,by omega⟩]
 have g5:aL (((H.set i H[k]!).set k x)) (k:Int)=some x:=by rw [aC _ _ (by rw [aa,aa];omega),bF,if_pos ⟨rfl,by rw [aa];omega⟩]
 have w6:=eG (l:=W.set x.n (i:Int)) k0 (by rw [aa];exact k1)
 have w7:=eG (l:=(W.set x.n (i:Int)).set (H[k]!).n (i:Int)) x0 (by rw [aa,aa];exact x1)
 have q1: ∀(l:List Int) (a:Int) (y:Ev),cL l y.2.2.2.1 a=l.set y.n a:=fun _ _ _=>rfl
 unfold uA;simp only [wG,g1,g2,g3,aB,sh,g4,g5,q1,w6,w7,sw,aa,beq_self_eq_true,cond_true]
theorem aFP {c0:List Int×List Bool×List Int×Int×List Ev×List Int} {n:Nat} {u fr:List Int} {us:List Bool} {x:Ev} (hx:uE x) (x0:0<=x.ix):
 ∀(i:Nat) (H:List Ev) (W:List Int),oS n H W->i<n->H.length=n->x.ix<W.length->c0.2.2.2.2.1.length=H.length->c0.2.2.2.2.2.length=W.length->
  aG (iU c0) ((i:Int),H.set i x,W.set x.n (i:Int),u,us,fr)=some (((kF x i H W).1:Int),(kF x i H W).2.1.set (kF x i H W).1 x,(kF x i H W).2.2.set x.n ((kF x i H W).1:Int))
 |0,H,W,c,hi,hln,x1,l1,l2=>by
  have hnn:=c.hn;refine aK ?_;unfold iU;have e1:decide ((0:Int)<((0:Nat):Int))=false:=by simp
  rw [kF];simp only [e1,cond_false,aa,l1,l2,beq_self_eq_true,cond_true]
 |i+1,H,W,c,hi,hln,x1,l1,l2=>by
  have hb:=c.hb;have hnn:=c.hn;have e1:decide ((0:Int)<((i+1:Nat):Int))=true:=decide_eq_true (by omega)
  have hp:i / 2<n:=by omega
  have hne:i / 2≠i+1:=by omega
  obtain ⟨ok1,a1,a2⟩:=c.ev (i / 2) hp;have cell: ∀w,(H.set (i+1) x)[w]! =if w=i+1 then x else H[w]!:=by
   intro w;rw [bF]
   by_cases e:w=i+1
   · rw [if_pos ⟨e,by omega⟩,if_pos e]
   rw [if_neg (fun k=>e k.1),if_neg e]
  have g0:aL ((H.set (i+1) x)) ((i+1:Nat):Int)=some x:=by rw [aC _ _ (by rw [aa];omega),cell,if_pos rfl]
  have g1:aL ((H.set (i+1) x)) ((i / 2:Nat):Int)=some H[i / 2]!:=by rw [aC _ _ (by rw [aa];omega),cell,if_neg hne]
  by_cases h:eC x H[i / 2]!
  · have sw:=aFO (u:=u) (us:=us) (fr:=fr) (x:=x) hi hp hne hln.symm x0 x1 a1 a2
    have r:iU c0 (((i+1:Nat):Int),H.set (i+1) x,W.set x.n ((i+1:Nat):Int),u,us,fr)=some (.next (((i / 2:Nat):Int),(H.set (i+1) H[i / 2]!).set (i / 2) x,(W.set (H[i / 2]!).n ((i+1:Nat):Int)).set x.n ((i / 2:Nat):Int),u,us,fr)):=by
     unfold iU;simp only [e1,cond_true,wX (show i<1000000000 by omega),g0,g1,aB,qE hx ok1,h,decide_true,sw]
    rw [bC r,aFP hx x0 (i / 2) _ _ (c.move hi hp _ _) hp (by rw [aa];exact hln) (by rw [aa];exact x1) (by rw [aa];exact l1) (by rw [aa];exact l2)]
    have e:kF x (i+1) H W=kF x (i / 2) (H.set (i+1) H[i / 2]!) (W.set (H[i / 2]!).n ((i+1:Nat):Int)):=by
     rw [kF,if_pos h]
    rw [e]
  refine aK ?_
  unfold iU;have e:kF x (i+1) H W=(i+1,H,W):=by rw [kF,if_neg h]
  rw [e];simp only [e1,cond_true,wX (show i<1000000000 by omega),g0,g1,aB,qE hx ok1,h,decide_false,cond_false,aa,l1,l2,beq_self_eq_true]
termination_by i=>i
decreasing_by omega
theorem dec_f {p:Prop} [Decidable p] (h: ¬p):decide p=false:=decide_eq_false h
theorem aH {p:Prop} [Decidable p] (h:p):decide p=true:=decide_eq_true h
theorem Y7 (uses:List Int) (used:List Bool) (fr:List Int) (fl:List Bool) (h1:uses.length<=200) (h2:used.length=uses.length) (h3:fl.length=uses.length):
 ((∀i,i<uses.length->0<=uses[i]!/\uses[i]!<=1000000/\used[i]!≠fl[i]!/\(used[i]! =true->1<=uses[i]!))->aG lX ((uses.length:Int),0,uses,used,fr,fl)=some (.done 0))/\
 (¬(∀i,i<uses.length->0<=uses[i]!/\uses[i]!<=1000000/\used[i]!≠fl[i]!/\(used[i]! =true->1<=uses[i]!))->aG lX ((uses.length:Int),0,uses,used,fr,fl)=some (.done 8)):=by
 have key:=dS (body:=lX) (fun i=>((uses.length:Int),(i:Int),uses,used,fr,fl)) uses.length (fun i=> ¬(0<=uses[i]!/\uses[i]!<=1000000/\used[i]!≠fl[i]!/\(used[i]! =true->1<=uses[i]!))) (r:= .done 8) (e:= .done 0) (fun i hi=>by
  have e1:decide ((i:Int)<(uses.length:Int))=true:=aH (by omega)
  unfold lX;simp only [e1,cond_true,aC uses i hi,aC used i (by omega),aC fl i (by omega),aB,aT (show i<1000000000 by omega)]
  generalize uses[i]! =u;generalize used[i]! =a;generalize fl[i]! =b
  by_cases a1:u<0
  · simp only [a1,decide_true,cond_true];exact ⟨fun _=>trivial,fun h=>absurd (ae.1 h).1 (by omega)⟩
  · by_cases a2:1000000<u
    · simp only [a1,a2,decide_true,decide_false,cond_true,cond_false];exact ⟨fun _=>trivial,fun h=>absurd (ae.1 h).2.1 (by omega)⟩
    simp only [a1,a2,decide_false,cond_false]
    by_cases a3:u<1
    · cases a<;>cases b<;>simp [a3]<;>omega
    cases a<;>cases b<;>simp [a3]<;>omega) (by
  unfold lX
  have:decide ((uses.length:Int)<(uses.length:Int))=false:=dec_f (by omega)
  simp only [this,cond_false])
 constructor
 · intro h
   exact key.2 fun i hi=>ae.2 (h i hi)
 intro h
 obtain ⟨i,h⟩:=ao.1 h;obtain ⟨hi,hx⟩:=bo.1 h;exact key.1 ⟨i,hi,hx⟩
theorem P9 {α:Type} {n:Nat} (z:α) (h:n<=1048576):xB (n:Int) z=some (af n z):=by
 unfold xB;rw [if_pos ⟨by omega,by omega⟩]
 simp
theorem QA (s:aU) (hf:s.free.length<=1000000):AJ s=some (if fS s then 0 else 8):=by
 obtain ⟨uses,used,fr⟩:=s;dsimp only at hf;unfold AJ;simp only [aE]
 by_cases a1:uses.length<1
 · have e:decide ((uses.length:Int)<1)=true:=aH (by omega)
   rw [e,if_neg (fun h=>by have:=h.n1;dsimp only at this;omega)];rfl
 have e1:decide ((uses.length:Int)<1)=false:=dec_f (by omega)
 by_cases a2:200<uses.length
 · have e:decide (200<(uses.length:Int))=true:=aH (by omega)
   rw [e1,e,if_neg (fun h=>by have:=h.n2;dsimp only at this;omega)];rfl
 have e2:decide (200<(uses.length:Int))=false:=dec_f (by omega)
 by_cases a3:used.length=uses.length
 case neg=>
  have e:((used.length:Int) !=(uses.length:Int))=true:=dL (by omega)
  rw [e1,e2,e,if_neg (fun h=>a3 h.ul)];rfl
 have e3:((used.length:Int) !=(uses.length:Int))=false:=bP (by omega)
 by_cases a4:uses.length<fr.length
 · have e:decide ((uses.length:Int)<(fr.length:Int))=true:=aH (by omega)
   rw [e1,e2,e3,e,if_neg (fun h=>by have:=h.fl;dsimp only at this;omega)];rfl
 have e4:decide ((uses.length:Int)<(fr.length:Int))=false:=dec_f (by omega)
 simp only [e1,e2,e3,e4,cond_false,beq_self_eq_true,cond_true,P9 false (show uses.length<=1048576 by omega),aB]
 have ml: ∀k,(gE (af uses.length false) (fr.take k)).length=uses.length:=fun k=>by rw [pG,ax]
 have ml':(gE (af uses.length false) fr).length=uses.length:=by rw [pG,ax]
 have rep: ∀i:Nat,(af uses.length false)[i]! =false:=by
  intro i
  by_cases h:i<uses.length
  · rw [getElem!_pos _ i (by simpa using h),List.getElem_replicate]
  rw [getElem!_neg _ i (by simpa using h)];rfl
 have inner:=Y7 uses used fr (gE (af uses.length false) fr) (by omega) a3 ml'
 have key:=dS (body:=sB) (fun k=>((uses.length:Int),(k:Int),uses,used,fr,gE (af uses.length false) (fr.take k))) fr.length
  (fun k=>fr[k]!<0\/(uses.length:Int)<=fr[k]!\/(gE (af uses.length false) (fr.take k))[(fr[k]!).toNat]! =true) (r:=8)
  (e:=if (∀i,i<uses.length->0<=uses[i]!/\uses[i]!<=1000000/\used[i]!≠(gE (af uses.length false) fr)[i]!/\(used[i]! =true->1<=uses[i]!)) then 0 else 8) (fun k hk=>by
   have f1:decide ((k:Int)<(fr.length:Int))=true:=aH (by omega)
   have f5:gE (af uses.length false) (fr.take (k+1))=cL (gE (af uses.length false) (fr.take k)) fr[k]! true:=by rw [iK hk,IU]
   unfold sB;simp only [aE,f1,cond_true,aC fr k hk,aB,aT (show k<1000000000 by omega),f5]
   clear f5;generalize fr[k]! =x
   by_cases b1:x<0
   · simp [b1]
   · by_cases b2:(uses.length:Int)<=x
     · simp [b1,b2]
     simp only [b1,b2,decide_false,cond_false,false_or]
     rw [eG (l:=gE (af uses.length false) (fr.take k)) (i:=x) (by omega) (by rw [ml];omega)]
     simp only [aB];cases (gE (af uses.length false) (fr.take k))[x.toNat]!<;>simp) (by
   have f1:decide ((fr.length:Int)<(fr.length:Int))=false:=dec_f (by omega)
   unfold sB;simp only [aE,f1,cond_false,dj]
   by_cases hx:(∀i,i<uses.length->0<=uses[i]!/\uses[i]!<=1000000/\used[i]!≠(gE (af uses.length false) fr)[i]!/\(used[i]! =true->1<=uses[i]!))
   · rw [if_pos hx];exact inner.1 hx
   rw [if_neg hx];exact inner.2 hx)
 have h0:gE (af uses.length false) (fr.take 0)=af uses.length false:=rfl;rw [show ((0:Nat):Int)=0 from rfl,h0] at key
 by_cases bad: ∃k,k<fr.length/\(fr[k]!<0\/(uses.length:Int)<=fr[k]!\/(gE (af uses.length false) (fr.take k))[(fr[k]!).toNat]! =true)
 · rw [key.1 bad,if_neg]
   intro ok;obtain ⟨k,hk,hb⟩:=bad;have hr:=ok.fr fr[k]! (bL hk);dsimp only at hr;rcases hb with hb|hb|hb
   · omega
   · omega
   rw [rB _ _ _ (fun x hx=>(ok.fr x (bg hx)).1) (by rw [ax];omega),rep,dd] at hb
   have hi:((fr[k]!).toNat:Int)=fr[k]!:=by omega
   rw [hi] at hb;have hm:fr[k]!∈fr.take k:=of_decide_eq_true hb;obtain ⟨j,h1,h2,h3⟩:=cJ.1 hm;exact gU.1 ok.fd j k h1 hk h3
 have good: ∀k,k<fr.length->0<=fr[k]!/\fr[k]!<uses.length/\(gE (af uses.length false) (fr.take k))[(fr[k]!).toNat]! =false:=by
  intro k hk;refine ⟨?_,?_,?_⟩
  · exact Int.not_lt.1 fun h=>bad ⟨k,hk,.inl h⟩
  · exact Int.not_le.1 fun h=>bad ⟨k,hk,.inr (.inl h)⟩
  exact cw _▸fun h=>bad ⟨k,hk,.inr (.inr h)⟩
 rw [key.2 fun k hk hb=>bad ⟨k,hk,hb⟩]
 have rng: ∀x∈fr,0<=x/\x<(uses.length:Int):=by
  intro x hx;obtain ⟨k,hk,rfl⟩:=aW.1 hx;exact ⟨(good k hk).1,(good k hk).2.1⟩
 have g2: ∀k,k<fr.length->fr[k]!∉fr.take k:=by
  intro k hk;obtain ⟨c1,c2,c3⟩:=good k hk;rw [rB _ _ _ (fun x hx=>(rng x (bg hx)).1) (by rw [ax];omega),show ((fr[k]!).toNat:Int)=fr[k]! by omega,rep,dd] at c3
  exact of_decide_eq_false c3
 have nd:fr.Nodup:=gU.2 fun i j hij hj he=>g2 j hj (cJ.2 ⟨i,hij,by omega,he⟩)
 have fl: ∀i,i<uses.length->(gE (af uses.length false) fr)[i]! =decide ((i:Int)∈fr):=by
  intro i hi;rw [rB _ _ _ (fun x hx=>(rng x hx).1) (by rw [ax];omega),rep,dd]
 by_cases hx:(∀i,i<uses.length->0<=uses[i]!/\uses[i]!<=1000000/\used[i]!≠(gE (af uses.length false) fr)[i]!/\(used[i]! =true->1<=uses[i]!))
 · rw [if_pos hx,if_pos]
   refine ⟨by show 1<=uses.length;omega,by show uses.length<=200;omega,a3,rng,nd,fun i hi=>?_,fun i hi=>?_⟩
   · have:=(hx i hi).2.2.1
     rw [fl i hi] at this;dsimp only;cases h:used[i]! with
     |true=>
      rw [h] at this;refine ⟨fun _ hm=>?_,fun _=>rfl⟩
      rw [aH hm] at this;exact this rfl
     |false=>
      rw [h] at this;refine ⟨fun h=>(by cases h),fun hm=>?_⟩
      rw [dec_f hm] at this;exact absurd rfl this
   have:=hx i hi
   exact ⟨this.1,this.2.1,this.2.2.2⟩
 rw [if_neg hx,if_neg]
 intro ok;refine hx fun i hi=>?_
 obtain ⟨u1,u2,u3⟩:=ok.us i hi;refine ⟨u1,u2,?_,u3⟩;rw [fl i hi]
 have:=ok.uf i hi
 dsimp only at this;intro he
 by_cases hm:(i:Int)∈fr
 · rw [aH hm] at he;exact (this.1 he) hm
 rw [dec_f hm] at he
 have:=this.2 hm
 rw [he] at this;cases this
structure FU (a:aP):Prop where
 fr:a.slots.free.length<=1000000
 hp:a.heap.length<=1000000
 wh:a.where_.length<=1000000
 at64: ∀w,w<a.heap.length->oA ((a.heap[w]!).1,(a.heap[w]!).2.1)
structure fN (a:aP):Prop where
 so:fS a.slots
 wl:a.where_.length=a.slots.uses.length
 hl:a.heap.length+a.slots.free.length=a.slots.uses.length
 fwd: ∀i,i<a.slots.uses.length->a.slots.used[i]! =true->0<=a.where_[i]!/\a.where_[i]!<a.heap.length/\(Ev.ix a.heap[(a.where_[i]!).toNat]!)=i/\(a.heap[(a.where_[i]!).toNat]!).2.2.2.2=a.slots.uses[i]!
 un: ∀i,i<a.slots.uses.length->a.slots.used[i]! =false->a.where_[i]! = -1
 ev: ∀w,w<a.heap.length->uE a.heap[w]!
 nd: ∀v w,v<w->w<a.heap.length->(Ev.num a.heap[v]!)≠(Ev.num a.heap[w]!)
 ord: ∀k,0<k->k<a.heap.length-> ¬eC a.heap[k]! a.heap[(k-1) / 2]!
theorem aNU: ∀(n:Nat) (l:List Nat),(∀x,x<n->x∈l)->n<=l.length
 |0,_,_=>Nat.zero_le _
 |n+1,l,h=>by
  have hn:=h n (by omega)
  have:=aNU n (l.erase n) (fun x hx=>by
   rw [List.mem_erase_of_ne (by omega)]
   exact h x (by omega))
  rw [List.length_erase_of_mem hn] at this
  have:=List.length_pos_of_mem hn
  omega
def TD (s:aU):List Nat:=(List.range s.uses.length).filter fun i=>s.used[i]!
theorem GT {s:aU} {i:Nat}:i∈TD s↔i<s.uses.length/\s.used[i]! =true:=by
 unfold TD;rw [dv,List.mem_range]
theorem GU {α β:Type} {f:α->β}: ∀{l:List α},l.Nodup->(∀x∈l,∀y∈l,f x=f y->x=y)->(l.map f).Nodup
 | [],_,_=>by simp
 |a::l,h,hf=>by
  rw [bu] at h;rw [List.map_cons,bu];refine ⟨?_,GU h.2 fun x hx y hy=>hf x (by simp [hx]) y (by simp [hy])⟩
  intro hm;obtain ⟨b,hb,e⟩:=be.1 hm
  have:=hf b (by simp [hb]) a (by simp) e
  subst this;exact h.1 hb
theorem fN.back {a:aP} (ok:fN a) {w:Nat} (hw:w<a.heap.length):0<=(Ev.ix a.heap[w]!)/\(Ev.ix a.heap[w]!)<a.slots.uses.length/\a.slots.used[(Ev.n a.heap[w]!)]! =true/\a.slots.uses[(Ev.n a.heap[w]!)]! =(a.heap[w]!).2.2.2.2/\a.where_[(Ev.n a.heap[w]!)]! =(w:Int):=by
 have so:=ok.so;have len:a.slots.uses.length<=(TD a.slots).length+a.slots.free.length:=by
  have:=aNU a.slots.uses.length (TD a.slots++a.slots.free.map d6) (fun x hx=>by
   rw [cy]
   by_cases hu:a.slots.used[x]! =true
   · exact .inl (GT.2 ⟨hx,hu⟩)
   right
   have:=so.uf x hx
   have hm:(x:Int)∈a.slots.free:=ar fun hc=>hu (this.2 hc)
   exact be.2 ⟨_,hm,by omega⟩)
  rw [List.length_append,bv] at this;exact this
 have f0: ∀i∈TD a.slots,0<=a.where_[i]!/\a.where_[i]!<a.heap.length/\(Ev.ix a.heap[(a.where_[i]!).toNat]!)=i/\(a.heap[(a.where_[i]!).toNat]!).2.2.2.2=a.slots.uses[i]!:=fun i hi=>ok.fwd i (GT.1 hi).1 (GT.1 hi).2
 have full:=MY (n:=a.heap.length) (l:=(TD a.slots).map fun i=>(a.where_[i]!).toNat) (by
  refine GU ?_ ?_
  · exact List.Pairwise.filter _ List.nodup_range
  · intro x hx y hy he
    have h1:=(f0 x hx).2.2.1;have h2:=(f0 y hy).2.2.1;rw [he] at h1
    omega) (by
  intro x hx;obtain ⟨i,hi,rfl⟩:=be.1 hx
  have:=f0 i hi
  omega) (by
  rw [bv]
  have:=ok.hl
  omega) w hw
 obtain ⟨i,hi,e⟩:=be.1 full;obtain ⟨c1,c2,c3,c4⟩:=f0 i hi;obtain ⟨d1,d2⟩:=GT.1 hi;rw [e] at c3 c4;have hn:(Ev.n a.heap[w]!)=i:=by show ((Ev.ix a.heap[w]!)).toNat=i;omega
 rw [hn];refine ⟨by omega,by omega,d2,c4.symm,by omega⟩
noncomputable def aBe (x y:Ev):Int:=if bQ (x.1,x.2.1)/\bQ (y.1,y.2.1) then P4 x y else lJ x.2.2.1 y.2.2.1
theorem IW {x y:Ev} (hx:oA (x.1,x.2.1)) (hy:oA (y.1,y.2.1)):cO x y=some (aBe x y):=by
 unfold cO aBe P4;rw [LZ hx hy]
 by_cases h:bQ (x.1,x.2.1)/\bQ (y.1,y.2.1)
 · rw [if_pos h,if_pos h]
   simp only [aB,mD,GQ]
 rw [if_neg h,if_neg h]
 simp only [aB,mD,GQ];simp
def QB (a:aP) (i:Nat):Prop:=(a.slots.used[i]! =true->0<=a.where_[i]!/\a.where_[i]!<a.heap.length/\(Ev.ix a.heap[(a.where_[i]!).toNat]!)=i/\(a.heap[(a.where_[i]!).toNat]!).2.2.2.2=a.slots.uses[i]!)/\(a.slots.used[i]! =false->a.where_[i]! = -1)
def RW (H:List Ev) (k:Nat):Prop:=bQ ((H[k]!).1,(H[k]!).2.1)/\0<=(H[k]!).2.2.1/\(H[k]!).2.2.1<=1000000/\(∀j,j<k->(H[j]!).2.2.1≠(H[k]!).2.2.1)/\(0<k-> ¬aBe H[k]! H[(k-1) / 2]!<0)
theorem fN.of {a:aP} (fit:FU a) (so:fS a.slots) (wl:a.where_.length=a.slots.uses.length) (hl:a.heap.length+a.slots.free.length=a.slots.uses.length) (wh: ∀i,i<a.slots.uses.length->QB a i) (hp: ∀k,k<a.heap.length->RW a.heap k):fN a:=by
 have ev: ∀w,w<a.heap.length->uE a.heap[w]!:=fun w hw=>⟨(hp w hw).1,fit.at64 w hw,(hp w hw).2.1,(hp w hw).2.2.1⟩
 refine ⟨so,wl,hl,fun i hi=>(wh i hi).1,fun i hi=>(wh i hi).2,ev,fun v w hv hw=>(hp w hw).2.2.2.1 v hv,fun k k0 hk=>?_⟩
 have:=(hp k hk).2.2.2.2 k0
 unfold aBe at this;rw [if_pos ⟨(hp k hk).1,(hp ((k-1) / 2) (by omega)).1⟩,KE] at this
 exact this
theorem fN.to {a:aP} (ok:fN a):(∀i,i<a.slots.uses.length->QB a i)/\(∀k,k<a.heap.length->RW a.heap k):=by
 refine ⟨fun i hi=>⟨ok.fwd i hi,ok.un i hi⟩,fun k hk=>?_⟩
 have e:=ok.ev k hk;refine ⟨e.1,e.2.2.1,e.2.2.2,fun j hj=>ok.nd j k hj hk,fun k0=>?_⟩
 unfold aBe;rw [if_pos ⟨e.1,(ok.ev ((k-1) / 2) (by omega)).1⟩,KE]
 exact ok.ord k k0 hk
theorem TE (H:List Ev) (k:Nat) (n:Int):rR [n] ((H.take k).map fun x=>[x.2.2.1])=true:=by
 unfold rR;rw [List.all_eq_true];intro x hx;obtain ⟨y,hy,rfl⟩:=be.1 hx;rfl
theorem TF (H:List Ev) (k:Nat) (n:Int):M8 ((H.take k).map fun x=>[x.2.2.1]) [n]=decide (∃j,j<k/\j<H.length/\(H[j]!).2.2.1=n):=by
 unfold M8;rw [Bool.eq_iff_iff,List.any_eq_true,decide_eq_true_iff];constructor
 · rintro ⟨x,hx,he⟩
   obtain ⟨y,hy,rfl⟩:=be.1 hx;obtain ⟨j,h1,h2,rfl⟩:=cJ.1 hy
   have:[n]=[(H[j]!).2.2.1]:=by simpa using he
   exact ⟨j,h1,h2,by injection this with h;exact h.symm⟩
 rintro ⟨j,h1,h2,h3⟩
 refine ⟨[(H[j]!).2.2.1],be.2 ⟨H[j]!,cJ.2 ⟨j,h1,h2,rfl⟩,rfl⟩,?_⟩;rw [h3];simp
theorem VN (H:List Ev) (u fr W:List Int) (us:List Bool) (hl:H.length<=1000000) (r64: ∀w,w<H.length->oA ((H[w]!).1,(H[w]!).2.1)):
 ((∀k,k<H.length->RW H k)->aG kJ (H,(H.length:Int),0,u,us,fr,H,W,[])=some (.done 0))/\(¬(∀k,k<H.length->RW H k)->aG kJ (H,(H.length:Int),0,u,us,fr,H,W,[])=some (.done 8)):=by
 have key:=dS (body:=kJ) (fun k=>(H,(H.length:Int),(k:Int),u,us,fr,H,W,(H.take k).map fun x=>[x.2.2.1])) H.length (fun k=> ¬RW H k) (r:= .done 8) (e:= .done 0) (fun k hk=>by
  have e1:decide ((k:Int)<(H.length:Int))=true:=aH (by omega)
  have ins: ∀n:Int,¬(∃j,j<k/\j<H.length/\(H[j]!).2.2.1=n)->W6 ((H.take k).map fun x=>[x.2.2.1]) [n]=some (((H.take k).map fun x=>[x.2.2.1])++[[n]]):=by
   intro n hn;unfold W6 aAr;rw [TE,TF,dec_f hn];rfl
  have has: ∀n:Int,W5 ((H.take k).map fun x=>[x.2.2.1]) [n]=some (decide (∃j,j<k/\j<H.length/\(H[j]!).2.2.1=n)):=by
   intro n;unfold W5;rw [TE,TF];rfl
  have nx:(H.take (k+1)).map (fun x=>[x.2.2.1])=((H.take k).map fun x=>[x.2.2.1])++[[(H[k]!).2.2.1]]:=by
   rw [iK hk,List.map_append];rfl
  unfold kJ;simp only [e1,cond_true,aC H k hk,aB,dP (r64 k hk),aT (show k<1000000000 by omega),has,nx]
  unfold RW
  by_cases b1:bQ ((H[k]!).1,(H[k]!).2.1)
  case neg=>
   rw [if_neg b1];exact ⟨fun _=>rfl,fun h=>absurd (ae.1 h).1 b1⟩
  rw [if_pos b1]
  by_cases b2:(H[k]!).2.2.1<0
  · rw [aH b2]
    exact ⟨fun _=>rfl,fun h=>absurd (ae.1 h).2.1 (by omega)⟩
  by_cases b3:1000000<(H[k]!).2.2.1
  · rw [dec_f b2,aH b3]
    exact ⟨fun _=>rfl,fun h=>absurd (ae.1 h).2.2.1 (by omega)⟩
  rw [dec_f b2,dec_f b3]
  by_cases b4: ∃j,j<k/\j<H.length/\(H[j]!).2.2.1=(H[k]!).2.2.1
  · rw [aH b4]
    refine ⟨fun _=>rfl,fun h=>?_⟩
    obtain ⟨j,j1,j2,j3⟩:=b4;exact absurd j3 ((ae.1 h).2.2.2.1 j j1)
  rw [dec_f b4,ins _ b4];have b4': ∀j,j<k->(H[j]!).2.2.1≠(H[k]!).2.2.1:=fun j hj he=>b4 ⟨j,hj,by omega,he⟩
  simp only [show ((0:Int) !=0)=false from rfl,cond_false,aB]
  by_cases b5:0<k
  · obtain ⟨m,rfl⟩: ∃m,k=m+1:=⟨k-1,by omega⟩
    have f1:decide ((0:Int)<((m+1:Nat):Int))=true:=aH (by omega)
    simp only [f1,cond_true,wX (show m<1000000000 by omega),aC H (m / 2) (by omega),aB,IW (r64 (m+1) hk) (r64 (m / 2) (by omega)),show (m+1-1) / 2=m / 2 by omega]
    by_cases b6:aBe H[m+1]! H[m / 2]!<0
    · rw [aH b6]
      exact ⟨fun _=>rfl,fun h=>absurd b6 ((ae.1 h).2.2.2.2 (by omega))⟩
    rw [dec_f b6]
    exact ⟨fun h=>absurd ⟨b1,by omega,by omega,b4',fun _=>b6⟩ h,fun _=>rfl⟩
  · have f1:decide ((0:Int)<(k:Int))=false:=dec_f (by omega)
    rw [f1];exact ⟨fun h=>absurd ⟨b1,by omega,by omega,b4',fun h=>absurd h b5⟩ h,fun _=>rfl⟩) (by
  unfold kJ
  have:decide ((H.length:Int)<(H.length:Int))=false:=dec_f (by omega)
  simp only [this,cond_false])
 constructor
 · intro h
   exact key.2 fun i hi=>ae.2 (h i hi)
 intro h
 obtain ⟨i,h⟩:=ao.1 h;obtain ⟨hi,hx⟩:=bo.1 h;exact key.1 ⟨i,hi,hx⟩
end Go.Proofs.YtlnclppkepgdmaaGreat
