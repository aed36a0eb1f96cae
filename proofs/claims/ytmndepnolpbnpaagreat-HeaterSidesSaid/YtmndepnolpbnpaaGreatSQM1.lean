/- Plain laws (1). -/
import Derived.Test.YtmndepnolpbnpaaGreatSVm3
import Derived.Test.YtmndepnolpbnpaaGreatSVm1
import Derived.Test.YtmndepnolpbnpaaGreatSQS1
open List renaming length_set->pm,mem_map->EQ,nodup_cons->PP,length_map->UV,getElem?_eq_getElem->ab5,length_take->ab7,mem_of_mem_take->abb,set_set->abF,length_cons->abI,mem_filter->abN,mem_cons->abR,length->abU
open Int renaming ofNat->pp,tdiv->ww,mul_le_mul_of_nonneg_right->AC,mul_neg_of_neg_of_pos->If,eq_ofNat_of_zero_le->IR,neg_mul->NE,mul_comm->aa7,mul_lt_mul_of_pos_right->aag,fdiv_eq_ediv_of_nonneg->aah,mul_le_mul->aaj,tdiv_eq_ediv_of_nonneg->aau,lt_of_mul_lt_mul_right->ab1,lt_trichotomy->ab2,mul_nonneg->ab9,natCast_mul->abM,ofNat_tmod->abO,ofNat_tdiv->abP,mul_assoc->abQ,toNat->abS
open Classical renaming not_not->rc,byContradiction->v6,not_forall->wn,not_imp->ab4
open Option.some renaming injEq->ut
open Nat renaming gcd->v4,gcd_comm->M2,gcd_dvd_right->ab3,gcd_pos_of_pos_right->ab6,le_refl->ab8,mul_div_cancel'->abm,gcd_zero_right->abD,gcd_dvd_left->abG,strongRecOn->abK,div_le_self->abL,le_trans->abT
open Prod.mk renaming injEq->Do
open Bool renaming not_false->ab0,or_eq_false_iff->abk,not_true->abx,false_eq_true->abE,not_eq_true->abH,true->abX,false->abY
open Option renaming some->abV,none->abW
open Decidable renaming decide->abZ
namespace Go.Vm
instance lpN:LP:=⟨abW⟩
section
variable {σ ρ : Type}
theorem j9 {body:σ->Option (Step σ ρ)} {x:σ} {r:ρ}:ax body x=abV r↔ ∃n,jY body n x=abV r:=zx
theorem aT {body:σ->Option (Step σ ρ)} {x y:σ} (h:body x=abV (.next y)):ax body x=ax body y:=by
 apply Option.ext;intro r;rw [j9,j9];constructor
 · rintro ⟨n,hn⟩
   cases n with
   |zero=>cases hn
   |succ n=>simp only [jY,h] at hn;exact ⟨n,hn⟩
 rintro ⟨n,hn⟩
 exact ⟨n+1,by simp only [jY,h];exact hn⟩
theorem aF {body:σ->Option (Step σ ρ)} {x:σ} {r:ρ} (h:body x=abV (.done r)):ax body x=abV r:=
 j9.2 ⟨1,by simp only [jY,h]⟩
theorem Gr {body:σ->Option (Step σ ρ)} {x:σ} (h:body x=abW):ax body x=abW:=by
 cases hw:ax body x with
 |none=>rfl
 |some r=>
  obtain ⟨n,hn⟩:=j9.1 hw;cases n with
  |zero=>cases hn
  |succ n=>simp only [jY,h] at hn;cases hn
theorem Dt (body:σ->Option (Step σ ρ)) (x:σ):ax body x=match body x with|some (.next y)=>ax body y|some (.done r)=>abV r|none=>abW:=by
 split
 · rename_i h;exact aT h
 · rename_i h;exact aF h
 rename_i h;exact Gr h
end
end Go.Vm
namespace Go.Proofs.YtmndepnolpbnpaaGreat
open Go.Vm
noncomputable def wE (p0:Field):Option Field:=
 (bD p0.am).bind fun l0=>
 abV (Field.mk l0)
noncomputable def rR (p0:aZ):Option aZ:=
 (bD p0.ce).bind fun l0=>
 abV (aZ.mk p0.aL l0)
noncomputable def oE (p0:aO):Option aO:=
 (bD p0.aC).bind fun l0=>
 (bD p0.be).bind fun l1=>
 (bD p0.bi).bind fun l2=>
 abV (aO.mk l0 l1 l2)
noncomputable def lV (p0:aJ):Option aJ:=
 (oE p0.af).bind fun r0=>
 (bD p0.bv).bind fun l1=>
 (bD p0.ay).bind fun l2=>
 abV (aJ.mk r0 l1 l2)
noncomputable def lW (p0:aK):Option aK:=
 (wE p0.dl).bind fun r0=>
 (rR p0.ai).bind fun r1=>
 (lV p0.ae).bind fun r2=>
 (bD p0.ii).bind fun l3=>
 abV (aK.mk p0.ci r0 r1 r2 l3)
noncomputable def dT (s:(Int×Int×Int×(List (Int×Int×Int))×Int×Int×Int)):Option (Step (Int×Int×Int×(List (Int×Int×Int))×Int×Int×Int) (Step (Int×Int×(List (Int×Int×Int))) Int)):=
 bif abZ (s.2.1<s.1) then
  (aA s.2.2.2.1 s.2.1).bind fun a0=>
  bif (a0.2.1==s.2.2.2.2.2.1)&&(a0.2.2==s.2.2.2.2.2.2) then
   abV (.done (.done 8))
  else
   abV (.next (s.1,aa .i64 (s.2.1+1),s.2.2))
 else
  abV (.done (.next (aa .i64 (s.1+1),s.2.2.1,s.2.2.2.1)))
noncomputable def k8 (s:(Int×Int×(List (Int×Int×Int)))):Option (Step (Int×Int×(List (Int×Int×Int))) Int):=
 bif abZ (s.1<(pp (abU s.2.2))) then
  (aA s.2.2 s.1).bind fun a0=>
  (lS a0.2).bind fun b1=>
  bif !b1 then
   abV (.done 8)
  else
   bif abZ (a0.1<0) then
    abV (.done 8)
   else
    bif abZ (s.2.1<=a0.1) then
     abV (.done 8)
    else
     bif abZ (0<s.1) then
      (aA s.2.2 (aa .i64 (s.1-1))).bind fun a2=>
      bif abZ (a0.1<=a2.1) then
       abV (.done 8)
      else
       ax dT (s.1,0,s.2.1,s.2.2,a0)
     else
      ax dT (s.1,0,s.2.1,s.2.2,a0)
 else
  abV (.done 0)
noncomputable def tQ (p0:aZ):Option Int:=
 bif abZ (200<(pp (abU p0.ce))) then
  abV 8
 else
  bif abZ (p0.aL<0) then
   abV 8
  else
   bif abZ (1000000<p0.aL) then
    abV 8
   else
    ax k8 (0,p0.aL,p0.ce)
noncomputable def pX (p0:Int×Int) (p1:Int×Int):Option Int:=
 (gz p0.1 p1.2).bind fun a0=>
 (gz p1.1 p0.2).bind fun a1=>
 (hO a0).bind fun n2=>
 (hO a1).bind fun n3=>
 bif n2 !=n3 then
  (hO a0).bind fun n4=>
  (hO a1).bind fun n5=>
  bif abZ (n4<n5) then
   abV (-1)
  else
   abV 1
 else
  (hO a0).bind fun n6=>
  bif abZ (n6<0) then
   (lT a1 a0).bind fun n7=>
   abV n7
  else
   (lT a0 a1).bind fun n8=>
   abV n8
noncomputable def eo (p0:Int×Int×Int×Int×Int) (p1:Int×Int×Int×Int×Int):Option Bool:=
 (pX (p0.1,p0.2.1) (p1.1,p1.2.1)).bind fun n0=>
 bif abZ (n0<0) then
  abV abX
 else
  bif n0==0 then
   abV (abZ (p0.2.2.1<p1.2.2.1))
  else
   abV abY
noncomputable def oF (p0:Bool) (p1:Bool×Int×Int) (p2:Bool×Int×Int):Option ((Int×Int)×Int):=
 bif abZ (0<p1.2.1) then
  abV ((0,0),16)
 else
  bif abZ (9223372036854775807<p1.2.2) then
   abV ((0,0),16)
  else
   bif abZ (0<p2.2.1) then
    abV ((0,0),16)
   else
    bif abZ (9223372036854775807<p2.2.2) then
     abV ((0,0),16)
    else
     bif p0 then
      abV ((aa .i64 (0- (aa .i64 p1.2.2)),aa .i64 p2.2.2),0)
     else
      abV ((aa .i64 p1.2.2,aa .i64 p2.2.2),0)
noncomputable def jN (p0:Int) (p1:Int):Option ((Int×Int)×Int):=
 bif p1==0 then
  abV ((0,0),26)
 else
  (eY p0).bind fun n0=>
  (eY p1).bind fun n1=>
  (kT n0 n1).bind fun n2=>
  bif !((abZ (p0<0))==(abZ (p1<0))) then
   (eY p0).bind fun n3=>
   bif n2==0 then
    abW
   else
    (eY p1).bind fun n4=>
    bif n2==0 then
     abW
    else
     (oF (p0 !=0) (abY,0,aa .u64 (ww n3 n2)) (abY,0,aa .u64 (ww n4 n2))).bind fun a5=>
     abV a5
  else
   (eY p0).bind fun n6=>
   bif n2==0 then
    abW
   else
    (eY p1).bind fun n7=>
    bif n2==0 then
     abW
    else
     (oF abY (abY,0,aa .u64 (ww n6 n2)) (abY,0,aa .u64 (ww n7 n2))).bind fun a8=>
     abV a8
noncomputable def y4 (p0:Int×Int×Int) (p1:Int×Int×Int):Option (Int×Int):=
 (jN (aa .i64 (p0.2.1-p1.2.1)) (aa .i64 (p1.2.2-p0.2.2))).bind fun a0=>
 abV a0.1
noncomputable def pY (p0:Int×Int×Int) (p1:Int×Int×Int) (p2:Int×Int):Option ((Int×Int)×Bool):=
 (m8 p1 p0 p2).bind fun b0=>
 bif b0 then
  abV (p2,abX)
 else
  bif abZ (p0.2.2<p1.2.2) then
   (y4 p0 p1).bind fun a1=>
   abV (a1,abX)
  else
   abV ((0,0),abY)
noncomputable def rS (p0:Field) (p1:Int×Int) (p2:Int×Int):Option ((Int×Int)×Bool):=
 (eK p0 p1.2).bind fun n0=>
 (aA p0.am n0).bind fun a1=>
 (eK p0 p1.1).bind fun n2=>
 (aA p0.am n2).bind fun a3=>
 (pY a1 a3 p2).bind fun a4=>
 abV a4
noncomputable def y5 (s:(Int×Int×Int×(List (Int×Int×Int))×Int×Int×(List (Int×Int×Int)))):Option (Step (Int×Int×Int×(List (Int×Int×Int))×Int×Int×(List (Int×Int×Int))) aZ):=
 bif abZ (s.2.1<(pp (abU s.2.2.2.1))) then
  (aA s.2.2.2.1 s.2.1).bind fun a0=>
  bif a0.1 !=s.1 then
   (aA s.2.2.2.1 s.2.1).bind fun a1=>
   (aX s.2.2.2.2.2.2 [a1]).bind fun l2=>
   abV (.next (s.1,aa .i64 (s.2.1+1),s.2.2.1,s.2.2.2.1,s.2.2.2.2.1,s.2.2.2.2.2.1,l2))
  else
   abV (.next (s.1,aa .i64 (s.2.1+1),s.2.2))
 else
  abV (.done (aZ.mk s.2.2.2.2.2.1 s.2.2.2.2.2.2))
noncomputable def CD (p0:aZ) (p1:Int):Option aZ:=
 ax y5 (p1,0,p0.aL,p0.ce,0,p0.aL,[])
noncomputable def BW (s:(Int×Int×Int×Int×(List (Int×Int×Int))×Int×(List (Int×Int×Int))×(List Int)×(List Bool)×(List Int)×(List (Int×Int×Int×Int×Int))×(List Int)×(List (Int×Int×Int)))):Option (Step (Int×Int×Int×Int×(List (Int×Int×Int))×Int×(List (Int×Int×Int))×(List Int)×(List Bool)×(List Int)×(List (Int×Int×Int×Int×Int))×(List Int)×(List (Int×Int×Int))) Int):=
 bif abZ (s.2.1<(pp (abU s.2.2.2.2.2.2.2.2.2.2.2.2))) then
  (aA s.2.2.2.2.2.2.2.2.2.2.2.2 s.2.1).bind fun a0=>
  bif a0.1==s.1 then
   abV (.done s.2.1)
  else
   abV (.next (s.1,aa .i64 (s.2.1+1),s.2.2))
 else
  abV (.done (-1))
noncomputable def zL (p0:aK) (p1:Int):Option Int:=
 ax BW (p1,0,p0.ci.1,p0.ci.2,p0.dl.am,p0.ai.aL,p0.ai.ce,p0.ae.af.aC,p0.ae.af.be,p0.ae.af.bi,p0.ae.bv,p0.ae.ay,p0.ii)
noncomputable def zM (p0:aO) (p1:Int×Int):Option aO:=
 (oE p0).bind fun r0=>
 (aA r0.be p1.1).bind fun b1=>
 (aX r0.bi [p1.1]).bind fun l2=>
 abV (aO.mk r0.aC (bA r0.be p1.1 abY) l2)
noncomputable def gV (a:(Int×Int×(List Int)×(List Bool)×(List Int)×(List (Int×Int×Int×Int×Int))×(List Int))):Option ((List Int)×(List Bool)×(List Int)×(List (Int×Int×Int×Int×Int))×(List Int)):=
 (aA a.2.2.2.2.2.1 a.2.1).bind fun a0=>
 (aA a.2.2.2.2.2.1 a.1).bind fun a1=>
 (aA a.2.2.2.2.2.1 a.1).bind fun a2=>
 (aA (bA a.2.2.2.2.2.1 a.1 a0) a.2.1).bind fun a3=>
 (aA (bA (bA a.2.2.2.2.2.1 a.1 a0) a.2.1 a1) a.1).bind fun a4=>
 (aA (bA (bA a.2.2.2.2.2.1 a.1 a0) a.2.1 a1) a.2.1).bind fun a5=>
 (aA a.2.2.2.2.2.2 a4.2.2.2.1).bind fun n6=>
 (aA (bA a.2.2.2.2.2.2 a4.2.2.2.1 a.1) a5.2.2.2.1).bind fun n7=>
 bif (abU a.2.2.1)==(abU a.2.2.1) then
  bif (abU a.2.2.2.1)==(abU a.2.2.2.1) then
   bif (abU a.2.2.2.2.1)==(abU a.2.2.2.2.1) then
    bif ((bA (bA a.2.2.2.2.2.1 a.1 a0) a.2.1 a1).length)==(abU a.2.2.2.2.2.1) then
     bif ((bA (bA a.2.2.2.2.2.2 a4.2.2.2.1 a.1) a5.2.2.2.1 a.2.1).length)==(abU a.2.2.2.2.2.2) then
      abV (a.2.2.1,a.2.2.2.1,a.2.2.2.2.1,bA (bA a.2.2.2.2.2.1 a.1 a0) a.2.1 a1,bA (bA a.2.2.2.2.2.2 a4.2.2.2.1 a.1) a5.2.2.2.1 a.2.1)
     else
      abW
    else
     abW
   else
    abW
  else
   abW
 else
  abW
noncomputable def jk (a:((List Int)×(List Bool)×(List Int)×Nat×Nat×Int×Int×(List (Int×Int×Int×Int×Int))×(List Int))):Option ((List (Int×Int×Int×Int×Int))×(List Int)):=
 (aA (a.2.2.2.2.2.2.2.1.take a.2.2.2.1) a.2.2.2.2.2.2.1).bind fun a0=>
 (aA (a.2.2.2.2.2.2.2.1.take a.2.2.2.1) a.2.2.2.2.2.1).bind fun a1=>
 (aA (a.2.2.2.2.2.2.2.1.take a.2.2.2.1) a.2.2.2.2.2.1).bind fun a2=>
 (aA ((bA a.2.2.2.2.2.2.2.1 a.2.2.2.2.2.1 a0).take a.2.2.2.1) a.2.2.2.2.2.2.1).bind fun a3=>
 (aA ((bA (bA a.2.2.2.2.2.2.2.1 a.2.2.2.2.2.1 a0) a.2.2.2.2.2.2.1 a1).take a.2.2.2.1) a.2.2.2.2.2.1).bind fun a4=>
 (aA ((bA (bA a.2.2.2.2.2.2.2.1 a.2.2.2.2.2.1 a0) a.2.2.2.2.2.2.1 a1).take a.2.2.2.1) a.2.2.2.2.2.2.1).bind fun a5=>
 (aA a.2.2.2.2.2.2.2.2 a4.2.2.2.1).bind fun n6=>
 (aA (bA a.2.2.2.2.2.2.2.2 a4.2.2.2.1 a.2.2.2.2.2.1) a5.2.2.2.1).bind fun n7=>
 bif ((bA (bA a.2.2.2.2.2.2.2.1 a.2.2.2.2.2.1 a0) a.2.2.2.2.2.2.1 a1).length)==(abU a.2.2.2.2.2.2.2.1) then
  bif ((bA (bA a.2.2.2.2.2.2.2.2 a4.2.2.2.1 a.2.2.2.2.2.1) a5.2.2.2.1 a.2.2.2.2.2.2.1).length)==(abU a.2.2.2.2.2.2.2.2) then
   abV (bA (bA a.2.2.2.2.2.2.2.1 a.2.2.2.2.2.1 a0) a.2.2.2.2.2.2.1 a1,bA (bA a.2.2.2.2.2.2.2.2 a4.2.2.2.1 a.2.2.2.2.2.1) a5.2.2.2.1 a.2.2.2.2.2.2.1)
  else
   abW
 else
  abW
noncomputable def xM (c0:((List Int)×(List Bool)×(List Int)×Nat×Nat×Int×(List (Int×Int×Int×Int×Int))×(List Int))) (s:(Int×(List (Int×Int×Int×Int×Int))×(List Int)×(List Int)×(List Bool)×(List Int)×Nat×Nat)):Option (Step (Int×(List (Int×Int×Int×Int×Int))×(List Int)×(List Int)×(List Bool)×(List Int)×Nat×Nat) (Int×(List (Int×Int×Int×Int×Int))×(List Int))):=
 bif abZ (0<s.1) then
  (aA (s.2.1.take s.2.2.2.2.2.2.1) s.1).bind fun a0=>
  (aA (s.2.1.take s.2.2.2.2.2.2.1) (aa .i64 (ww (aa .i64 (s.1-1)) 2))).bind fun a1=>
  (eo a0 a1).bind fun b2=>
  bif b2 then
   (jk (s.2.2.2.1,s.2.2.2.2.1,s.2.2.2.2.2.1,s.2.2.2.2.2.2.1,s.2.2.2.2.2.2.2,s.1,aa .i64 (ww (aa .i64 (s.1-1)) 2),s.2.1,s.2.2.1)).bind fun a3=>
   abV (.next (aa .i64 (ww (aa .i64 (s.1-1)) 2),a3.1,a3.2,s.2.2.2))
  else
   bif (abU s.2.1)==(abU c0.2.2.2.2.2.2.1) then
    bif (abU s.2.2.1)==(abU c0.2.2.2.2.2.2.2) then
     abV (.done (s.1,s.2.1,s.2.2.1))
    else
     abW
   else
    abW
 else
  bif (abU s.2.1)==(abU c0.2.2.2.2.2.2.1) then
   bif (abU s.2.2.1)==(abU c0.2.2.2.2.2.2.2) then
    abV (.done (s.1,s.2.1,s.2.2.1))
   else
    abW
  else
   abW
noncomputable def tR (a:((List Int)×(List Bool)×(List Int)×Nat×Nat×Int×(List (Int×Int×Int×Int×Int))×(List Int))):Option (Int×(List (Int×Int×Int×Int×Int))×(List Int)):=
 ax (xM a) (a.2.2.2.2.2.1,a.2.2.2.2.2.2.1,a.2.2.2.2.2.2.2,a.1,a.2.1,a.2.2.1,a.2.2.2.1,a.2.2.2.2.1)
noncomputable def uX (c0:((List Int)×(List Bool)×(List Int)×Nat×Nat×Int×(List (Int×Int×Int×Int×Int))×(List Int))) (s:(Int×(List (Int×Int×Int×Int×Int))×(List Int)×(List Int)×(List Bool)×(List Int)×Nat×Nat)):Option (Step (Int×(List (Int×Int×Int×Int×Int))×(List Int)×(List Int)×(List Bool)×(List Int)×Nat×Nat) ((List (Int×Int×Int×Int×Int))×(List Int))):=
 match s with
 |(a,b,d,e,f,g,h,i)=>
  bif abZ ((pp h)<=(aa .i64 ((aa .i64 (2*a))+1))) then
   bif (abU b)==(abU c0.2.2.2.2.2.2.1) then
    bif (abU d)==(abU c0.2.2.2.2.2.2.2) then
     abV (.done (b,d))
    else
     abW
   else
    abW
  else
   bif abZ ((aa .i64 ((aa .i64 ((aa .i64 (2*a))+1))+1))<(pp h)) then
    (aA (b.take h) (aa .i64 ((aa .i64 ((aa .i64 (2*a))+1))+1))).bind fun a0=>
    (aA (b.take h) (aa .i64 ((aa .i64 (2*a))+1))).bind fun a1=>
    (eo a0 a1).bind fun b2=>
    bif b2 then
     (aA (b.take h) (aa .i64 ((aa .i64 ((aa .i64 (2*a))+1))+1))).bind fun a3=>
     (aA (b.take h) a).bind fun a4=>
     (eo a3 a4).bind fun b5=>
     bif !b5 then
      bif (abU b)==(abU c0.2.2.2.2.2.2.1) then
       bif (abU d)==(abU c0.2.2.2.2.2.2.2) then
        abV (.done (b,d))
       else
        abW
      else
       abW
     else
      (jk (e,f,g,h,i,a,aa .i64 ((aa .i64 ((aa .i64 (2*a))+1))+1),b,d)).bind fun a6=>
      abV (.next (aa .i64 ((aa .i64 ((aa .i64 (2*a))+1))+1),a6.1,a6.2,(e,f,g,h,i)))
    else
     (aA (b.take h) (aa .i64 ((aa .i64 (2*a))+1))).bind fun a7=>
     (aA (b.take h) a).bind fun a8=>
     (eo a7 a8).bind fun b9=>
     bif !b9 then
      bif (abU b)==(abU c0.2.2.2.2.2.2.1) then
       bif (abU d)==(abU c0.2.2.2.2.2.2.2) then
        abV (.done (b,d))
       else
        abW
      else
       abW
     else
      (jk (e,f,g,h,i,a,aa .i64 ((aa .i64 (2*a))+1),b,d)).bind fun sB=>
      abV (.next (aa .i64 ((aa .i64 (2*a))+1),sB.1,sB.2,(e,f,g,h,i)))
   else
    (aA (b.take h) (aa .i64 ((aa .i64 (2*a))+1))).bind fun wP=>
    (aA (b.take h) a).bind fun Ey=>
    (eo wP Ey).bind fun b13=>
    bif !b13 then
     bif (abU b)==(abU c0.2.2.2.2.2.2.1) then
      bif (abU d)==(abU c0.2.2.2.2.2.2.2) then
       abV (.done (b,d))
      else
       abW
     else
      abW
    else
     (jk (e,f,g,h,i,a,aa .i64 ((aa .i64 (2*a))+1),b,d)).bind fun Lj=>
     abV (.next (aa .i64 ((aa .i64 (2*a))+1),Lj.1,Lj.2,(e,f,g,h,i)))
noncomputable def qC (a:((List Int)×(List Bool)×(List Int)×Nat×Nat×Int×(List (Int×Int×Int×Int×Int))×(List Int))):Option ((List (Int×Int×Int×Int×Int))×(List Int)):=
 ax (uX a) (a.2.2.2.2.2.1,a.2.2.2.2.2.2.1,a.2.2.2.2.2.2.2,a.1,a.2.1,a.2.2.1,a.2.2.2.1,a.2.2.2.2.1)
noncomputable def mB (p0:aJ) (p1:Int×Int):Option aJ:=
 (lV p0).bind fun r0=>
 (aA r0.ay p1.1).bind fun n1=>
 bif n1 !=(aa .i64 ((pp (abU r0.bv)) -1)) then
  (gV (n1,aa .i64 ((pp (abU r0.bv)) -1),r0.af.aC,r0.af.be,r0.af.bi,r0.bv,r0.ay)).bind fun a2=>
  (gx a2.2.2.2.1 0 (aa .i64 ((pp (abU r0.bv)) -1))).bind fun l3=>
  (aA a2.2.2.2.2 p1.1).bind fun n4=>
  (zM (aO.mk a2.1 a2.2.1 a2.2.2.1) p1).bind fun r5=>
  bif n1 !=(aa .i64 ((pp (abU r0.bv)) -1)) then
   (tR (r5.aC,r5.be,r5.bi,(aa .i64 ((pp (abU r0.bv)) -1)).toNat,abU a2.2.2.2.1,n1,a2.2.2.2.1,bA a2.2.2.2.2 p1.1 (-1))).bind fun a6=>
   (qC (r5.aC,r5.be,r5.bi,(aa .i64 ((pp (abU r0.bv)) -1)).toNat,abU a2.2.2.2.1,a6)).bind fun a7=>
   abV (aJ.mk r5 (a7.1.take ((aa .i64 ((pp (abU r0.bv)) -1)).toNat)) a7.2)
  else
   abV (aJ.mk r5 (a2.2.2.2.1.take ((aa .i64 ((pp (abU r0.bv)) -1)).toNat)) (bA a2.2.2.2.2 p1.1 (-1)))
 else
  (gx r0.bv 0 (aa .i64 ((pp (abU r0.bv)) -1))).bind fun l8=>
  (aA r0.ay p1.1).bind fun n9=>
  (zM r0.af p1).bind fun SY=>
  bif n1 !=(aa .i64 ((pp (abU r0.bv)) -1)) then
   (tR (SY.aC,SY.be,SY.bi,(aa .i64 ((pp (abU r0.bv)) -1)).toNat,abU r0.bv,n1,r0.bv,bA r0.ay p1.1 (-1))).bind fun wP=>
   (qC (SY.aC,SY.be,SY.bi,(aa .i64 ((pp (abU r0.bv)) -1)).toNat,abU r0.bv,wP)).bind fun Ey=>
   abV (aJ.mk SY (Ey.1.take ((aa .i64 ((pp (abU r0.bv)) -1)).toNat)) Ey.2)
  else
   abV (aJ.mk SY (r0.bv.take ((aa .i64 ((pp (abU r0.bv)) -1)).toNat)) (bA r0.ay p1.1 (-1)))
noncomputable def H9 (p0:aK) (p1:Int):Option aK:=
 (lW p0).bind fun r0=>
 (CD p0.ai p1).bind fun r1=>
 (zL p0 p1).bind fun n2=>
 bif abZ (0<=n2) then
  (aA p0.ii n2).bind fun a3=>
  (mB p0.ae a3.2).bind fun r4=>
  (gx p0.ii 0 n2).bind fun l5=>
  (bD l5).bind fun l6=>
  (gx p0.ii (aa .i64 (n2+1)) (pp (abU p0.ii))).bind fun l7=>
  bif l7.isEmpty then
   abV (aK.mk r0.ci r0.dl r1 r4 l6)
  else
   (aX l6 l7).bind fun l8=>
   abV (aK.mk r0.ci r0.dl r1 r4 l8)
 else
  abV (aK.mk r0.ci r0.dl r1 r0.ae r0.ii)
noncomputable def mC (s:(Int×(List (Int×Int×Int))×(List (Int×Int×Int)))):Option (Step (Int×(List (Int×Int×Int))×(List (Int×Int×Int))) Bool):=
 bif abZ (s.1<(pp (abU s.2.1))) then
  (aA s.2.1 s.1).bind fun a0=>
  (aA s.2.2 s.1).bind fun a1=>
  bif !((a0.1==a1.1)&&((a0.2.1==a1.2.1)&&(a0.2.2==a1.2.2))) then
   abV (.done abY)
  else
   abV (.next (aa .i64 (s.1+1),s.2))
 else
  abV (.done abX)
noncomputable def wF (p0:Field) (p1:Field):Option Bool:=
 bif (pp (abU p0.am)) !=(pp (abU p1.am)) then
  abV abY
 else
  ax mC (0,p0.am,p1.am)
noncomputable def xN (c0:(Int×(List Int)×(List Bool)×(List Int)×(List (Int×Int×Int×Int×Int))×(List Int))) (s:(Int×(List Int)×(List Bool)×(List Int)×(List (Int×Int×Int×Int×Int))×(List Int))):Option (Step (Int×(List Int)×(List Bool)×(List Int)×(List (Int×Int×Int×Int×Int))×(List Int)) (Int×(List Int)×(List Bool)×(List Int)×(List (Int×Int×Int×Int×Int))×(List Int))):=
 bif abZ (0<s.1) then
  (aA s.2.2.2.2.1 s.1).bind fun a0=>
  (aA s.2.2.2.2.1 (aa .i64 (ww (aa .i64 (s.1-1)) 2))).bind fun a1=>
  (eo a0 a1).bind fun b2=>
  bif b2 then
   (gV (s.1,aa .i64 (ww (aa .i64 (s.1-1)) 2),s.2)).bind fun a3=>
   abV (.next (aa .i64 (ww (aa .i64 (s.1-1)) 2),a3))
  else
   bif (abU s.2.1)==(abU c0.2.1) then
    bif (abU s.2.2.1)==(abU c0.2.2.1) then
     bif (abU s.2.2.2.1)==(abU c0.2.2.2.1) then
      bif (abU s.2.2.2.2.1)==(abU c0.2.2.2.2.1) then
       bif (abU s.2.2.2.2.2)==(abU c0.2.2.2.2.2) then
        abV (.done s)
       else
        abW
      else
       abW
     else
      abW
    else
     abW
   else
    abW
 else
  bif (abU s.2.1)==(abU c0.2.1) then
   bif (abU s.2.2.1)==(abU c0.2.2.1) then
    bif (abU s.2.2.2.1)==(abU c0.2.2.2.1) then
     bif (abU s.2.2.2.2.1)==(abU c0.2.2.2.2.1) then
      bif (abU s.2.2.2.2.2)==(abU c0.2.2.2.2.2) then
       abV (.done s)
      else
       abW
     else
      abW
    else
     abW
   else
    abW
  else
   abW
noncomputable def BX (a:(Int×(List Int)×(List Bool)×(List Int)×(List (Int×Int×Int×Int×Int))×(List Int))):Option (Int×(List Int)×(List Bool)×(List Int)×(List (Int×Int×Int×Int×Int))×(List Int)):=
 ax (xN a) a
noncomputable def uY (c0:(Int×(List Int)×(List Bool)×(List Int)×(List (Int×Int×Int×Int×Int))×(List Int))) (s:(Int×(List Int)×(List Bool)×(List Int)×(List (Int×Int×Int×Int×Int))×(List Int))):Option (Step (Int×(List Int)×(List Bool)×(List Int)×(List (Int×Int×Int×Int×Int))×(List Int)) ((List Int)×(List Bool)×(List Int)×(List (Int×Int×Int×Int×Int))×(List Int))):=
 bif abZ ((pp (abU s.2.2.2.2.1))<=(aa .i64 ((aa .i64 (2*s.1))+1))) then
  bif (abU s.2.1)==(abU c0.2.1) then
   bif (abU s.2.2.1)==(abU c0.2.2.1) then
    bif (abU s.2.2.2.1)==(abU c0.2.2.2.1) then
     bif (abU s.2.2.2.2.1)==(abU c0.2.2.2.2.1) then
      bif (abU s.2.2.2.2.2)==(abU c0.2.2.2.2.2) then
       abV (.done s.2)
      else
       abW
     else
      abW
    else
     abW
   else
    abW
  else
   abW
 else
  bif abZ ((aa .i64 ((aa .i64 ((aa .i64 (2*s.1))+1))+1))<(pp (abU s.2.2.2.2.1))) then
   (aA s.2.2.2.2.1 (aa .i64 ((aa .i64 ((aa .i64 (2*s.1))+1))+1))).bind fun a0=>
   (aA s.2.2.2.2.1 (aa .i64 ((aa .i64 (2*s.1))+1))).bind fun a1=>
   (eo a0 a1).bind fun b2=>
   bif b2 then
    (aA s.2.2.2.2.1 (aa .i64 ((aa .i64 ((aa .i64 (2*s.1))+1))+1))).bind fun a3=>
    (aA s.2.2.2.2.1 s.1).bind fun a4=>
    (eo a3 a4).bind fun b5=>
    bif !b5 then
     bif (abU s.2.1)==(abU c0.2.1) then
      bif (abU s.2.2.1)==(abU c0.2.2.1) then
       bif (abU s.2.2.2.1)==(abU c0.2.2.2.1) then
        bif (abU s.2.2.2.2.1)==(abU c0.2.2.2.2.1) then
         bif (abU s.2.2.2.2.2)==(abU c0.2.2.2.2.2) then
          abV (.done s.2)
         else
          abW
        else
         abW
       else
        abW
      else
       abW
     else
      abW
    else
     (gV (s.1,aa .i64 ((aa .i64 ((aa .i64 (2*s.1))+1))+1),s.2)).bind fun a6=>
     abV (.next (aa .i64 ((aa .i64 ((aa .i64 (2*s.1))+1))+1),a6))
   else
    (aA s.2.2.2.2.1 (aa .i64 ((aa .i64 (2*s.1))+1))).bind fun a7=>
    (aA s.2.2.2.2.1 s.1).bind fun a8=>
    (eo a7 a8).bind fun b9=>
    bif !b9 then
     bif (abU s.2.1)==(abU c0.2.1) then
      bif (abU s.2.2.1)==(abU c0.2.2.1) then
       bif (abU s.2.2.2.1)==(abU c0.2.2.2.1) then
        bif (abU s.2.2.2.2.1)==(abU c0.2.2.2.2.1) then
         bif (abU s.2.2.2.2.2)==(abU c0.2.2.2.2.2) then
          abV (.done s.2)
         else
          abW
        else
         abW
       else
        abW
      else
       abW
     else
      abW
    else
     (gV (s.1,aa .i64 ((aa .i64 (2*s.1))+1),s.2)).bind fun sB=>
     abV (.next (aa .i64 ((aa .i64 (2*s.1))+1),sB))
  else
   (aA s.2.2.2.2.1 (aa .i64 ((aa .i64 (2*s.1))+1))).bind fun wP=>
   (aA s.2.2.2.2.1 s.1).bind fun Ey=>
   (eo wP Ey).bind fun b13=>
   bif !b13 then
    bif (abU s.2.1)==(abU c0.2.1) then
     bif (abU s.2.2.1)==(abU c0.2.2.1) then
      bif (abU s.2.2.2.1)==(abU c0.2.2.2.1) then
       bif (abU s.2.2.2.2.1)==(abU c0.2.2.2.2.1) then
        bif (abU s.2.2.2.2.2)==(abU c0.2.2.2.2.2) then
         abV (.done s.2)
        else
         abW
       else
        abW
      else
       abW
     else
      abW
    else
     abW
   else
    (gV (s.1,aa .i64 ((aa .i64 (2*s.1))+1),s.2)).bind fun Lj=>
    abV (.next (aa .i64 ((aa .i64 (2*s.1))+1),Lj))
noncomputable def y6 (a:(Int×(List Int)×(List Bool)×(List Int)×(List (Int×Int×Int×Int×Int))×(List Int))):Option ((List Int)×(List Bool)×(List Int)×(List (Int×Int×Int×Int×Int))×(List Int)):=
 ax (uY a) a
noncomputable def CE (p0:aJ) (p1:Int×Int) (p2:Int×Int):Option aJ:=
 (lV p0).bind fun r0=>
 (aA r0.ay p1.1).bind fun n1=>
 (aA r0.bv n1).bind fun a2=>
 (BX (n1,r0.af.aC,r0.af.be,r0.af.bi,bA r0.bv n1 (p2.1,p2.2,a2.2.2),r0.ay)).bind fun a3=>
 (y6 a3).bind fun a4=>
 abV (aJ.mk (aO.mk a4.1 a4.2.1 a4.2.2.1) a4.2.2.2.1 a4.2.2.2.2)
noncomputable def eZ (p0:aO):Option Bool:=
 bif abZ (0<(pp (abU p0.bi))) then
  (aA p0.bi (aa .i64 ((pp (abU p0.bi)) -1))).bind fun n0=>
  (aA p0.aC n0).bind fun n1=>
  abV (abZ (n1<1000000))
 else
  abV abY
noncomputable def tT (p0:aO):Option (aO×(Int×Int)):=
 (oE p0).bind fun r0=>
 (aA r0.bi (aa .i64 ((pp (abU r0.bi)) -1))).bind fun n1=>
 (gx r0.bi 0 (aa .i64 ((pp (abU r0.bi)) -1))).bind fun l2=>
 (aA r0.aC n1).bind fun n3=>
 (aA r0.aC n1).bind fun n4=>
 (aA r0.be n1).bind fun b5=>
 (aA (bA r0.aC n1 (aa .i64 (n3+1))) n1).bind fun n6=>
 abV (aO.mk (bA r0.aC n1 (aa .i64 (n3+1))) (bA r0.be n1 abX) (r0.bi.take ((aa .i64 ((pp (abU r0.bi)) -1)).toNat)),n1,n6)
noncomputable def lX (a:((List Int)×(List Bool)×(List Int)×Int×Int×(List (Int×Int×Int×Int×Int))×(List Int))):Option ((List (Int×Int×Int×Int×Int))×(List Int)):=
 (aA a.2.2.2.2.2.1 a.2.2.2.2.1).bind fun a0=>
 (aA a.2.2.2.2.2.1 a.2.2.2.1).bind fun a1=>
 (aA a.2.2.2.2.2.1 a.2.2.2.1).bind fun a2=>
 (aA (bA a.2.2.2.2.2.1 a.2.2.2.1 a0) a.2.2.2.2.1).bind fun a3=>
 (aA (bA (bA a.2.2.2.2.2.1 a.2.2.2.1 a0) a.2.2.2.2.1 a1) a.2.2.2.1).bind fun a4=>
 (aA (bA (bA a.2.2.2.2.2.1 a.2.2.2.1 a0) a.2.2.2.2.1 a1) a.2.2.2.2.1).bind fun a5=>
 (aA a.2.2.2.2.2.2 a4.2.2.2.1).bind fun n6=>
 (aA (bA a.2.2.2.2.2.2 a4.2.2.2.1 a.2.2.2.1) a5.2.2.2.1).bind fun n7=>
 bif ((bA (bA a.2.2.2.2.2.1 a.2.2.2.1 a0) a.2.2.2.2.1 a1).length)==(abU a.2.2.2.2.2.1) then
  bif ((bA (bA a.2.2.2.2.2.2 a4.2.2.2.1 a.2.2.2.1) a5.2.2.2.1 a.2.2.2.2.1).length)==(abU a.2.2.2.2.2.2) then
   abV (bA (bA a.2.2.2.2.2.1 a.2.2.2.1 a0) a.2.2.2.2.1 a1,bA (bA a.2.2.2.2.2.2 a4.2.2.2.1 a.2.2.2.1) a5.2.2.2.1 a.2.2.2.2.1)
  else
   abW
 else
  abW
noncomputable def eU (c0:((List Int)×(List Bool)×(List Int)×Int×(List (Int×Int×Int×Int×Int))×(List Int))) (s:(Int×(List (Int×Int×Int×Int×Int))×(List Int)×(List Int)×(List Bool)×(List Int))):Option (Step (Int×(List (Int×Int×Int×Int×Int))×(List Int)×(List Int)×(List Bool)×(List Int)) (Int×(List (Int×Int×Int×Int×Int))×(List Int))):=
 bif abZ (0<s.1) then
  (aA s.2.1 s.1).bind fun a0=>
  (aA s.2.1 (aa .i64 (ww (aa .i64 (s.1-1)) 2))).bind fun a1=>
  (eo a0 a1).bind fun b2=>
  bif b2 then
   (lX (s.2.2.2.1,s.2.2.2.2.1,s.2.2.2.2.2,s.1,aa .i64 (ww (aa .i64 (s.1-1)) 2),s.2.1,s.2.2.1)).bind fun a3=>
   abV (.next (aa .i64 (ww (aa .i64 (s.1-1)) 2),a3.1,a3.2,s.2.2.2))
  else
   bif (abU s.2.1)==(abU c0.2.2.2.2.1) then
    bif (abU s.2.2.1)==(abU c0.2.2.2.2.2) then
     abV (.done (s.1,s.2.1,s.2.2.1))
    else
     abW
   else
    abW
 else
  bif (abU s.2.1)==(abU c0.2.2.2.2.1) then
   bif (abU s.2.2.1)==(abU c0.2.2.2.2.2) then
    abV (.done (s.1,s.2.1,s.2.2.1))
   else
    abW
  else
   abW
noncomputable def oG (a:((List Int)×(List Bool)×(List Int)×Int×(List (Int×Int×Int×Int×Int))×(List Int))):Option (Int×(List (Int×Int×Int×Int×Int))×(List Int)):=
 ax (eU a) (a.2.2.2.1,a.2.2.2.2.1,a.2.2.2.2.2,a.1,a.2.1,a.2.2.1)
noncomputable def dt (p0:aJ) (p1:Int×Int) (p2:Int):Option (aJ×(Int×Int)):=
 (lV p0).bind fun r0=>
 (tT r0.af).bind fun a1=>
 (aX r0.bv [(p1.1,p1.2,p2,a1.2)]).bind fun l2=>
 (aA r0.ay a1.2.1).bind fun n3=>
 (oG (a1.1.aC,a1.1.be,a1.1.bi,aa .i64 ((pp (abU l2)) -1),l2,bA r0.ay a1.2.1 (aa .i64 ((pp (abU l2)) -1)))).bind fun a4=>
 abV (aJ.mk a1.1 a4.2.1 a4.2.2,a1.2)
noncomputable def y7 (s:(Int×Int×Int×(List (Int×Int×Int))×Int×(List (Int×Int×Int))×(List Int)×(List Bool)×(List Int)×(List (Int×Int×Int×Int×Int))×(List Int)×(List (Int×Int×Int))×(List (Int×Int×Int))×Int×Int×Int×Int×Int×(List (Int×Int×Int))×Int×(List (Int×Int×Int))×(List Int)×(List Bool)×(List Int)×(List (Int×Int×Int×Int×Int))×(List Int)×(List (Int×Int×Int)))):Option (Step (Int×Int×Int×(List (Int×Int×Int))×Int×(List (Int×Int×Int))×(List Int)×(List Bool)×(List Int)×(List (Int×Int×Int×Int×Int))×(List Int)×(List (Int×Int×Int))×(List (Int×Int×Int))×Int×Int×Int×Int×Int×(List (Int×Int×Int))×Int×(List (Int×Int×Int))×(List Int)×(List Bool)×(List Int)×(List (Int×Int×Int×Int×Int))×(List Int)×(List (Int×Int×Int))) (aK×Int)):=
 match s with
 |(a,b,d,e,f,g,h,i,j,k,l,m,n,o,q,r,t,u,v,w,x,y,z,A,B,C,D)=>
  bif abZ (a<(pp (abU g))) then
   (aA g a).bind fun a0=>
   (zL (aK.mk (b,d) (Field.mk e) (aZ.mk f g) (aJ.mk (aO.mk h i j) k l) m) a0.1).bind fun n1=>
   (rS (Field.mk n) a0.2 (b,d)).bind fun a2=>
   bif a2.2 then
    bif abZ (0<=n1) then
     (aA m n1).bind fun a3=>
     (CE (aJ.mk (aO.mk y z A) B C) a3.2 a2.1).bind fun r4=>
     (aA m n1).bind fun a5=>
     (aX D [a5]).bind fun l6=>
     bif !a2.2 then
      bif abZ (0<=n1) then
       (aA m n1).bind fun a7=>
       (mB r4 a7.2).bind fun r8=>
       bif !a2.2 then
        abV (.next (aa .i64 (a+1),b,d,e,f,g,h,i,j,k,l,m,n,o,q,r,t,u,v,w,x,r8.af.aC,r8.af.be,r8.af.bi,r8.bv,r8.ay,l6))
       else
        bif abZ (0<=n1) then
         abV (.next (aa .i64 (a+1),b,d,e,f,g,h,i,j,k,l,m,n,o,q,r,t,u,v,w,x,r8.af.aC,r8.af.be,r8.af.bi,r8.bv,r8.ay,l6))
        else
         (eZ r8.af).bind fun b9=>
         bif !b9 then
          abV (.done (aK.mk (0,0) (Field.mk []) (aZ.mk 0 []) (aJ.mk (aO.mk [] [] []) [] []) [],18))
         else
          (dt r8 a2.1 a0.1).bind fun sB=>
          (aX l6 [(a0.1,sB.2)]).bind fun l11=>
          abV (.next (aa .i64 (a+1),b,d,e,f,g,h,i,j,k,l,m,n,o,q,r,t,u,v,w,x,sB.1.af.aC,sB.1.af.be,sB.1.af.bi,sB.1.bv,sB.1.ay,l11))
      else
       bif !a2.2 then
        abV (.next (aa .i64 (a+1),b,d,e,f,g,h,i,j,k,l,m,n,o,q,r,t,u,v,w,x,r4.af.aC,r4.af.be,r4.af.bi,r4.bv,r4.ay,l6))
       else
        bif abZ (0<=n1) then
         abV (.next (aa .i64 (a+1),b,d,e,f,g,h,i,j,k,l,m,n,o,q,r,t,u,v,w,x,r4.af.aC,r4.af.be,r4.af.bi,r4.bv,r4.ay,l6))
        else
         (eZ r4.af).bind fun b12=>
         bif !b12 then
          abV (.done (aK.mk (0,0) (Field.mk []) (aZ.mk 0 []) (aJ.mk (aO.mk [] [] []) [] []) [],18))
         else
          (dt r4 a2.1 a0.1).bind fun GZ=>
          (aX l6 [(a0.1,GZ.2)]).bind fun XY=>
          abV (.next (aa .i64 (a+1),b,d,e,f,g,h,i,j,k,l,m,n,o,q,r,t,u,v,w,x,GZ.1.af.aC,GZ.1.af.be,GZ.1.af.bi,GZ.1.bv,GZ.1.ay,XY))
     else
      bif !a2.2 then
       abV (.next (aa .i64 (a+1),b,d,e,f,g,h,i,j,k,l,m,n,o,q,r,t,u,v,w,x,r4.af.aC,r4.af.be,r4.af.bi,r4.bv,r4.ay,l6))
      else
       bif abZ (0<=n1) then
        abV (.next (aa .i64 (a+1),b,d,e,f,g,h,i,j,k,l,m,n,o,q,r,t,u,v,w,x,r4.af.aC,r4.af.be,r4.af.bi,r4.bv,r4.ay,l6))
       else
        (eZ r4.af).bind fun b15=>
        bif !b15 then
         abV (.done (aK.mk (0,0) (Field.mk []) (aZ.mk 0 []) (aJ.mk (aO.mk [] [] []) [] []) [],18))
        else
         (dt r4 a2.1 a0.1).bind fun EZ=>
         (aX l6 [(a0.1,EZ.2)]).bind fun l17=>
         abV (.next (aa .i64 (a+1),b,d,e,f,g,h,i,j,k,l,m,n,o,q,r,t,u,v,w,x,EZ.1.af.aC,EZ.1.af.be,EZ.1.af.bi,EZ.1.bv,EZ.1.ay,l17))
    else
     bif !a2.2 then
      bif abZ (0<=n1) then
       (aA m n1).bind fun RA=>
       (mB (aJ.mk (aO.mk y z A) B C) RA.2).bind fun Lk=>
       bif !a2.2 then
        abV (.next (aa .i64 (a+1),b,d,e,f,g,h,i,j,k,l,m,n,o,q,r,t,u,v,w,x,Lk.af.aC,Lk.af.be,Lk.af.bi,Lk.bv,Lk.ay,D))
       else
        bif abZ (0<=n1) then
         abV (.next (aa .i64 (a+1),b,d,e,f,g,h,i,j,k,l,m,n,o,q,r,t,u,v,w,x,Lk.af.aC,Lk.af.be,Lk.af.bi,Lk.bv,Lk.ay,D))
        else
         (eZ Lk.af).bind fun b20=>
         bif !b20 then
          abV (.done (aK.mk (0,0) (Field.mk []) (aZ.mk 0 []) (aJ.mk (aO.mk [] [] []) [] []) [],18))
         else
          (dt Lk a2.1 a0.1).bind fun YJ=>
          (aX D [(a0.1,YJ.2)]).bind fun l22=>
          abV (.next (aa .i64 (a+1),b,d,e,f,g,h,i,j,k,l,m,n,o,q,r,t,u,v,w,x,YJ.1.af.aC,YJ.1.af.be,YJ.1.af.bi,YJ.1.bv,YJ.1.ay,l22))
      else
       bif !a2.2 then
        abV (.next (aa .i64 (a+1),(b,d,e,f,g,h,i,j,k,l,m,n,o,q,r,t,u,v,w,x,y,z,A,B,C,D)))
       else
        bif abZ (0<=n1) then
         abV (.next (aa .i64 (a+1),(b,d,e,f,g,h,i,j,k,l,m,n,o,q,r,t,u,v,w,x,y,z,A,B,C,D)))
        else
         (eZ (aO.mk y z A)).bind fun b23=>
         bif !b23 then
          abV (.done (aK.mk (0,0) (Field.mk []) (aZ.mk 0 []) (aJ.mk (aO.mk [] [] []) [] []) [],18))
         else
          (dt (aJ.mk (aO.mk y z A) B C) a2.1 a0.1).bind fun YK=>
          (aX D [(a0.1,YK.2)]).bind fun l25=>
          abV (.next (aa .i64 (a+1),b,d,e,f,g,h,i,j,k,l,m,n,o,q,r,t,u,v,w,x,YK.1.af.aC,YK.1.af.be,YK.1.af.bi,YK.1.bv,YK.1.ay,l25))
     else
      bif !a2.2 then
       abV (.next (aa .i64 (a+1),(b,d,e,f,g,h,i,j,k,l,m,n,o,q,r,t,u,v,w,x,y,z,A,B,C,D)))
      else
       bif abZ (0<=n1) then
        abV (.next (aa .i64 (a+1),(b,d,e,f,g,h,i,j,k,l,m,n,o,q,r,t,u,v,w,x,y,z,A,B,C,D)))
       else
        (eZ (aO.mk y z A)).bind fun b26=>
        bif !b26 then
         abV (.done (aK.mk (0,0) (Field.mk []) (aZ.mk 0 []) (aJ.mk (aO.mk [] [] []) [] []) [],18))
        else
         (dt (aJ.mk (aO.mk y z A) B C) a2.1 a0.1).bind fun YL=>
         (aX D [(a0.1,YL.2)]).bind fun l28=>
         abV (.next (aa .i64 (a+1),b,d,e,f,g,h,i,j,k,l,m,n,o,q,r,t,u,v,w,x,YL.1.af.aC,YL.1.af.be,YL.1.af.bi,YL.1.bv,YL.1.ay,l28))
   else
    bif !a2.2 then
     bif abZ (0<=n1) then
      (aA m n1).bind fun a29=>
      (mB (aJ.mk (aO.mk y z A) B C) a29.2).bind fun Ll=>
      bif !a2.2 then
       abV (.next (aa .i64 (a+1),b,d,e,f,g,h,i,j,k,l,m,n,o,q,r,t,u,v,w,x,Ll.af.aC,Ll.af.be,Ll.af.bi,Ll.bv,Ll.ay,D))
      else
       bif abZ (0<=n1) then
        abV (.next (aa .i64 (a+1),b,d,e,f,g,h,i,j,k,l,m,n,o,q,r,t,u,v,w,x,Ll.af.aC,Ll.af.be,Ll.af.bi,Ll.bv,Ll.ay,D))
       else
        (eZ Ll.af).bind fun b31=>
        bif !b31 then
         abV (.done (aK.mk (0,0) (Field.mk []) (aZ.mk 0 []) (aJ.mk (aO.mk [] [] []) [] []) [],18))
        else
         (dt Ll a2.1 a0.1).bind fun YM=>
         (aX D [(a0.1,YM.2)]).bind fun l33=>
         abV (.next (aa .i64 (a+1),b,d,e,f,g,h,i,j,k,l,m,n,o,q,r,t,u,v,w,x,YM.1.af.aC,YM.1.af.be,YM.1.af.bi,YM.1.bv,YM.1.ay,l33))
     else
      bif !a2.2 then
       abV (.next (aa .i64 (a+1),(b,d,e,f,g,h,i,j,k,l,m,n,o,q,r,t,u,v,w,x,y,z,A,B,C,D)))
      else
       bif abZ (0<=n1) then
        abV (.next (aa .i64 (a+1),(b,d,e,f,g,h,i,j,k,l,m,n,o,q,r,t,u,v,w,x,y,z,A,B,C,D)))
       else
        (eZ (aO.mk y z A)).bind fun b34=>
        bif !b34 then
         abV (.done (aK.mk (0,0) (Field.mk []) (aZ.mk 0 []) (aJ.mk (aO.mk [] [] []) [] []) [],18))
        else
         (dt (aJ.mk (aO.mk y z A) B C) a2.1 a0.1).bind fun YN=>
         (aX D [(a0.1,YN.2)]).bind fun l36=>
         abV (.next (aa .i64 (a+1),b,d,e,f,g,h,i,j,k,l,m,n,o,q,r,t,u,v,w,x,YN.1.af.aC,YN.1.af.be,YN.1.af.bi,YN.1.bv,YN.1.ay,l36))
    else
     bif !a2.2 then
      abV (.next (aa .i64 (a+1),(b,d,e,f,g,h,i,j,k,l,m,n,o,q,r,t,u,v,w,x,y,z,A,B,C,D)))
     else
      bif abZ (0<=n1) then
       abV (.next (aa .i64 (a+1),(b,d,e,f,g,h,i,j,k,l,m,n,o,q,r,t,u,v,w,x,y,z,A,B,C,D)))
      else
       (eZ (aO.mk y z A)).bind fun b37=>
       bif !b37 then
        abV (.done (aK.mk (0,0) (Field.mk []) (aZ.mk 0 []) (aJ.mk (aO.mk [] [] []) [] []) [],18))
       else
        (dt (aJ.mk (aO.mk y z A) B C) a2.1 a0.1).bind fun YO=>
        (aX D [(a0.1,YO.2)]).bind fun l39=>
        abV (.next (aa .i64 (a+1),b,d,e,f,g,h,i,j,k,l,m,n,o,q,r,t,u,v,w,x,YO.1.af.aC,YO.1.af.be,YO.1.af.bi,YO.1.bv,YO.1.ay,l39))
  else
   abV (.done (aK.mk (t,u) (Field.mk v) (aZ.mk w x) (aJ.mk (aO.mk y z A) B C) D,0))
noncomputable def CF (p0:aK) (p1:Field):Option (aK×Int):=
 (lW p0).bind fun r0=>
 (wE p1).bind fun r1=>
 ax y7 (0,p0.ci.1,p0.ci.2,p0.dl.am,p0.ai.aL,p0.ai.ce,p0.ae.af.aC,p0.ae.af.be,p0.ae.af.bi,p0.ae.bv,p0.ae.ay,p0.ii,p1.am,0,0,0,r0.ci.1,r0.ci.2,r1.am,r0.ai.aL,r0.ai.ce,r0.ae.af.aC,r0.ae.af.be,r0.ae.af.bi,r0.ae.bv,r0.ae.ay,[])
noncomputable def nW (s:(Int×Int×(List (Int×Int×Int))×Int×Int)):Option (Step (Int×Int×(List (Int×Int×Int))×Int×Int) Bool):=
 bif abZ (s.1<(pp (abU s.2.2.1))) then
  (aA s.2.2.1 s.1).bind fun a0=>
  bif (a0.2.1==s.2.2.2.1)&&(a0.2.2==s.2.2.2.2) then
   abV (.done abX)
  else
   abV (.next (aa .i64 (s.1+1),s.2))
 else
  abV (.done abY)
noncomputable def uK (p0:aZ) (p1:Int×Int):Option Bool:=
 ax nW (0,p0.aL,p0.ce,p1)
noncomputable def y8 (p0:aZ) (p1:Int×Int):Option (aZ×Int×Int):=
 (tQ p0).bind fun n0=>
 bif n0 !=0 then
  abV (aZ.mk 0 [],0,8)
 else
  (lS p1).bind fun b1=>
  bif !b1 then
   abV (aZ.mk 0 [],0,8)
  else
   (uK p0 p1).bind fun b2=>
   bif b2 then
    abV (aZ.mk 0 [],0,14)
   else
    bif (pp (abU p0.ce))==200 then
     abV (aZ.mk 0 [],0,18)
    else
     bif p0.aL==1000000 then
      abV (aZ.mk 0 [],0,18)
     else
      (rR p0).bind fun r3=>
      (aX r3.ce [(p0.aL,p1)]).bind fun l4=>
      abV (aZ.mk (aa .i64 (r3.aL+1)) l4,p0.aL,0)
noncomputable def iW (p0:aK) (p1:Int×Int):Option (aK×Int×Int):=
 (y8 p0.ai p1).bind fun a0=>
 bif a0.2.2 !=0 then
  abV (aK.mk (0,0) (Field.mk []) (aZ.mk 0 []) (aJ.mk (aO.mk [] [] []) [] []) [],0,a0.2.2)
 else
  (lW p0).bind fun r1=>
  (rS p0.dl p1 p0.ci).bind fun a2=>
  bif !a2.2 then
   abV (aK.mk r1.ci r1.dl a0.1 r1.ae r1.ii,a0.2.1,0)
  else
   (eZ p0.ae.af).bind fun b3=>
   bif !b3 then
    abV (aK.mk (0,0) (Field.mk []) (aZ.mk 0 []) (aJ.mk (aO.mk [] [] []) [] []) [],0,18)
   else
    (dt p0.ae a2.1 a0.2.1).bind fun a4=>
    (aX r1.ii [(a0.2.1,a4.2)]).bind fun l5=>
    abV (aK.mk r1.ci r1.dl a0.1 a4.1 l5,a0.2.1,0)
noncomputable def cH (s:((List (Int×Int))×Int×Int×Int×Int×Int×Int×(List (Int×Int×Int))×Int×(List (Int×Int×Int))×(List Int)×(List Bool)×(List Int)×(List (Int×Int×Int×Int×Int))×(List Int)×(List (Int×Int×Int)))):Option (Step ((List (Int×Int))×Int×Int×Int×Int×Int×Int×(List (Int×Int×Int))×Int×(List (Int×Int×Int))×(List Int)×(List Bool)×(List Int)×(List (Int×Int×Int×Int×Int))×(List Int)×(List (Int×Int×Int))) (Step ((List (Int×Int))×Int×Int×Int×(List (Int×Int×Int))×Int×(List (Int×Int×Int))×(List Int)×(List Bool)×(List Int)×(List (Int×Int×Int×Int×Int))×(List Int)×(List (Int×Int×Int))×(List (Int×Int×Int))×Int×Int×Int×Int×Int×(List (Int×Int×Int))×Int×(List (Int×Int×Int))×(List Int)×(List Bool)×(List Int)×(List (Int×Int×Int×Int×Int))×(List Int)×(List (Int×Int×Int))) (aK×Int))):=
 match s with
 |(a,b,d,e,f,g,h,i,j,k,l,m,n,o,q,r)=>
  bif abZ (b<(pp (abU a))) then
   (aA a b).bind fun a0=>
   (uK (aZ.mk j k) a0).bind fun b1=>
   bif b1 then
    abV (.next (a,aa .i64 (b+1),(d,e,f,g,h,i,j,k,l,m,n,o,q,r)))
   else
    (aA a b).bind fun a2=>
    (iW (aK.mk (g,h) (Field.mk i) (aZ.mk j k) (aJ.mk (aO.mk l m n) o q) r) a2).bind fun a3=>
    bif a3.2.2 !=0 then
     abV (.done (.done (aK.mk (0,0) (Field.mk []) (aZ.mk 0 []) (aJ.mk (aO.mk [] [] []) [] []) [],a3.2.2)))
    else
     abV (.next (a,aa .i64 (b+1),d,e,f,a3.1.ci.1,a3.1.ci.2,a3.1.dl.am,a3.1.ai.aL,a3.1.ai.ce,a3.1.ae.af.aC,a3.1.ae.af.be,a3.1.ae.af.bi,a3.1.ae.bv,a3.1.ae.ay,a3.1.ii))
  else
   abV (.done (.done (aK.mk (g,h) (Field.mk i) (aZ.mk j k) (aJ.mk (aO.mk l m n) o q) r,0)))
noncomputable def lY (s:((List (Int×Int))×Int×Int×Int×(List (Int×Int×Int))×Int×(List (Int×Int×Int))×(List Int)×(List Bool)×(List Int)×(List (Int×Int×Int×Int×Int))×(List Int)×(List (Int×Int×Int))×(List (Int×Int×Int))×Int×Int×Int×Int×Int×(List (Int×Int×Int))×Int×(List (Int×Int×Int))×(List Int)×(List Bool)×(List Int)×(List (Int×Int×Int×Int×Int))×(List Int)×(List (Int×Int×Int)))):Option (Step ((List (Int×Int))×Int×Int×Int×(List (Int×Int×Int))×Int×(List (Int×Int×Int))×(List Int)×(List Bool)×(List Int)×(List (Int×Int×Int×Int×Int))×(List Int)×(List (Int×Int×Int))×(List (Int×Int×Int))×Int×Int×Int×Int×Int×(List (Int×Int×Int))×Int×(List (Int×Int×Int))×(List Int)×(List Bool)×(List Int)×(List (Int×Int×Int×Int×Int))×(List Int)×(List (Int×Int×Int))) (aK×Int)):=
 match s with
 |(a,b,d,e,f,g,h,i,j,k,l,m,n,o,q,r,t,u,v,w,x,y,z,A,B,C,D,E)=>
  bif abZ (b<(pp (abU h))) then
   (aA h b).bind fun a0=>
   (tP a a0.2).bind fun b1=>
   bif !b1 then
    (aA h b).bind fun a2=>
    (H9 (aK.mk (u,v) (Field.mk w) (aZ.mk x y) (aJ.mk (aO.mk z A B) C D) E) a2.1).bind fun r3=>
    abV (.next (a,aa .i64 (b+1),d,e,f,g,h,i,j,k,l,m,n,o,q,r,t,r3.ci.1,r3.ci.2,r3.dl.am,r3.ai.aL,r3.ai.ce,r3.ae.af.aC,r3.ae.af.be,r3.ae.af.bi,r3.ae.bv,r3.ae.ay,r3.ii))
   else
    abV (.next (a,aa .i64 (b+1),(d,e,f,g,h,i,j,k,l,m,n,o,q,r,t,u,v,w,x,y,z,A,B,C,D,E)))
  else
   (wF (Field.mk w) (Field.mk o)).bind fun b4=>
   bif !b4 then
    (CF (aK.mk (u,v) (Field.mk w) (aZ.mk x y) (aJ.mk (aO.mk z A B) C D) E) (Field.mk o)).bind fun a5=>
    bif a5.2 !=0 then
     abV (.done (aK.mk (0,0) (Field.mk []) (aZ.mk 0 []) (aJ.mk (aO.mk [] [] []) [] []) [],a5.2))
    else
     ax cH (a,0,q,r,t,a5.1.ci.1,a5.1.ci.2,a5.1.dl.am,a5.1.ai.aL,a5.1.ai.ce,a5.1.ae.af.aC,a5.1.ae.af.be,a5.1.ae.af.bi,a5.1.ae.bv,a5.1.ae.ay,a5.1.ii)
   else
    ax cH (a,0,(q,r,t,u,v,w,x,y,z,A,B,C,D,E))
noncomputable def pZ (p0:aK) (p1:Field) (p2:List (Int×Int)):Option (aK×Int):=
 (lW p0).bind fun r0=>
 ax lY (p2,0,p0.ci.1,p0.ci.2,p0.dl.am,p0.ai.aL,p0.ai.ce,p0.ae.af.aC,p0.ae.af.be,p0.ae.af.bi,p0.ae.bv,p0.ae.ay,p0.ii,p1.am,0,0,0,r0.ci.1,r0.ci.2,r0.dl.am,r0.ai.aL,r0.ai.ce,r0.ae.af.aC,r0.ae.af.be,r0.ae.af.bi,r0.ae.bv,r0.ae.ay,r0.ii)
structure SZ where
 kw:aK
 bv:List Int
abbrev rT (n:Int):Prop:= -9223372036854775808<=n/\n<9223372036854775808
abbrev NA (n:Int):Prop:=0<=n/\n<18446744073709551616
theorem wi (n:Int):aa .i64 n=(n+9223372036854775808)%18446744073709551616-9223372036854775808:=by
 rw [od];simp only [IntKind.wrap,IntKind.bits,IntKind.signed,Bool.true_and];have e1:(2:Int)^64=18446744073709551616:=by decide
 have e2:(2:Int)^(64-1)=9223372036854775808:=by decide
 simp only [e1,e2,decide_eq_true_eq];split<;>omega
theorem wu (n:Int):aa .u64 n=n%18446744073709551616:=by
 rw [od];simp only [IntKind.wrap,IntKind.bits,IntKind.signed,Bool.false_and];have e1:(2:Int)^64=18446744073709551616:=by decide
 simp only [e1];simp
theorem oH {n:Int} (h:rT n):aa .i64 n=n:=by rw [wi];omega
theorem fH {a b:Int} (h:a≠b):(a !=b)=abX:=by simpa using h
theorem dv {a b:Int} (h:a=b):(a !=b)=abY:=by simpa using h
theorem fe {a b:Int} (h:a=b):(a==b)=abX:=by simpa using h
theorem ef {a b:Int} (h:a≠b):(a==b)=abY:=by simpa using h
theorem lt_or_ge (a b:Int):a<b\/b<=a:=by omega
theorem X5 (a:Int):lG .u64 a 32=a / 4294967296:=by unfold lG;rw [show (min (32:Int).toNat (IntKind.bits .u64))=32 from by decide,show (2:Int)^32=4294967296 from by decide];exact aah _ (by decide)
theorem Ia {a:Int} (h:NA a):zW .u64 a 4294967295=a%4294967296:=by
 obtain ⟨n,rfl⟩:=IR h.1;unfold zW;have e:(BitVec.ofInt (IntKind.bits .u64) (n:Int)&&&BitVec.ofInt (IntKind.bits .u64) 4294967295).toNat=n%4294967296:=by
  rw [BitVec.toNat_and];have e1:(BitVec.ofInt (IntKind.bits .u64) (n:Int)).toNat=n:=by
   rw [BitVec.toNat_ofInt];have:((2^(IntKind.bits .u64):Nat):Int)=18446744073709551616:=by decide
   rw [this];omega
  have e2:(BitVec.ofInt (IntKind.bits .u64) (4294967295:Int)).toNat=2^32-1:=by decide
  rw [e1,e2,Nat.and_two_pow_sub_one_eq_mod]
 rw [e];have:=wu ((n%4294967296:Nat):Int);rw [od] at this;rw [this];omega
theorem RF {a b:Nat} (ha:a<1000000000) (hb:b<1000000000):aa .i64 (lG .u64 (aa .u64 (aa .i64 ((a:Int)+(b:Int)))) 1)=(((a+b) / 2:Nat):Int):=by unfold lG;rw [show (min (1:Int).toNat (IntKind.bits .u64))=1 from by decide,show (2:Int)^1=2 from by decide,aah _ (by decide),wi (_+_),wu,wi];omega
section
variable {σ ρ : Type} {body : σ -> Option (Step σ ρ)}
theorem cf (st:Nat->σ) (n:Nat) (h: ∀i,i<n->body (st i)=abV (.next (st (i+1)))):ax body (st 0)=ax body (st n):=by
 induction n with
 |zero=>rfl
 |succ n ih=>rw [ih fun i hi=>h i (by omega)];exact aT (h n (by omega))
theorem dD (st:Nat->σ) (n:Nat) (c:Nat->Prop) {r e:ρ} (h: ∀i,i<n->(c i->body (st i)=abV (.done r))/\(¬c i->body (st i)=abV (.next (st (i+1)))))
 (NB:body (st n)=abV (.done e)):((∃i,i<n/\c i)->ax body (st 0)=abV r)/\((∀i,i<n-> ¬c i)->ax body (st 0)=abV e):=by
 constructor
 · rintro ⟨i,hi,hc⟩
   have key: ∀k,k<=n->(∃i,i<n/\n-k<=i/\c i)->ax body (st (n-k))=abV r:=by
    intro k
    induction k with
    |zero=>rintro _ ⟨i,h1,h2,_⟩;omega
    |succ k ih=>
     rintro hk ⟨i,h1,h2,h3⟩
     by_cases hc:c (n- (k+1))
     · exact aF ((h _ (by omega)).1 hc)
     rw [aT ((h _ (by omega)).2 hc),show n- (k+1)+1=n-k by omega]
     refine ih (by omega) ⟨i,h1,?_,h3⟩
     by_cases he:i=n- (k+1)
     · subst he;exact absurd h3 hc
     omega
   have:=key n (ab8 n) ⟨i,hi,by omega,hc⟩
   rwa [Nat.sub_self] at this
 intro hn
 rw [cf st n fun i hi=>(h i hi).2 (hn i hi)];exact aF NB
theorem least {c:Nat->Prop}: ∀{n:Nat},(∃i,i<n/\c i)-> ∃k,k<n/\c k/\ ∀j,j<k-> ¬c j
 |0,h=>by obtain ⟨i,hi,_⟩:=h;omega
 |n+1,h=>by
  by_cases hx: ∃i,i<n/\c i
  · obtain ⟨k,h1,h2,h3⟩:=least hx
    exact ⟨k,by omega,h2,h3⟩
  obtain ⟨i,hi,hc⟩:=h
  refine ⟨i,hi,hc,fun j hj hcj=>hx ⟨j,by omega,hcj⟩⟩
theorem ke (st:Nat->σ) (n:Nat) (c:Nat->Prop) (r:Nat->ρ) {e:ρ} (h: ∀i,i<n->(c i->body (st i)=abV (.done (r i)))/\(¬c i->body (st i)=abV (.next (st (i+1)))))
 (NB:body (st n)=abV (.done e)):(∀k,k<n->c k->(∀j,j<k-> ¬c j)->ax body (st 0)=abV (r k))/\((∀i,i<n-> ¬c i)->ax body (st 0)=abV e):=by
 constructor
 · intro k hk hc hj
   rw [cf st k fun i hi=>(h i (by omega)).2 (hj i hi)];exact aF ((h k hk).1 hc)
 intro hn
 rw [cf st n fun i hi=>(h i hi).2 (hn i hi)];exact aF NB
theorem y9 (st:Nat->Nat->σ) (n m:Nat) (c:Nat->Prop)
 (h: ∀lo hi,lo<hi->hi<=n->(c ((lo+hi) / 2)->body (st lo hi)=abV (.next (st ((lo+hi) / 2+1) hi)))/\(¬c ((lo+hi) / 2)->body (st lo hi)=abV (.next (st lo ((lo+hi) / 2)))))
 (h1: ∀i,i<m->c i) (h2: ∀i,m<=i->i<n-> ¬c i): ∀d lo hi,hi-lo<=d->lo<=m->m<=hi->hi<=n->ax body (st lo hi)=ax body (st m m)
 |0,lo,hi,hd,a,b,_=>by
  have e1:lo=m:=by omega
  have e2:hi=m:=by omega
  rw [e1,e2]
 |d+1,lo,hi,hd,a,b,e=>by
  by_cases hl:lo<hi
  · by_cases hc:c ((lo+hi) / 2)
    · rw [aT ((h lo hi hl e).1 hc)]
      refine y9 st n m c h h1 h2 d _ _ (by omega) ?_ b e;refine v6 fun hx=>?_
      exact h2 ((lo+hi) / 2) (by omega) (by omega) hc
    rw [aT ((h lo hi hl e).2 hc)]
    refine y9 st n m c h h1 h2 d _ _ (by omega) a ?_ (by omega);refine v6 fun hx=>?_
    exact hc (h1 ((lo+hi) / 2) (by omega))
  have e1:lo=m:=by omega
  have e2:hi=m:=by omega
  rw [e1,e2]
end
section
variable {α : Type} [Inhabited α]
theorem ar (l:List α) (n:Nat) (h:n<abU l):aA l (n:Int)=abV l[n]!:=by show l[n]? =abV l[n]!;rw [ab5 h,getElem!_pos l n h]
theorem jB {l:List α} {i:Int} (h0:0<=i) (h:i<abU l):aA l i=abV l[i.toNat]!:=by obtain ⟨n,rfl⟩:=IR h0;exact ar l n (by omega)
theorem ij {β:Type} (l:List β) (n:Nat) (a:β):bA l (n:Int) a=l.set n a:=rfl
theorem bn (l:List α) (n m:Nat) (a:α):(l.set n a)[m]! =if m=n/\n<(abU l) then a else l[m]!:=by
 by_cases hm:m<abU l
 · rw [getElem!_pos (l.set n a) m (by simpa using hm),getElem!_pos l m hm,List.getElem_set]
   split
   · rw [ol (by omega)]
   rw [pi (by omega)]
 rw [getElem!_neg (l.set n a) m (by simpa using hm),getElem!_neg l m hm]
 split
 · omega
 rfl
theorem bQ {l:List α} {x:α}:x∈l↔ ∃i,i<abU l/\l[i]! =x:=by
 rw [List.mem_iff_getElem];constructor
 · rintro ⟨i,h,rfl⟩;exact ⟨i,h,getElem!_pos l i h⟩
 rintro ⟨i,h,rfl⟩;exact ⟨i,h,(getElem!_pos l i h).symm⟩
theorem bU {l:List α} {i:Nat} (h:i<abU l):l[i]!∈l:=bQ.2 ⟨i,h,rfl⟩
theorem eB {l m:List α} {i:Nat} (h:i<abU l):(l++m)[i]! =l[i]!:=by rw [getElem!_pos (l++m) i (by simp;omega),getElem!_pos l i h,List.getElem_append_left h]
theorem eL {l m:List α} {i:Nat} (h:(abU l)<=i):(l++m)[i]! =m[i-(abU l)]!:=by
 by_cases hi:i<abU l+abU m
 · rw [getElem!_pos (l++m) i (by simp;omega),getElem!_pos m (i-(abU l)) (by omega),List.getElem_append_right h]
 rw [getElem!_neg (l++m) i (by simp;omega),getElem!_neg m (i-(abU l)) (by omega)]
theorem uL {l:List α} {n i:Nat} (h:i<n):(l.take n)[i]! =l[i]!:=by
 by_cases hi:i<abU l
 · rw [getElem!_pos (l.take n) i (by simp;omega),getElem!_pos l i hi,List.getElem_take]
 rw [getElem!_neg (l.take n) i (by simp;omega),getElem!_neg l i hi]
theorem m9 {l m:List α} (hl:(abU l)=abU m) (h: ∀i,i<abU l->l[i]! =m[i]!):l=m:=by
 apply List.ext_getElem hl;intro i h1 h2;have:=h i h1
 rwa [getElem!_pos l i h1,getElem!_pos m i h2] at this
end
theorem bg {α:Type} {l:List α} (h:(abU l)<=1048576):bD l=abV l:=by unfold bD;rw [ol h]
theorem fa {α:Type} {l m:List α} (h:(abU l)+abU m<=1048576):aX l m=abV (l++m):=by unfold aX;rw [ol h]
@[simp] theorem au {α β:Type} (a:α) (f:α->Option β):(abV a).bind f=f a:=rfl
end Go.Proofs.YtmndepnolpbnpaaGreat
namespace Go.Proofs.YtmndepnolpbnpaaGreat
open Go.Vm Classical
section
variable {α : Type} [Inhabited α] {P : α -> α -> Prop} {S : α -> Prop}
end
theorem gA {n:Int} (h:rT n):eY n=abV (n.natAbs:Int):=by
 unfold eY;simp only [wi,wu]
 by_cases hn:n<0
 · simp only [hn,decide_true,ls,ut];omega
 simp only [hn,decide_false,lw,ut];omega
theorem k9 {n:Int} (h:rT n):iv n=abV (n.natAbs:Int):=by
 unfold iv;simp only [wu]
 by_cases hn:n<0
 · simp only [hn,decide_true,ls,ut];omega
 simp only [hn,decide_false,lw,ut];omega
theorem lZ (m n:Nat):kT m n=abV (v4 m n:Int):=by
 unfold kT
 induction n using abK generalizing m with
 |ind n ih=>
  by_cases h0:n=0
  · subst h0
    rw [abD];exact aF (by simp [jG])
  have e:jG ((m:Int),(n:Int))=abV (.next ((n:Int),((m%n:Nat):Int))):=by
   have h1:((n:Int) !=0)=abX:=by simp;omega
   have h2:((n:Int)==0)=abY:=by simp;omega
   simp only [jG,h1,h2,ls,lw,abO]
  rw [aT e,ih (m%n) (Nat.mod_lt _ (by omega)) n,M2 m n,Nat.gcd_rec n m,M2]
theorem vw (m n:Nat):qA m n=abV (v4 m n:Int):=by
 unfold qA
 induction n using abK generalizing m with
 |ind n ih=>
  by_cases h0:n=0
  · subst h0
    rw [abD];exact aF (by simp [nS])
  have e:nS ((m:Int),(n:Int))=abV (.next ((n:Int),((m%n:Nat):Int))):=by
   have h1:abZ (0<(n:Int))=abX:=by simp;omega
   have h2:((n:Int)==0)=abY:=by simp;omega
   simp only [nS,h1,h2,ls,lw,abO]
  rw [aT e,ih (m%n) (Nat.mod_lt _ (by omega)) n,M2 m n,Nat.gcd_rec n m,M2]
def bT (r:Int×Int):Prop:=1<=r.2/\r.1≠ -9223372036854775808/\v4 r.2.natAbs r.1.natAbs=1
abbrev nX (r:Int×Int):Prop:=rT r.1/\rT r.2
theorem dU {r:Int×Int} (h:nX r):db r=abV (if bT r then 0 else 8):=by
 obtain ⟨a,b⟩:=r;obtain ⟨ha,hb⟩:=h;unfold db bT;dsimp only at ha hb ⊢
 by_cases h1:b<1
 · rw [pi (by omega)];simp [h1]
 by_cases h2:a= -9223372036854775808
 · rw [pi (by omega)];simp [h1,h2]
 have e2:(a== -9223372036854775808)=abY:=by simpa using h2
 have e3:aa .u64 b=(b.natAbs:Int):=by rw [wu];omega
 simp only [h1,decide_false,lw,e2,k9 ha,au,e3,vw];have hp:0<v4 b.natAbs a.natAbs:=Nat.gcd_pos_of_pos_left _ (by omega)
 by_cases h3:v4 b.natAbs a.natAbs=1
 · rw [ol ⟨by omega,h2,h3⟩,h3];rfl
 rw [pi (fun h=>h3 h.2.2)]
 have:abZ (1<(v4 b.natAbs a.natAbs:Int))=abX:=by simp;omega
 rw [this];rfl
theorem BY {r:Int×Int} (h:nX r):py r=abV (if bT r then 0 else 8):=by
 obtain ⟨a,b⟩:=r;obtain ⟨ha,hb⟩:=h;unfold py bT;dsimp only at ha hb ⊢
 by_cases h1:b<1
 · rw [pi (by omega)];simp [h1]
 by_cases h2:a= -9223372036854775808
 · rw [pi (by omega)];simp [h1,h2]
 have e2:(a== -9223372036854775808)=abY:=by simpa using h2
 have e3:aa .u64 b=(b.natAbs:Int):=by rw [wu];omega
 simp only [h1,decide_false,lw,e2,gA ha,au,e3,lZ];rw [M2]
 by_cases h3:v4 b.natAbs a.natAbs=1
 · rw [ol ⟨by omega,h2,h3⟩,h3];rfl
 rw [pi (fun h=>h3 h.2.2)]
 have:((v4 b.natAbs a.natAbs:Int) !=1)=abX:=by simp;omega
 rw [this];rfl
theorem NC (x y:Int) (hx:NA x) (hy:NA y): ∃p q r s:Int,0<=p/\p<=18446744065119617025/\0<=q/\q<=18446744065119617025/\0<=r/\r<=18446744065119617025/\0<=s/\s<=18446744065119617025/\
 x / 4294967296*(y / 4294967296)=p/\x / 4294967296*(y%4294967296)=q/\x%4294967296*(y / 4294967296)=r/\x%4294967296*(y%4294967296)=s/\
 x*y=p*18446744073709551616+(q+r)*4294967296+s:=by
 have Lh:0<=x / 4294967296/\x / 4294967296<=4294967295:=by omega
 have FO:0<=x%4294967296/\x%4294967296<=4294967295:=by omega
 have hy1:0<=y / 4294967296/\y / 4294967296<=4294967295:=by omega
 have KF:0<=y%4294967296/\y%4294967296<=4294967295:=by omega
 have ex:x=x / 4294967296*4294967296+x%4294967296:=by omega
 have ey:y=y / 4294967296*4294967296+y%4294967296:=by omega
 generalize x / 4294967296=a at*;generalize x%4294967296=b at*;generalize y / 4294967296=c at*;generalize y%4294967296=d at*;have bd: ∀{u v:Int},0<=u/\u<=4294967295->0<=v/\v<=4294967295->0<=u*v/\u*v<=18446744065119617025:=by
  intro u v hu hv;refine ⟨ab9 hu.1 hv.1,?_⟩
  calc u*v<=4294967295*4294967295:=aaj hu.2 hv.2 hv.1 (by decide)
   _=_:=by decide
 refine ⟨a*c,a*d,b*c,b*d,(bd Lh hy1).1,(bd Lh hy1).2,(bd Lh KF).1,(bd Lh KF).2,(bd FO hy1).1,(bd FO hy1).2,(bd FO KF).1,(bd FO KF).2,rfl,rfl,rfl,rfl,?_⟩;rw [ex,ey]
 grind
theorem xO {x y:Int} (hx:NA x) (hy:NA y):dZ x y=abV (x*y / 18446744073709551616,x*y%18446744073709551616):=by
 unfold dZ;obtain ⟨p,q,r,s,p0,p1,q0,q1,r0,r1,s0,s1,ep,eq,er,es,exy⟩:=NC x y hx hy;have key: ∀z:Int,zW .u64 (z%18446744073709551616) 4294967295=z%18446744073709551616%4294967296:=fun z=>Ia (by constructor<;>omega)
 simp only [X5,Ia hx,Ia hy,wu,key,ep,eq,er,es,exy,ut,Do,and_true];clear ep eq er es exy key hx hy;have e1:s%18446744073709551616=s:=by omega
 have e2:(q+s / 4294967296)%18446744073709551616=q+s / 4294967296:=by omega
 have ep:p%18446744073709551616=p:=by omega
 have eq:q%18446744073709551616=q:=by omega
 have er:r%18446744073709551616=r:=by omega
 rw [e1,ep,eq,er,e2];have e3:s=s / 4294967296*4294967296+s%4294967296:=by omega
 have e4:q+s / 4294967296=(q+s / 4294967296) / 4294967296*4294967296+(q+s / 4294967296)%4294967296:=by omega
 have b1:0<=s%4294967296/\s%4294967296<4294967296:=by omega
 have b2:0<=(q+s / 4294967296)%4294967296/\(q+s / 4294967296)%4294967296<4294967296:=by omega
 have b3:0<=(q+s / 4294967296) / 4294967296/\(q+s / 4294967296) / 4294967296<=4294967295:=by omega
 have b4:0<=s / 4294967296/\s / 4294967296<=4294967295:=by omega
 generalize (q+s / 4294967296) / 4294967296=t1 at*;generalize (q+s / 4294967296)%4294967296=t0 at*;generalize s / 4294967296=c1 at*;generalize s%4294967296=c0 at*;clear e1 e2;have e5:(t0+r)%18446744073709551616=t0+r:=by omega
 rw [e5];have e6:t0+r=(t0+r) / 4294967296*4294967296+(t0+r)%4294967296:=by omega
 have b5:0<=(t0+r)%4294967296/\(t0+r)%4294967296<4294967296:=by omega
 have b6:0<=(t0+r) / 4294967296/\(t0+r) / 4294967296<=4294967295:=by omega
 generalize (t0+r) / 4294967296=u1 at*;generalize (t0+r)%4294967296=u0 at*;omega
theorem Ib {x y:Int} (hx:NA x) (hy:NA y):mA x y=abV (abY,x*y / 18446744073709551616,x*y%18446744073709551616):=by
 unfold mA;obtain ⟨p,q,r,s,p0,p1,q0,q1,r0,r1,s0,s1,ep,eq,er,es,exy⟩:=NC x y hx hy;have t1: ∀a:Int,0<=a->ww a 4294967296=a / 4294967296:=fun a h=>aau h
 have t2: ∀a:Int,0<=a->Int.tmod a 4294967296=a%4294967296:=fun a h=>Int.tmod_eq_emod_of_nonneg h
 simp only [wu];rw [t1 x hx.1,t1 y hy.1,t2 x hx.1,t2 y hy.1];have f1:x / 4294967296%18446744073709551616=x / 4294967296:=by omega
 have f2:y / 4294967296%18446744073709551616=y / 4294967296:=by omega
 simp only [f1,f2,ep,eq,er,es];have g: ∀a:Int,ww (a%18446744073709551616) 4294967296=a%18446744073709551616 / 4294967296:=fun a=>t1 _ (by omega)
 have g2: ∀a:Int,Int.tmod (a%18446744073709551616) 4294967296=a%18446744073709551616%4294967296:=fun a=>t2 _ (by omega)
 simp only [g,g2,exy,ut,Do,true_and];constructor<;>omega
abbrev B64 (a:Bool×Int×Int):Prop:=NA a.2.1/\NA a.2.2
theorem uM {n:Int} (h:rT n):NA (n.natAbs:Int):=by constructor<;>omega
theorem uN {n:Int} (h:rT n):(n.natAbs:Int)<=9223372036854775808:=by omega
theorem xP (a b:Int):((a.natAbs:Int)*(b.natAbs:Int))=((a*b).natAbs:Int):=by rw [Int.natAbs_mul];rfl
theorem oI {a b:Int} (ha:rT a) (hb:rT b):((a*b).natAbs:Int)<=85070591730234615865843651857942052864:=by
 rw [<- xP]
 calc (a.natAbs:Int)*(b.natAbs:Int)<=9223372036854775808*9223372036854775808:=aaj (uN ha) (uN hb) (by omega) (by decide)
  _=_:=by decide
theorem rU {a b:Int} (ha:rT a) (hb:rT b):
 gz a b=abV (abZ (a*b<0),((a*b).natAbs:Int) / 18446744073709551616,((a*b).natAbs:Int)%18446744073709551616):=by
 unfold gz;simp only [gA ha,gA hb,au,Ib (uM ha) (uM hb),xP];have hs:(a*b<0)↔((a<0/\0<b)\/(0<a/\b<0)):=by
  constructor
  · intro h
    rcases ab2 a 0 with h1|h1|h1
    · rcases ab2 b 0 with h2|h2|h2
      · have:=Int.mul_pos_of_neg_of_neg h1 h2;omega
      · subst h2;simp at h
      exact .inl ⟨h1,h2⟩
    · subst h1;simp at h
    rcases ab2 b 0 with h2|h2|h2
    · exact .inr ⟨h1,h2⟩
    · subst h2;simp at h
    have:=Int.mul_pos h1 h2;omega
  rintro (⟨h1,h2⟩|⟨h1,h2⟩)
  · exact If h1 h2
  exact Int.mul_neg_of_pos_of_neg h1 h2
 have hd:abZ (a*b<0)=abZ ((a<0/\0<b)\/(0<a/\b<0)):=by simp only [hs]
 rw [hd];clear hd hs;generalize ((a*b).natAbs:Int)=z
 by_cases h1:a<0
 · have GX: ¬0<a:=by omega
   have abl:(a !=0)=abX:=fH (by omega)
   by_cases h2:b<0
   · have Kw: ¬0<b:=by omega
     simp [h1,h2,GX,Kw]
   by_cases h3:b=0
   · simp [h1,h3,abl]
   have YP:0<b:=by omega
   simp [h1,h2,YP,abl,fH h3]
 by_cases h0:a=0
 · subst h0
   by_cases h2:b<0<;>simp [h2]
 have GX:0<a:=by omega
 by_cases h2:b<0
 · have Kw:(b !=0)=abX:=fH (by omega)
   simp [h1,h2,GX,fH h0,Kw]
 simp [h1,h2,GX]
theorem Gs {a b:Int} (ha:rT a) (hb:rT b):
 mS a b=abV (!(abZ (a<0)==abZ (b<0)),((a*b).natAbs:Int) / 18446744073709551616,((a*b).natAbs:Int)%18446744073709551616):=by
 unfold mS;simp only [k9 ha,k9 hb,au,xO (uM ha) (uM hb),xP]
def gG (a b:Int):Int:=if a<b then -1 else if b<a then 1 else 0
theorem vz (a b:Int):fZ a b=abV (gG a b):=by
 unfold fZ jF gG
 by_cases h1:a<b<;>by_cases h2:b<a<;>simp [h1,h2]
theorem CG (a b:Int):fD a b=abV (gG a b):=by
 unfold fD ji gG
 by_cases h1:a<b<;>by_cases h2:b<a<;>simp [h1,h2]
theorem gW (a b:Int):dq a b=abV (gG a b):=by
 unfold dq mn gG
 by_cases h1:a<b<;>by_cases h2:b<a<;>simp [h1,h2]
theorem dV (a b:Int):(a<b/\gG a b= -1)\/(a=b/\gG a b=0)\/(b<a/\gG a b=1):=by
 unfold gG
 by_cases h1:a<b
 · exact .inl ⟨h1,by rw [ol h1]⟩
 by_cases h2:b<a
 · exact .inr (.inr ⟨h2,by rw [pi h1,ol h2]⟩)
 exact .inr (.inl ⟨by omega,by rw [pi h1,pi h2]⟩)
theorem EA (a b:Bool×Int×Int) (ha:B64 a) (hb:B64 b):lT a b=abV (gG (a.2.1*18446744073709551616+a.2.2) (b.2.1*18446744073709551616+b.2.2)):=by
 obtain ⟨s,ah,al⟩:=a;obtain ⟨t,bh,bl⟩:=b;obtain ⟨⟨a1,a2⟩,a3,a4⟩:=ha;obtain ⟨⟨b1,b2⟩,b3,b4⟩:=hb;dsimp only at*;unfold lT gG;dsimp only
 by_cases h1:ah=bh
 · subst h1
   by_cases h2:al=bl
   · subst h2;simp
   by_cases h3:al<bl
   · simp [fH h2,h3]
   rw [pi (by omega),ol (by omega)];simp [fH h2,h3]
 by_cases h3:ah<bh
 · rw [ol (by omega)];simp [fH h1,h3]
 rw [pi (by omega),ol (by omega)];simp [fH h1,h3]
theorem Ic (a b:Bool×Int×Int) (ha:B64 a) (hb:B64 b):mu a b=abV (gG (a.2.1*18446744073709551616+a.2.2) (b.2.1*18446744073709551616+b.2.2)):=by
 obtain ⟨s,ah,al⟩:=a;obtain ⟨t,bh,bl⟩:=b;obtain ⟨⟨a1,a2⟩,a3,a4⟩:=ha;obtain ⟨⟨b1,b2⟩,b3,b4⟩:=hb;dsimp only at*;unfold mu;simp only [CG,au];unfold gG
 by_cases h1:ah=bh
 · subst h1
   by_cases h3:al<bl
   · simp [h3]
   by_cases h2:bl<al
   · rw [pi (show¬(ah*18446744073709551616+al<ah*18446744073709551616+bl) by omega),ol (show ah*18446744073709551616+bl<ah*18446744073709551616+al by omega)];simp [h2,h3]
   have:al=bl:=by omega
   subst this;simp
 by_cases h3:ah<bh
 · rw [ol (show ah*18446744073709551616+al<bh*18446744073709551616+bl by omega)];simp [h3]
 rw [pi (show¬(ah*18446744073709551616+al<bh*18446744073709551616+bl) by omega),ol (show bh*18446744073709551616+bl<ah*18446744073709551616+al by omega)];simp [h3,show bh<ah by omega]
theorem pB (a:Bool) {n:Int} (h0:0<=n) (h:n<=85070591730234615865843651857942052864):B64 (a,n / 18446744073709551616,n%18446744073709551616):=by constructor<;>constructor<;>dsimp only<;>omega
theorem EB {n:Int} (h:(n.natAbs:Int)<=85070591730234615865843651857942052864):hO (abZ (n<0),(n.natAbs:Int) / 18446744073709551616,(n.natAbs:Int)%18446744073709551616)=abV (gG n 0):=by
 unfold hO gG;dsimp only
 by_cases h0:n=0
 · subst h0;simp
 by_cases h1:n<0
 · rw [ol h1]
   by_cases h2:(n.natAbs:Int) / 18446744073709551616=0
   · have h3: ¬((n.natAbs:Int)%18446744073709551616=0):=by omega
     simp [h1,h2,ef h3]
   simp [h1,ef h2]
 rw [pi h1,ol (by omega)]
 by_cases h2:(n.natAbs:Int) / 18446744073709551616=0
 · have h3: ¬((n.natAbs:Int)%18446744073709551616=0):=by omega
   simp [h1,h2,ef h3]
 simp [h1,ef h2]
def xQ (a b:Int×Int):Int:=gG (a.1*b.2) (b.1*a.2)
theorem Ie {a b:Int×Int} (ha:nX a) (hb:nX b):pX a b=abV (xQ a b):=by
 unfold pX xQ;have n1:=oI ha.1 hb.2;have n2:=oI hb.1 ha.2;simp only [rU ha.1 hb.2,rU hb.1 ha.2,au,EB n1,EB n2];generalize a.1*b.2=x at*;generalize b.1*a.2=y at*;rw [EA _ _ (pB _ (by omega) n1) (pB _ (by omega) n2),EA _ _ (pB _ (by omega) n2) (pB _ (by omega) n1)];have ex:((x.natAbs:Int) / 18446744073709551616)*18446744073709551616+(x.natAbs:Int)%18446744073709551616=(x.natAbs:Int):=by omega
 have ey:((y.natAbs:Int) / 18446744073709551616)*18446744073709551616+(y.natAbs:Int)%18446744073709551616=(y.natAbs:Int):=by omega
 simp only [ex,ey,au];rcases dV x 0 with ⟨h1,e1⟩|⟨h1,e1⟩|⟨h1,e1⟩<;>rcases dV y 0 with ⟨h2,e2⟩|⟨h2,e2⟩|⟨h2,e2⟩<;>rw [e1,e2]<;>simp<;>
  unfold gG<;>(repeat' split)<;>first|rfl|omega
theorem RG {a b:Int×Int} (ha:nX a) (hb:nX b):rG a b=abV (if bT a/\bT b then 0 else 8):=by
 unfold rG;simp only [dU ha,dU hb,au]
 by_cases h1:bT a<;>by_cases h2:bT b<;>simp [h1,h2]
theorem ND {a b:Int×Int} (ha:nX a) (hb:nX b):lP a b=abV (if bT a/\bT b then (xQ a b,0) else (0,8)):=by
 unfold lP;rw [RG ha hb]
 by_cases h:bT a/\bT b
 · rw [ol h,ol h]
   obtain ⟨⟨a1,a2,a3⟩,b1,b2,b3⟩:=h;have n1:=oI ha.1 hb.2;have n2:=oI hb.1 ha.2;simp only [au,vz,Gs ha.1 hb.2,Gs hb.1 ha.2];rw [Ic _ _ (pB _ (by omega) n1) (pB _ (by omega) n2)];have ex:((a.1*b.2).natAbs:Int) / 18446744073709551616*18446744073709551616+((a.1*b.2).natAbs:Int)%18446744073709551616=((a.1*b.2).natAbs:Int):=by omega
   have ey:((b.1*a.2).natAbs:Int) / 18446744073709551616*18446744073709551616+((b.1*a.2).natAbs:Int)%18446744073709551616=((b.1*a.2).natAbs:Int):=by omega
   simp only [ex,ey,au];unfold xQ;have s1:(a.1<0↔a.1*b.2<0):=by
    constructor
    · intro h;exact If h (by omega)
    intro h;rcases lt_or_ge a.1 0 with h1|h1
    · exact h1
    have:=ab9 h1 (show 0<=b.2 by omega);omega
   have s2:(b.1<0↔b.1*a.2<0):=by
    constructor
    · intro h;exact If h (by omega)
    intro h;rcases lt_or_ge b.1 0 with h1|h1
    · exact h1
    have:=ab9 h1 (show 0<=a.2 by omega);omega
   generalize a.1*b.2=x at*;generalize b.1*a.2=y at*
   by_cases h1:a.1<0<;>by_cases h2:b.1<0
   · have h3:=s1.1 h1;have h4:=s2.1 h2
     have:aa .i64 (-gG (x.natAbs:Int) (y.natAbs:Int))=gG x y:=by rw [wi];unfold gG;(repeat' split)<;>omega
     simp [h1,h2,this]
   · have h3:=s1.1 h1;have h4: ¬y<0:=fun h=>h2 (s2.2 h)
     have:gG a.1 b.1=gG x y:=by unfold gG;(repeat' split)<;>omega
     simp [h1,h2,this]
   · have h3: ¬x<0:=fun h=>h1 (s1.2 h);have h4:=s2.1 h2
     have:gG a.1 b.1=gG x y:=by unfold gG;(repeat' split)<;>omega
     simp [h1,h2,this]
   have h3: ¬x<0:=fun h=>h1 (s1.2 h);have h4: ¬y<0:=fun h=>h2 (s2.2 h)
   have:gG (x.natAbs:Int) (y.natAbs:Int)=gG x y:=by unfold gG;(repeat' split)<;>omega
   simp [h1,h2,this]
 rw [pi h,pi h];rfl
abbrev Pt:=Int×Int×Int
def ff (p:Pt):Prop:=0<=p.1/\p.1<=65535/\ -1048576<=p.2.1/\p.2.1<=1048576/\ -1048576<=p.2.2/\p.2.2<=1048576
theorem sE (p:Pt):jf p=abV (if ff p then 0 else 8):=by
 obtain ⟨i,a,b⟩:=p;unfold jf kI ff;dsimp only
 by_cases h1:i<0
 · rw [pi (by omega)];simp [h1]
 by_cases h2:65535<i
 · rw [pi (by omega)];simp [h1,h2]
 by_cases h3:a< -1048576
 · rw [pi (by omega)];simp [h1,h2,h3]
 by_cases h4:1048576<a
 · rw [pi (by omega)];simp [h1,h2,h3,h4]
 by_cases h5:b< -1048576
 · rw [pi (by omega)];simp [h1,h2,h3,h4,h5]
 by_cases h6:1048576<b
 · rw [pi (by omega)];simp [h1,h2,h3,h4,h5,h6]
 rw [ol (by omega)];simp [h1,h2,h3,h4,h5,h6]
theorem BZ (p:Pt):pt p=abV (if ff p then 0 else 8):=by
 obtain ⟨i,a,b⟩:=p;unfold pt ff;dsimp only
 by_cases h1:i<0
 · rw [pi (by omega)];simp [h1]
 by_cases h2:65535<i
 · rw [pi (by omega)];simp [h1,h2]
 by_cases h3:a< -1048576
 · rw [pi (by omega)];simp [h1,h2,h3]
 by_cases h4:1048576<a
 · rw [pi (by omega)];simp [h1,h2,h3,h4]
 by_cases h5:b< -1048576
 · rw [pi (by omega)];simp [h1,h2,h3,h4,h5]
 by_cases h6:1048576<b
 · rw [pi (by omega)];simp [h1,h2,h3,h4,h5,h6]
 rw [ol (by omega)];simp [h1,h2,h3,h4,h5,h6]
theorem qD {x y:Int} (hx:rT x) (hy:rT y): -85070591730234615865843651857942052864<=x*y/\x*y<=85070591730234615865843651857942052864:=by have:=oI hx hy;omega
theorem S0 {x y:Int} (hx:rT x) (hy:rT y):(x%18446744073709551616)*(y%18446744073709551616)=x*y+(if x<0 then y else 0)*18446744073709551616+(if y<0 then x else 0)*18446744073709551616+(if x<0/\y<0 then 340282366920938463463374607431768211456 else 0):=by
 by_cases h1:x<0<;>by_cases h2:y<0
 · have e1:x%18446744073709551616=x+18446744073709551616:=by omega
   have e2:y%18446744073709551616=y+18446744073709551616:=by omega
   rw [e1,e2,ol h1,ol h2,ol ⟨h1,h2⟩];grind
 · have e1:x%18446744073709551616=x+18446744073709551616:=by omega
   have e2:y%18446744073709551616=y:=by omega
   rw [e1,e2,ol h1,pi h2,pi (fun h=>h2 h.2)];grind
 · have e1:x%18446744073709551616=x:=by omega
   have e2:y%18446744073709551616=y+18446744073709551616:=by omega
   rw [e1,e2,pi h1,ol h2,pi (fun h=>h1 h.1)];grind
 have e1:x%18446744073709551616=x:=by omega
 have e2:y%18446744073709551616=y:=by omega
 rw [e1,e2,pi h1,pi h2,pi (fun h=>h1 h.1)];grind
theorem Gt {a b:Int} (ha:0<=a) (hb:0<=b):lK a b 0=abV ((a+b)%18446744073709551616,(a+b) / 18446744073709551616):=by unfold lK;simp [ha,hb]
theorem NF {a b c d u v:Int} (ha:rT a) (hb:rT b):jz (a,b,c,d,0,u,v,0,0)=abV (.next (a,b,c,d,1,u,v,a*b / 18446744073709551616,a*b%18446744073709551616)):=by
 unfold jz;have hm:=xO (x:=aa .u64 a) (y:=aa .u64 b) (by rw [wu];constructor<;>omega) (by rw [wu];constructor<;>omega);have Ok:=qD ha hb;have hu:=S0 ha hb;simp only [hm,au];simp only [wu,hu];generalize a*b=x at*
 by_cases h1:a<0<;>by_cases h2:b<0
 all_goals
  simp only [h1,h2,decide_true,decide_false,ls,lw,if_true,if_false,and_self,and_false,false_and];rw [Gt (by omega) (by omega)];simp only [wi,au,show abZ ((0:Int)<2)=abX from rfl,ls,show ((0:Int)==0)=abX from rfl,ut,Step.next.injEq,Do,true_and];refine ⟨by omega,?_,?_⟩<;>omega
theorem NG {a b c d u v h l:Int} (hc:rT c) (hd:rT d) (hl:NA l)
 (_hh: -9223372036854775808<=h/\h<9223372036854775808) (hs: -170141183460469231731687303715884105728<=h*18446744073709551616+l+c*d/\h*18446744073709551616+l+c*d<170141183460469231731687303715884105728):
 jz (a,b,c,d,1,u,v,h,l)=abV (.next (a,b,c,d,2,u,v,(h*18446744073709551616+l+c*d) / 18446744073709551616,(h*18446744073709551616+l+c*d)%18446744073709551616)):=by
 unfold jz;have hm:=xO (x:=aa .u64 c) (y:=aa .u64 d) (by rw [wu];constructor<;>omega) (by rw [wu];constructor<;>omega);have Ok:=qD hc hd;have hu:=S0 hc hd;simp only [hm,au];simp only [wu,hu];generalize c*d=x at*
 by_cases h1:c<0<;>by_cases h2:d<0
 all_goals
  simp only [h1,h2,decide_true,decide_false,ls,lw,if_true,if_false,and_self,and_false,false_and];rw [Gt (by omega) (by omega)];simp only [wi,au,show abZ ((1:Int)<2)=abX from rfl,ls,lw,show ((1:Int)==0)=abY from rfl,show ((1:Int)==1)=abX from rfl,ut,Step.next.injEq,Do,true_and];refine ⟨by omega,?_,?_⟩<;>omega
theorem CH {a b c d:Int} (ha:rT a) (hb:rT b) (hc:rT c) (hd:rT d) (hs: -170141183460469231731687303715884105728<=a*b+c*d/\a*b+c*d<170141183460469231731687303715884105728):
 rF (a,b,c,d)=abV ((a*b+c*d) / 18446744073709551616,(a*b+c*d)%18446744073709551616):=by
 unfold rF;dsimp only;have Ok:=qD ha hb;have e:a*b / 18446744073709551616*18446744073709551616+a*b%18446744073709551616+c*d=a*b+c*d:=by omega
 rw [aT (NF ha hb),aT (NG hc hd (by constructor<;>omega) (by constructor<;>omega) (by rw [e];exact hs)),e];exact aF rfl
def Du (p q:Pt) (t:Int×Int):Int:=(p.2.1-q.2.1)*t.2+(p.2.2-q.2.2)*t.1
def leads (p q:Pt) (t:Int×Int):Prop:=0<Du p q t\/(Du p q t=0/\(q.2.2<p.2.2\/(p.2.2=q.2.2/\p.1<q.1)))
def Ig (p q:Pt) (t:Int×Int):Int:=if Du p q t<0 then -1 else if 0<Du p q t then 1 else if p.2.2<q.2.2 then -1 else if q.2.2<p.2.2 then 1 else gG q.1 p.1
theorem B0 (p q:Pt) (t:Int×Int):0<Ig p q t↔leads p q t:=by
 unfold Ig leads
 by_cases h1:Du p q t<0
 · rw [ol h1];omega
 by_cases h2:0<Du p q t
 · rw [pi h1,ol h2];simp [h2]
 rw [pi h1,pi h2]
 by_cases h3:p.2.2<q.2.2
 · rw [ol h3];omega
 by_cases h4:q.2.2<p.2.2
 · rw [pi h3,ol h4];omega
 rw [pi h3,pi h4]
 rcases dV q.1 p.1 with ⟨h,e⟩|⟨h,e⟩|⟨h,e⟩<;>rw [e]<;>omega
theorem uO (a b:Int):oy [a,b]=abV (if a≠0 then a else b):=by
 unfold oy
 by_cases h1:a=0
 · subst h1
   rw [aT (y:=(0,[0,b],2,1)) (by rfl)]
   by_cases h2:b=0
   · subst h2
     rw [aT (y:=(0,[0,0],2,2)) (by rfl)];exact aF rfl
   refine (aF (r:=b) ?_).trans (by simp)
   have e:pS (0,[0,b],2,1)=(bif b !=0 then abV (.done b) else abV (.next (0,[0,b],2,aa .i64 (1+1)))):=rfl;rw [e,fH h2];rfl
 refine (aF (r:=a) ?_).trans (by simp [h1])
 have e:pS (0,[a,b],pp [a,b].length,0)=(bif a !=0 then abV (.done a) else abV (.next (0,[a,b],pp [a,b].length,aa .i64 (0+1)))):=rfl;rw [e,fH h1];rfl
theorem NH {p q:Pt} {t:Int×Int} (hp:ff p) (hq:ff q) (ht:nX t):rT (p.2.1-q.2.1)/\rT (p.2.2-q.2.2)/\ -170141183460469231731687303715884105728<=Du p q t/\Du p q t<170141183460469231731687303715884105728:=by
 obtain ⟨a1,a2,a3,a4,a5,a6⟩:=hp;obtain ⟨b1,b2,b3,b4,b5,b6⟩:=hq;have h1:rT (p.2.1-q.2.1):=by constructor<;>omega
 have h2:rT (p.2.2-q.2.2):=by constructor<;>omega
 refine ⟨h1,h2,?_⟩;have k: ∀{x y:Int},-2097152<=x/\x<=2097152->rT y-> -19342813113834066795298816<=x*y/\x*y<=19342813113834066795298816:=by
  intro x y hx hy;have:((x*y).natAbs:Int)<=2097152*9223372036854775808:=by rw [<- xP];exact aaj (by omega) (uN hy) (by omega) (by decide)
  omega
 have k1:=k (x:=p.2.1-q.2.1) (by omega) ht.2;have k2:=k (x:=p.2.2-q.2.2) (by omega) ht.1;unfold Du;omega
theorem pC {p q:Pt} {t:Int×Int} (hp:ff p) (hq:ff q) (ht:nX t):iT p q t=abV (Ig p q t):=by
 obtain ⟨g1,g2,g3⟩:=NH hp hq ht;unfold iT;rw [oH g1,oH g2,CH g1 ht.2 g2 ht.1 g3];simp only [au,vz,gW,uO];rw [show (p.2.1-q.2.1)*t.2+(p.2.2-q.2.2)*t.1=Du p q t from rfl];unfold Ig;generalize Du p q t=n at*
 by_cases h1:n<0
 · have e1:(n / 18446744073709551616==0)=abY:=by simp;omega
   have e2:abZ (n / 18446744073709551616<0)=abX:=by simp;omega
   rw [ol h1];simp [e1,e2]
 by_cases h2:0<n
 · have e1:((n / 18446744073709551616==0)&&(n%18446744073709551616==0))=abY:=by simp;omega
   have e2:abZ (n / 18446744073709551616<0)=abY:=by simp;omega
   rw [pi h1,ol h2];simp only [e1,e2,ab0,ls,lw]
 have:n=0:=by omega
 subst this;rw [pi h1,pi h2];unfold gG
 by_cases h3:p.2.2<q.2.2
 · simp [h3]
 by_cases h4:q.2.2<p.2.2
 · simp [h3,h4]
 simp [h3,h4]
theorem RH {x y:Int} (hx: -85070591730234615865843651857942052864<=x/\x<=85070591730234615865843651857942052864) (hy: -85070591730234615865843651857942052864<=y/\y<=85070591730234615865843651857942052864):
 rQ (abZ (x<0),(x.natAbs:Int) / 18446744073709551616,(x.natAbs:Int)%18446744073709551616) (abZ (y<0),(y.natAbs:Int) / 18446744073709551616,(y.natAbs:Int)%18446744073709551616)=
  abV (abZ (x+y<0),((x+y).natAbs:Int) / 18446744073709551616,((x+y).natAbs:Int)%18446744073709551616):=by
 have n1:(x.natAbs:Int)<=85070591730234615865843651857942052864:=by omega
 have n2:(y.natAbs:Int)<=85070591730234615865843651857942052864:=by omega
 unfold rQ;rw [EA _ _ (pB _ (by omega) n1) (pB _ (by omega) n2)];have ex:((x.natAbs:Int) / 18446744073709551616)*18446744073709551616+(x.natAbs:Int)%18446744073709551616=(x.natAbs:Int):=by omega
 have ey:((y.natAbs:Int) / 18446744073709551616)*18446744073709551616+(y.natAbs:Int)%18446744073709551616=(y.natAbs:Int):=by omega
 simp only [ex,ey,au];have same: ∀{X Y Z:Int},0<=X->0<=Y->X<=85070591730234615865843651857942052864->Y<=85070591730234615865843651857942052864->Z=X+Y-> ∀b:Bool,
  (bif abZ (aa .u64 (X%18446744073709551616+Y%18446744073709551616)<X%18446744073709551616) then abV (b,aa .u64 (aa .u64 (X / 18446744073709551616+Y / 18446744073709551616)+1),aa .u64 (X%18446744073709551616+Y%18446744073709551616))
   else abV (b,aa .u64 (X / 18446744073709551616+Y / 18446744073709551616),aa .u64 (X%18446744073709551616+Y%18446744073709551616)))=abV (b,Z / 18446744073709551616,Z%18446744073709551616):=by
  intro X Y Z h1 h2 h3 h4 h5 b;subst h5;simp only [wu]
  by_cases h:(X%18446744073709551616+Y%18446744073709551616)%18446744073709551616<X%18446744073709551616
  · simp only [h,decide_true,ls,ut,Do,true_and];constructor<;>omega
  simp only [h,decide_false,lw,ut,Do,true_and];constructor<;>omega
 have minus: ∀{X Y Z:Int} (b c:Bool),0<=X->0<=Y->X<=85070591730234615865843651857942052864->Y<=X->Z=X-Y->mZ (b,X / 18446744073709551616,X%18446744073709551616) (c,Y / 18446744073709551616,Y%18446744073709551616)=abV (abY,Z / 18446744073709551616,Z%18446744073709551616):=by
  intro X Y Z b c h1 h2 h3 h4 h5;subst h5;unfold mZ;simp only [wu]
  by_cases h:X%18446744073709551616<Y%18446744073709551616
  · simp only [h,decide_true,ls,ut,Do,true_and];constructor<;>omega
  simp only [h,decide_false,lw,ut,Do,true_and];constructor<;>omega
 by_cases h1:x<0<;>by_cases h2:y<0
 · have h3:x+y<0:=by omega
   simp only [h1,h2,h3,decide_true,beq_self_eq_true,ls];exact same (by omega) (by omega) n1 n2 (by omega) abX
 · simp only [h1,h2,decide_true,decide_false,show (abX==abY)=abY from rfl,lw,ls]
   by_cases h3:(y.natAbs:Int)<=(x.natAbs:Int)
   · have e:abZ (0<=gG (x.natAbs:Int) (y.natAbs:Int))=abX:=by
      rcases dV (x.natAbs:Int) (y.natAbs:Int) with ⟨h,e⟩|⟨h,e⟩|⟨h,e⟩<;>rw [e]<;>first|rfl|omega
     rw [e,minus (Z:=((x+y).natAbs:Int)) _ _ (by omega) (by omega) n1 h3 (by omega)];simp only [ls,au]
     by_cases h4:x+y=0
     · rw [h4];rfl
     have h5:x+y<0:=by omega
     by_cases h6:0<((x+y).natAbs:Int) / 18446744073709551616
     · simp [h5,h6]
     have h7:0<((x+y).natAbs:Int)%18446744073709551616:=by omega
     simp only [h5,h6,h7,decide_true,decide_false,lw]
   have e:abZ (0<=gG (x.natAbs:Int) (y.natAbs:Int))=abY:=by
    rcases dV (x.natAbs:Int) (y.natAbs:Int) with ⟨h,e⟩|⟨h,e⟩|⟨h,e⟩<;>rw [e]<;>first|rfl|omega
   rw [e,minus (Z:=((x+y).natAbs:Int)) _ _ (by omega) (by omega) n2 (by omega) (by omega)];have h5: ¬(x+y<0):=by omega
   simp [h5]
 · simp only [h1,h2,decide_true,decide_false,show (abY==abX)=abY from rfl,lw]
   by_cases h3:(y.natAbs:Int)<=(x.natAbs:Int)
   · have e:abZ (0<=gG (x.natAbs:Int) (y.natAbs:Int))=abX:=by
      rcases dV (x.natAbs:Int) (y.natAbs:Int) with ⟨h,e⟩|⟨h,e⟩|⟨h,e⟩<;>rw [e]<;>first|rfl|omega
     rw [e,minus (Z:=((x+y).natAbs:Int)) _ _ (by omega) (by omega) n1 h3 (by omega)];have h5: ¬(x+y<0):=by omega
     simp [h5]
   have e:abZ (0<=gG (x.natAbs:Int) (y.natAbs:Int))=abY:=by
    rcases dV (x.natAbs:Int) (y.natAbs:Int) with ⟨h,e⟩|⟨h,e⟩|⟨h,e⟩<;>rw [e]<;>first|rfl|omega
   rw [e,minus (Z:=((x+y).natAbs:Int)) _ _ (by omega) (by omega) n2 (by omega) (by omega)];have h5:x+y<0:=by omega
   simp [h5]
 have h3: ¬(x+y<0):=by omega
 simp only [h1,h2,h3,decide_false,beq_self_eq_true,ls];exact same (by omega) (by omega) n1 n2 (by omega) abY
theorem X6 {p q:Pt} {t:Int×Int} (hp:ff p) (hq:ff q) (ht:nX t):uJ p q t=abV (gG (Du p q t) 0):=by
 obtain ⟨g1,g2,g3⟩:=NH hp hq ht;unfold uJ;rw [oH g1,oH g2,rU g1 ht.2,rU g2 ht.1];simp only [au];rw [RH (qD g1 ht.2) (qD g2 ht.1)];simp only [au];rw [show (p.2.1-q.2.1)*t.2+(p.2.2-q.2.2)*t.1=Du p q t from rfl];obtain ⟨a1,a2,a3,a4,a5,a6⟩:=hp;obtain ⟨b1,b2,b3,b4,b5,b6⟩:=hq;have k: ∀{x y:Int},-2097152<=x/\x<=2097152->rT y-> -19342813113834066795298816<=x*y/\x*y<=19342813113834066795298816:=by
  intro x y hx hy;have:((x*y).natAbs:Int)<=2097152*9223372036854775808:=by rw [<- xP];exact aaj (by omega) (uN hy) (by omega) (by decide)
  omega
 have k1:=k (x:=p.2.1-q.2.1) (by omega) ht.2;have k2:=k (x:=p.2.2-q.2.2) (by omega) ht.1;have:((Du p q t).natAbs:Int)<=85070591730234615865843651857942052864:=by unfold Du;omega
 rw [EB this];rfl
theorem Gu {p q:Pt} {t:Int×Int} (hp:ff p) (hq:ff q) (ht:nX t):m8 p q t=abV (abZ (leads p q t)):=by
 unfold m8 leads;rw [X6 hp hq ht];simp only [au];rcases dV (Du p q t) 0 with ⟨h,e⟩|⟨h,e⟩|⟨h,e⟩<;>rw [e]
 · have h1: ¬(0<Du p q t):=by omega
   have h2: ¬(Du p q t=0):=by omega
   simp [h1,h2]
 · rw [h]
   by_cases h3:p.2.2=q.2.2
   · simp [h3]
   simp [h3,fH h3]
 simp [h]
theorem p5 {p q:Pt} {t:Int×Int} (ht:nX t):lM p q t=abV (if ff p/\ff q/\bT t then (if p.1=q.1 then 2 else 0) else 8):=by
 unfold lM;simp only [sE,dU ht,au]
 by_cases h4:p.1=q.1
 · by_cases h1:ff p<;>by_cases h2:ff q<;>by_cases h3:bT t<;>simp [h1,h2,h3,h4]
 have h5:=ef h4
 by_cases h1:ff p<;>by_cases h2:ff q<;>by_cases h3:bT t<;>simp [h1,h2,h3,h4,h5]
theorem RI {n d:Int} (hn:rT n) (hd:rT d):rH n d=jN n d:=by
 unfold rH jN
 by_cases h0:d=0
 · subst h0;rfl
 have e0:(d==0)=abY:=by simpa using h0
 simp only [e0,lw,k9 hn,k9 hd,gA hn,gA hd,au,vw,lZ];have hp:0<v4 n.natAbs d.natAbs:=ab6 _ (by omega);have e1:((v4 n.natAbs d.natAbs:Int)==0)=abY:=by simp;omega
 simp only [e1,lw];unfold tG oF;simp only [show abZ ((0:Int)<0)=abY from rfl,lw]
 by_cases h3:n=0
 · subst h3
   have z: ∀k:Int,aa .u64 (ww (((0:Int).natAbs:Nat):Int) k)=0:=fun k=>by rw [show (((0:Int).natAbs:Nat):Int)=0 from rfl,Int.zero_tdiv];rfl
   have z2:aa .i64 0=0:=rfl;have z3:aa .i64 (0-0)=0:=rfl;simp only [z,z2,z3,show ((0:Int) !=0)=abY from rfl,lw,show abZ ((0:Int)<0)=abY from rfl];cases (!(abY==abZ (d<0)))<;>simp
 simp only [fH h3]
 cases (!(abZ (n<0)==abZ (d<0)))<;>rfl
noncomputable def met (p q:Pt):Int×Int:=((jN (p.2.1-q.2.1) (q.2.2-p.2.2)).getD ((0,0),0)).1
theorem Ih {n d:Int} (hn: -2097152<=n/\n<=2097152) (hd: -2097152<=d/\d<=2097152) (h0:d≠0): ∃r,jN n d=abV (r,0)/\bT r/\nX r/\r.1*d=n*r.2:=by
 have hn':rT n:=by constructor<;>omega
 have hd':rT d:=by constructor<;>omega
 unfold jN;have e0:(d==0)=abY:=by simpa using h0
 have hp:0<v4 n.natAbs d.natAbs:=ab6 _ (by omega);have e1:((v4 n.natAbs d.natAbs:Int)==0)=abY:=by simp;omega
 simp only [e0,lw,gA hn',gA hd',au,lZ,e1];have q1:ww (n.natAbs:Int) (v4 n.natAbs d.natAbs:Int)=((n.natAbs / v4 n.natAbs d.natAbs:Nat):Int):=by rw [abP]
 have q2:ww (d.natAbs:Int) (v4 n.natAbs d.natAbs:Int)=((d.natAbs / v4 n.natAbs d.natAbs:Nat):Int):=by rw [abP]
 rw [q1,q2];have l1:n.natAbs / v4 n.natAbs d.natAbs<=2097152:=abT (abL _ _) (by omega);have l2:d.natAbs / v4 n.natAbs d.natAbs<=2097152:=abT (abL _ _) (by omega);have l3:1<=d.natAbs / v4 n.natAbs d.natAbs:=Nat.div_pos (Nat.le_of_dvd (by omega) (ab3 _ _)) hp;have co:v4 (d.natAbs / v4 n.natAbs d.natAbs) (n.natAbs / v4 n.natAbs d.natAbs)=1:=by rw [M2,Nat.gcd_div (abG _ _) (ab3 _ _)];exact Nat.div_self hp
 have v1:n.natAbs=v4 n.natAbs d.natAbs*(n.natAbs / v4 n.natAbs d.natAbs):=(abm (abG _ _)).symm;have v2:d.natAbs=v4 n.natAbs d.natAbs*(d.natAbs / v4 n.natAbs d.natAbs):=(abm (ab3 _ _)).symm;have val:(n.natAbs:Int)*((d.natAbs / v4 n.natAbs d.natAbs:Nat):Int)=(d.natAbs:Int)*((n.natAbs / v4 n.natAbs d.natAbs:Nat):Int):=by
  generalize n.natAbs / v4 n.natAbs d.natAbs=a at*;generalize d.natAbs / v4 n.natAbs d.natAbs=b at*;generalize v4 n.natAbs d.natAbs=g at*;rw [v1,v2,abM,abM,abQ,abQ,aa7 (a:Int) (b:Int)]
 clear v1 v2;generalize n.natAbs / v4 n.natAbs d.natAbs=a at*;generalize d.natAbs / v4 n.natAbs d.natAbs=b at*;have w1:aa .u64 (a:Int)=a:=by rw [wu];omega
 have w2:aa .u64 (b:Int)=b:=by rw [wu];omega
 have made: ∀s:Bool,oF s (abY,0,(a:Int)) (abY,0,(b:Int))=abV ((if s=abX then -(a:Int) else a,(b:Int)),0):=by
  intro s;unfold oF;have d1:abZ (9223372036854775807<(a:Int))=abY:=by simp;omega
  have d2:abZ (9223372036854775807<(b:Int))=abY:=by simp;omega
  have v1:aa .i64 (a:Int)=a:=by rw [wi];omega
  have v2:aa .i64 (b:Int)=b:=by rw [wi];omega
  have v3:aa .i64 (0- (a:Int))= -(a:Int):=by rw [wi];omega
  simp only [show abZ ((0:Int)<0)=abY from rfl,lw,d1,d2,v1,v2,v3];cases s<;>simp
 have fin: ∀s:Bool,(if s=abX then -(a:Int) else a)*d=n*b-> ∃r,(abV ((if s=abX then -(a:Int) else a,(b:Int)),(0:Int)):Option ((Int×Int)×Int))=abV (r,0)/\bT r/\nX r/\r.1*d=n*r.2:=by
  intro s hv;refine ⟨_,rfl,?_,?_,hv⟩
  · unfold bT
    dsimp only;refine ⟨by omega,?_,?_⟩
    · cases s
      · simp only [abE,if_false];omega
      simp only [if_true];omega
    rw [show (if s=abX then -(a:Int) else (a:Int)).natAbs=a by cases s<;>simp,show ((b:Int)).natAbs=b by omega];exact co
  constructor
  · dsimp only;cases s
    · simp only [abE,if_false];constructor<;>omega
    simp only [if_true];constructor<;>omega
  dsimp only;constructor<;>omega
 simp only [w1,w2,made,au]
 by_cases h1:(!(abZ (n<0)==abZ (d<0)))=abX
 · rw [h1]
   refine fin (n !=0) ?_
   by_cases OA:n=0
   · subst OA
     have a0:(a:Int)=0:=by
      have:((d.natAbs:Nat):Int)*(a:Int)=0:=by rw [<- val];simp
      rcases Int.mul_eq_zero.1 this with h|h
      · omega
      exact h
     simp [a0]
   have e:(n !=0)=abX:=by simpa using OA
   rw [e,ol rfl]
   by_cases NI:n<0
   · have hd0: ¬d<0:=fun k=>by simp [NI,k] at h1
     have x1:(n.natAbs:Int)= -n:=by omega
     have x2:(d.natAbs:Int)=d:=by omega
     rw [x1,x2,NE] at val;rw [NE,aa7];omega
   have hd0:d<0:=by
    by_cases k:d<0
    · exact k
    simp [NI,k] at h1
   have x1:(n.natAbs:Int)=n:=by omega
   have x2:(d.natAbs:Int)= -d:=by omega
   rw [x1,x2,NE] at val;rw [NE,aa7];omega
 rw [abH] at h1;rw [h1]
 refine fin abY ?_;rw [pi (by simp)]
 by_cases NI:n<0
 · have hd0:d<0:=by
    by_cases k:d<0
    · exact k
    simp [NI,k] at h1
   have x1:(n.natAbs:Int)= -n:=by omega
   have x2:(d.natAbs:Int)= -d:=by omega
   rw [x1,x2,NE,NE] at val;rw [aa7];omega
 have hd0: ¬d<0:=fun k=>by simp [NI,k] at h1
 have x1:(n.natAbs:Int)=n:=by omega
 have x2:(d.natAbs:Int)=d:=by omega
 rw [x1,x2] at val;rw [aa7];omega
theorem Ii {p q:Pt} (hp:ff p) (hq:ff q) (h:p.2.2≠q.2.2):jN (p.2.1-q.2.1) (q.2.2-p.2.2)=abV (met p q,0)/\bT (met p q)/\nX (met p q)/\(met p q).1*(q.2.2-p.2.2)=(p.2.1-q.2.1)*(met p q).2:=by
 obtain ⟨a1,a2,a3,a4,a5,a6⟩:=hp;obtain ⟨b1,b2,b3,b4,b5,b6⟩:=hq;obtain ⟨r,h1,h2,h3⟩:=Ih (n:=p.2.1-q.2.1) (d:=q.2.2-p.2.2) (by omega) (by omega) (by omega);have:met p q=r:=by unfold met;rw [h1];rfl
 rw [this];exact ⟨h1,h2,h3⟩
theorem Dv {p q:Pt} (hp:ff p) (hq:ff q):aa .i64 (p.2.1-q.2.1)=p.2.1-q.2.1/\aa .i64 (q.2.2-p.2.2)=q.2.2-p.2.2/\rT (p.2.1-q.2.1)/\rT (q.2.2-p.2.2):=by
 obtain ⟨a1,a2,a3,a4,a5,a6⟩:=hp;obtain ⟨b1,b2,b3,b4,b5,b6⟩:=hq;have h1:rT (p.2.1-q.2.1):=by constructor<;>omega
 have h2:rT (q.2.2-p.2.2):=by constructor<;>omega
 exact ⟨oH h1,oH h2,h1,h2⟩
noncomputable def vA (h l:Pt) (t:Int×Int):(Int×Int)×Bool:=if leads l h t then (t,abX) else if h.2.2<l.2.2 then (met h l,abX) else ((0,0),abY)
theorem X7 {p q:Pt} (hp:ff p) (hq:ff q) (h:p.2.2≠q.2.2):y4 p q=abV (met p q):=by obtain ⟨w1,w2,_,_⟩:=Dv hp hq;unfold y4;rw [w1,w2,(Ii hp hq h).1];rfl
theorem Ij {h l:Pt} {t:Int×Int} (hh:ff h) (hl:ff l) (ht:nX t):pY h l t=abV (vA h l t):=by
 unfold pY vA;rw [Gu hl hh ht];simp only [au]
 by_cases h1:leads l h t
 · simp [h1]
 simp only [h1,decide_false,lw,if_false]
 by_cases h2:h.2.2<l.2.2
 · simp [h2,X7 hh hl (by omega)]
 simp [h2]
theorem NJ:bT (0,1):=by unfold bT;decide
theorem z4 {h l:Pt} {t:Int×Int} (ht:nX t):
 nT h l t=abV (if ff h/\ff l/\bT t/\h.1≠l.1 then ((vA h l t).1,(vA h l t).2,0) else ((0,0),abY,if ff h/\ff l/\bT t then 2 else 8)):=by
 unfold nT;rw [p5 ht]
 by_cases h1:ff h/\ff l/\bT t
 · rw [ol h1]
   by_cases h2:h.1=l.1
   · simp [h1,h2]
   obtain ⟨hh,hl,hr⟩:=h1
   rw [pi h2,ol ⟨hh,hl,hr,h2⟩];simp only [au,show ((0:Int) !=0)=abY from rfl,lw,pC hl hh ht];unfold vA
   by_cases h3:leads l h t
   · have:abZ (0<Ig l h t)=abX:=by simpa using (B0 l h t).2 h3
     rw [this];simp [h3]
   have:abZ (0<Ig l h t)=abY:=decide_eq_false fun k=>h3 ((B0 l h t).1 k)
   rw [this,pi h3];simp only [lw]
   by_cases h4:h.2.2<l.2.2
   · have e:abZ (l.2.2<=h.2.2)=abY:=by simp;omega
     rw [e,ol h4];unfold tH;obtain ⟨w1,w2,i1,i2⟩:=Dv hh hl;have e2:(h.2.2==l.2.2)=abY:=by simp;omega
     rw [p5 (by constructor<;>constructor<;>decide),ol ⟨hh,hl,NJ⟩,pi h2];simp only [au,show ((0:Int) !=0)=abY from rfl,lw,e2,w1,w2,RI i1 i2,(Ii hh hl (by omega)).1];rfl
   have e:abZ (l.2.2<=h.2.2)=abX:=by simp;omega
   rw [e,pi h4];rfl
 rw [pi h1,pi (fun h=>h1 ⟨h.1,h.2.1,h.2.2.1⟩),pi h1];rfl
theorem NK {h l:Pt} {t:Int×Int} (hh:ff h) (hl:ff l) (ht:nX t) (hr:bT t) (h2:(vA h l t).2=abX):bT (vA h l t).1/\nX (vA h l t).1:=by
 unfold vA at*
 by_cases h3:leads l h t
 · rw [ol h3];exact ⟨hr,ht⟩
 rw [pi h3] at h2 ⊢
 by_cases h4:h.2.2<l.2.2
 · rw [ol h4];have:=(Ii hh hl (by omega)).2;exact ⟨this.1,this.2.1⟩
 rw [pi h4] at h2;cases h2
theorem Ik: ∀(n:Nat) (l:List Nat),l.Nodup->(∀x∈l,x<n)->abU l<=n
 |0,l,_,h=>by
  cases l with
  |nil=>simp
  |cons a l=>exact absurd (h a (by simp)) (by omega)
 |n+1,l,hd,h=>by
  have h1:=Ik n (l.filter (fun x=>x≠n)) (hd.filter _) (by
   intro x hx;rw [abN] at hx;have:=h x hx.1;have h2:x≠n:=by simpa using hx.2
   omega)
  have h2:(abU l)<=(l.filter (fun x=>x≠n)).length+1:=by
   clear h1 h
   induction l with
   |nil=>simp
   |cons a l ih=>
    rw [PP] at hd;have:=ih hd.2
    by_cases ha:a=n
    · subst ha
      have e:l.filter (fun x=>decide (x≠a))=l:=by rw [List.filter_eq_self];intro x hx;simp only [ne_eq,decide_eq_true_eq];rintro rfl;exact hd.1 hx
      rw [List.filter_cons_of_neg (by simp),e];simp
    rw [List.filter_cons_of_pos (by simpa using ha)]
    simp only [abI];omega
  omega
theorem zN {n:Nat} {l:List Nat} (hd:l.Nodup) (h: ∀x∈l,x<n) (hn:n<=abU l): ∀x,x<n->x∈l:=by
 intro x hx;refine v6 fun hc=>?_
 have:=Ik n (x::l) (by rw [PP];exact ⟨hc,hd⟩) (by
  intro y hy;rcases abR.1 hy with rfl|hy
  · exact hx
  exact h y hy)
 simp only [abI] at this;omega
def gX (l:List Pt):Prop:= ∀i,i+1<abU l->(l[i]!).1<(l[i+1]!).1
def cj (l:List Pt):Prop:=abU l<=64/\(∀p∈l,ff p)/\gX l
noncomputable def ik (l:List Pt):Int:=if 64<(abU l) then 4 else if¬(∀p∈l,ff p) then 8 else if¬gX l then 32 else 0
theorem iX {l:List Pt}:ik l=0↔cj l:=by
 unfold ik cj
 by_cases h1:64<abU l
 · rw [ol h1];simp;omega
 rw [pi h1]
 by_cases h2: ∀p∈l,ff p
 · rw [pi (rc.2 h2)]
   by_cases h3:gX l
   · rw [pi (rc.2 h3)]
     exact ⟨fun _=>⟨by omega,h2,h3⟩,fun _=>rfl⟩
   rw [ol h3]
   exact ⟨fun h=>(by cases h),fun h=>absurd h.2.2 h3⟩
 rw [ol h2]
 constructor
 · intro h;cases h
 intro h;exact absurd h.2.1 h2
theorem aV {n:Nat} (h:n<1000000000):aa .i64 ((n:Int)+1)=((n+1:Nat):Int):=by rw [wi];omega
theorem xR {n:Nat} (h:n<1000000000) (h1:1<=n):aa .i64 ((n:Int) -1)=((n-1:Nat):Int):=by rw [wi];omega
theorem aB (n:Nat):pp n=(n:Int):=rfl
theorem Gv (l:List Pt) (h:(abU l)<=64):ax fG (1,l)=abV (.done (if gX l then 0 else 32)):=by
 by_cases hl:(abU l)<=1
 · have:gX l:=fun i hi=>by omega
   rw [ol this];refine aF ?_;unfold fG;rw [aB];have:abZ ((1:Int)<((abU l):Int))=abY:=by simp;omega
   simp [this]
 have key:=dD (body:=fG) (fun i=>(((i+1:Nat):Int),l)) (abU l-1) (fun i=>(l[i+1]!).1<=(l[i]!).1) (r:= .done 32) (e:= .done 0) (by
  intro i hi;have e1:abZ (((i+1:Nat):Int)<((abU l):Int))=abX:=by simp;omega
  have e2:aa .i64 (((i+1:Nat):Int) -1)=(i:Int):=by rw [wi];omega
  have hb:fG (((i+1:Nat):Int),l)=bif abZ ((l[i+1]!).1<=(l[i]!).1) then abV (.done (.done 32)) else abV (.next (((i+1+1:Nat):Int),l)):=by unfold fG;simp only [aB,e1,ls,e2,ar l i (by omega),ar l (i+1) (by omega),au,aV (show i+1<1000000000 by omega)]
  constructor
  · intro hc;rw [hb,decide_eq_true hc];rfl
  · intro hc;rw [hb,decide_eq_false hc];rfl) (by
  unfold fG;have:abZ (((abU l-1+1:Nat):Int)<pp (abU l))=abY:=by rw [aB];simp;omega
  simp only [this,lw])
 by_cases hs:gX l
 · rw [ol hs]
   refine key.2 fun i hi=>?_
   have:=hs i (by omega);omega
 rw [pi hs]
 refine key.1 ?_;unfold gX at hs;simp only [wn] at hs;obtain ⟨i,hi,h2⟩:=hs;exact ⟨i,by omega,by omega⟩
theorem B2 (f:Field):px f=abV (ik f.am):=by
 unfold px ik;rw [aB]
 by_cases h:64<abU f.am
 · have:abZ ((64:Int)<((abU f.am):Int))=abX:=by simp;omega
   rw [this,ol h];rfl
 have:abZ ((64:Int)<((abU f.am):Int))=abY:=by simp;omega
 rw [this,pi h];simp only [lw];generalize f.am=l at*;have key:=dD (body:=iU) (fun i=>((i:Int),l)) (abU l) (fun i=> ¬ff l[i]!) (r:=8) (e:=if gX l then 0 else 32) (by
  intro i hi;have e1:abZ ((i:Int)<((abU l):Int))=abX:=by simp;omega
  have hb:iU ((i:Int),l)=bif (if ff l[i]! then (0:Int) else 8) !=0 then abV (.done 8) else abV (.next (((i+1:Nat):Int),l)):=by unfold iU;simp only [aB,e1,ls,ar l i (by omega),au,BZ,aV (show i<1000000000 by omega)]
  constructor
  · intro hc;rw [hb,pi hc];rfl
  · intro hc;rw [hb,ol (rc.1 hc)];rfl) (by
  unfold iU;have:abZ (((abU l):Int)<pp (abU l))=abY:=by rw [aB];simp
  simp only [this,lw];exact Gv l (by omega))
 by_cases hp: ∀p∈l,ff p
 · rw [pi (rc.2 hp)]
   refine (key.2 fun i hi=>?_).trans ?_
   · exact rc.2 (hp _ (bU hi))
   by_cases hs:gX l
   · simp [hs]
   simp [hs]
 rw [ol hp]
 refine key.1 ?_;obtain ⟨p,hp⟩:=wn.1 hp;obtain ⟨hm,h2⟩:=ab4.1 hp;obtain ⟨i,hi,rfl⟩:=bQ.1 hm;exact ⟨i,hi,h2⟩
theorem Gw (l:List Pt) (h:(abU l)<=64):ax fB (l,((abU l):Int),0,l)=abV (.done (if gX l then 0 else 32)):=by
 have key:=dD (body:=fB) (fun i=>(l,((abU l):Int),(i:Int),l)) (abU l) (fun i=>0<i/\(l[i]!).1<=(l[i-1]!).1) (r:= .done 32) (e:= .done 0) (by
  intro i hi;have e1:abZ ((i:Int)<((abU l):Int))=abX:=by simp;omega
  by_cases h0:0<i
  · have e3:abZ ((0:Int)<(i:Int))=abX:=by simp;omega
    have hb:fB (l,((abU l):Int),(i:Int),l)=bif abZ ((l[i]!).1<=(l[i-1]!).1) then abV (.done (.done 32)) else abV (.next (l,((abU l):Int),((i+1:Nat):Int),l)):=by unfold fB;simp only [e1,e3,ls,ar l i (by omega),xR (show i<1000000000 by omega) h0,ar l (i-1) (by omega),au,aV (show i<1000000000 by omega)]
    constructor
    · intro hc;rw [hb,decide_eq_true hc.2];rfl
    intro hc
    have: ¬(l[i]!).1<=(l[i-1]!).1:=fun h=>hc ⟨h0,h⟩
    rw [hb,decide_eq_false this];rfl
  · have e3:abZ ((0:Int)<(i:Int))=abY:=by simp;omega
    constructor
    · intro hc;exact absurd hc.1 h0
    intro _
    unfold fB;simp only [e1,e3,ls,lw,ar l i (by omega),au,aV (show i<1000000000 by omega)]) (by
  unfold fB;have:abZ (((abU l):Int)<((abU l):Int))=abY:=by simp
  simp only [this,lw])
 by_cases hs:gX l
 · rw [ol hs]
   refine key.2 fun i hi=>?_
   rintro ⟨h0,h1⟩;have:=hs (i-1) (by omega);rw [show i-1+1=i by omega] at this;omega
 rw [pi hs]
 refine key.1 ?_;unfold gX at hs;simp only [wn] at hs;obtain ⟨i,hi,h2⟩:=hs;exact ⟨i+1,by omega,by omega,by rw [show i+1-1=i by omega];omega⟩
theorem iY (f:Field):dY f=abV (ik f.am):=by
 unfold dY ik;rw [aB]
 by_cases h:64<abU f.am
 · have:abZ ((64:Int)<((abU f.am):Int))=abX:=by simp;omega
   rw [this,ol h];rfl
 have:abZ ((64:Int)<((abU f.am):Int))=abY:=by simp;omega
 rw [this,pi h];simp only [lw];generalize f.am=l at*;have key:=dD (body:=iR) (fun i=>(l,((abU l):Int),(i:Int),l)) (abU l) (fun i=> ¬ff l[i]!) (r:=8) (e:=if gX l then 0 else 32) (by
  intro i hi;have e1:abZ ((i:Int)<((abU l):Int))=abX:=by simp;omega
  have hb:iR (l,((abU l):Int),(i:Int),l)=bif (if ff l[i]! then (0:Int) else 8) !=0 then abV (.done (if ff l[i]! then (0:Int) else 8)) else abV (.next (l,((abU l):Int),((i+1:Nat):Int),l)):=by unfold iR;simp only [e1,ls,ar l i (by omega),au,sE,aV (show i<1000000000 by omega)]
  constructor
  · intro hc;rw [hb,pi hc];rfl
  · intro hc;rw [hb,ol (rc.1 hc)];rfl) (by
  unfold iR;have:abZ (((abU l):Int)<((abU l):Int))=abY:=by simp
  simp only [this,lw];exact Gw l (by omega))
 by_cases hp: ∀p∈l,ff p
 · rw [pi (rc.2 hp)]
   refine (key.2 fun i hi=>?_).trans ?_
   · exact rc.2 (hp _ (bU hi))
   by_cases hs:gX l
   · simp [hs]
   simp [hs]
 rw [ol hp]
 refine key.1 ?_;obtain ⟨p,hp⟩:=wn.1 hp;obtain ⟨hm,h2⟩:=ab4.1 hp;obtain ⟨i,hi,rfl⟩:=bQ.1 hm;exact ⟨i,hi,h2⟩
theorem oa {l:List Pt} (h:gX l) {i j:Nat} (lr:i<j) (hj:j<abU l):(l[i]!).1<(l[j]!).1:=by
 induction j with
 |zero=>omega
 |succ j ih=>
  have h1:=h j hj
  by_cases he:i=j
  · subst he;exact h1
  have:=ih (by omega) (by omega);omega
theorem oJ {l:List Pt} (h:gX l) {i j:Nat} (hi:i<abU l) (hj:j<abU l) (he:(l[i]!).1=(l[j]!).1):i=j:=by
 rcases Nat.lt_trichotomy i j with h1|h1|h1
 · have:=oa h h1 hj;omega
 · exact h1
 have:=oa h h1 hi;omega
theorem zO (l:List Pt) (id:Int) (hl:(abU l)<=1000000):(∀k,k<abU l->(l[k]!).1=id->(∀j,j<k->(l[j]!).1≠id)->eK ⟨l⟩ id=abV (k:Int))/\((∀k,k<abU l->(l[k]!).1≠id)->eK ⟨l⟩ id=abV (-1)):=by
 unfold eK;refine ke (body:=mX) (fun i=>(id,(i:Int),l)) (abU l) (fun i=>(l[i]!).1=id) (fun i=>(i:Int)) (fun i hi=>?_) ?_
 · have e1:abZ ((i:Int)<((abU l):Int))=abX:=by simp;omega
   have hb:mX (id,(i:Int),l)=bif (l[i]!).1==id then abV (.done (i:Int)) else abV (.next (id,((i+1:Nat):Int),l)):=by unfold mX;simp only [aB,e1,ls,ar l i hi,au,aV (show i<1000000000 by omega)]
   constructor
   · intro hc;rw [hb,fe hc];rfl
   intro hc;rw [hb,ef hc];rfl
 unfold mX
 have:abZ (((abU l):Int)<((abU l):Int))=abY:=by simp
 simp only [aB,this,lw]
theorem Dw {l:List Pt} (hs:gX l) (hl:(abU l)<=1000000) {k:Nat} (hk:k<abU l) {id:Int} (he:(l[k]!).1=id):eK ⟨l⟩ id=abV (k:Int):=by
 refine (zO l id hl).1 k hk he fun j hj hc=>?_
 have:=oa hs hj hk;omega
theorem RJ {l:List Pt} (hl:(abU l)<=1000000) {id:Int} (h: ∀k,k<abU l->(l[k]!).1≠id):eK ⟨l⟩ id=abV (-1):=(zO l id hl).2 h
theorem Gx (f:Nat->Int) (id:Int): ∀(n:Nat),(∀i j,i<j->j<n->f i<f j)-> ∃m,m<=n/\(∀i,i<m->f i<id)/\(∀i,m<=i->i<n->id<=f i)
 |0,_=>⟨0,ab8 _,fun i h=>by omega,fun i _ h=>by omega⟩
 |n+1,h=>by
  obtain ⟨m,h1,h2,h3⟩:=Gx f id n fun i j a b=>h i j a (by omega)
  by_cases hm:m=n
  · by_cases hf:f n<id
    · refine ⟨n+1,ab8 _,fun i hi=>?_,fun i a b=>by omega⟩
      by_cases he:i=n
      · subst he;exact hf
      exact h2 i (by omega)
    refine ⟨n,by omega,fun i hi=>h2 i (by omega),fun i a b=>?_⟩
    have:i=n:=by omega
    subst this;omega
  refine ⟨m,by omega,h2,fun i a b=>?_⟩
  by_cases he:i=n
  · subst he
    have:=h m i (by omega) (by omega);have:=h3 m (ab8 _) (by omega);omega
  exact h3 i a (by omega)
theorem jO {α:Type} [Inhabited α] {l:List α}:l.Nodup↔ ∀i j,i<j->j<abU l->l[i]!≠l[j]!:=by
 unfold List.Nodup;rw [List.pairwise_iff_getElem];constructor
 · intro h i j lr hj
   rw [getElem!_pos l i (by omega),getElem!_pos l j hj];exact h i j (by omega) hj lr
 intro h i j hi hj lr
 have:=h i j lr hj
 rwa [getElem!_pos l i hi,getElem!_pos l j hj] at this
theorem eC {α:Type} [Inhabited α] {l:List α} {k:Nat} {x:α}:x∈l.take k↔ ∃i,i<k/\i<abU l/\l[i]! =x:=by
 rw [bQ];constructor
 · rintro ⟨i,hi,rfl⟩
   rw [ab7] at hi;exact ⟨i,by omega,by omega,(uL (by omega)).symm⟩
 rintro ⟨i,h1,h2,rfl⟩
 exact ⟨i,by rw [ab7];omega,uL h1⟩
theorem oK {α:Type} [Inhabited α] {l:List α} {k:Nat} (h:k<abU l):l.take (k+1)=l.take k++[l[k]!]:=by rw [List.take_add_one,ab5 h,getElem!_pos l k h];rfl
def marks (l:List Bool):List Int->List Bool
 | []=>l
 |x::r=>marks (bA l x abX) r
theorem l9: ∀(r:List Int) (l:List Bool),(marks l r).length=abU l
 | [],_=>rfl
 |x::r,l=>by rw [marks,l9 r,xk]
theorem B3: ∀(r:List Int) (l:List Bool) (x:Int),marks l (r++[x])=bA (marks l r) x abX
 | [],_,_=>rfl
 |y::r,l,x=>by show marks (bA l y abX) (r++[x])=_;rw [B3 r];rfl
theorem qE : ∀ (r : List Int) (l : List Bool) (i : Nat), (∀ x ∈ r, 0 <= x) -> i < (abU l) -> (marks l r)[i]! = (l[i]! || abZ ((i : Int) ∈ r))
  | [], l, i, _, _ => by simp [marks]
  | x :: r, l, i, h, hi => by
    rw [marks, qE r _ i (fun y hy => h y (by simp [hy])) (by rw [xk]; exact hi)]
    obtain ⟨k, rfl⟩ := IR (h x (by simp))
    rw [ij, bn]
    by_cases e : i = k
    · subst e; rw [ol ⟨rfl, hi⟩]; simp
    rw [pi (fun h => e h.1)]
    have : ((i : Int) ∈ (k : Int) :: r) ↔ (i : Int) ∈ r := by
      rw [abR]
      constructor
      · rintro (h | h)
        · omega
        exact h
      exact .inr
    simp only [this]
theorem B4 (l:List Bool) (h:(abU l)<=1000000):cP l abY=abV (abZ (abY∈l)):=by
 unfold cP kK;have key:=ke (body:=eH) (fun i=>(l,abY,((abU l):Int),(i:Int))) (abU l) (fun i=>l[i]! =abY) (fun i=>(i:Int)) (e:= -1) (fun i hi=>by
  have e1:abZ ((i:Int)<((abU l):Int))=abX:=by simp;omega
  have hb:eH (l,abY,((abU l):Int),(i:Int))=bif abY==l[i]! then abV (.done (i:Int)) else abV (.next (l,abY,((abU l):Int),((i+1:Nat):Int))):=by unfold eH;simp only [e1,ls,ar l i hi,au,aV (show i<1000000000 by omega)]
  constructor
  · intro hc;rw [hb,hc];rfl
  · intro hc
    have:l[i]! =abX:=by simpa using hc
    rw [hb,this];rfl) (by
  unfold eH;have:abZ (((abU l):Int)<((abU l):Int))=abY:=by simp
  simp only [this,lw])
 rw [aB]
 by_cases hx:abY∈l
 · obtain ⟨i,hi,he⟩:=bQ.1 hx
   obtain ⟨k,h1,h2,h3⟩:=least (c:=fun i=>l[i]! =abY) ⟨i,hi,he⟩;have:=key.1 k h1 h2 h3;rw [show ((0:Nat):Int)=0 from rfl] at this;rw [this];have e:abZ ((0:Int)<=(k:Int))=abX:=by simp
   simp [hx]
 have:=key.2 fun i hi he=>hx (bQ.2 ⟨i,hi,he⟩)
 rw [show ((0:Nat):Int)=0 from rfl] at this;rw [this];simp [hx]
structure gi (s:aO):Prop where
 n1:1<=abU s.aC
 n2:(abU s.aC)<=200
 ul:(abU s.be)=abU s.aC
 fr: ∀x∈s.bi,0<=x/\x<abU s.aC
 fd:s.bi.Nodup
 uf: ∀i,i<abU s.aC->(s.be[i]! =abX↔(i:Int)∉s.bi)
 us: ∀i,i<abU s.aC->0<=s.aC[i]!/\s.aC[i]!<=1000000/\(s.be[i]! =abX->1<=s.aC[i]!)
theorem Il (aC:List Int) (be:List Bool) (fr:List Int) (h1:(abU aC)<=200) (h2:(abU be)=abU aC):
 ax eA (aC,((abU aC):Int),0,aC,be,fr)=abV (.done (if∀i,i<abU aC->0<=aC[i]!/\aC[i]!<=1000000/\(be[i]! =abX->1<=aC[i]!) then 0 else 8)):=by
 have key:=dD (body:=eA) (fun i=>(aC,((abU aC):Int),(i:Int),aC,be,fr)) (abU aC) (fun i=> ¬(0<=aC[i]!/\aC[i]!<=1000000/\(be[i]! =abX->1<=aC[i]!))) (r:= .done 8) (e:= .done 0) (fun i hi=>by
  have e1:abZ ((i:Int)<((abU aC):Int))=abX:=by simp;omega
  have hb:eA (aC,((abU aC):Int),(i:Int),aC,be,fr)=bif abZ (aC[i]!<0) then abV (.done (.done 8)) else bif abZ (1000000<aC[i]!) then abV (.done (.done 8)) else bif aC[i]! ==0 then (bif be[i]! then abV (.done (.done 8)) else abV (.next (aC,((abU aC):Int),((i+1:Nat):Int),aC,be,fr))) else abV (.next (aC,((abU aC):Int),((i+1:Nat):Int),aC,be,fr)):=by unfold eA;simp only [e1,ls,ar aC i hi,ar be i (by omega),au,aV (show i<1000000000 by omega)]
  rw [hb];generalize aC[i]! =u at*
  by_cases a1:u<0
  · simp [a1];omega
  · by_cases a2:1000000<u
    · simp [a1,a2];omega
    by_cases a3:u=0
    · subst a3
      cases be[i]!<;>simp
    have a4:1<=u:=by omega
    have a5:0<=u:=by omega
    have a6:u<=1000000:=by omega
    simp [a1,a2,ef a3,a4,a5,a6]) (by
  unfold eA;have:abZ (((abU aC):Int)<((abU aC):Int))=abY:=by simp
  simp only [this,lw])
 by_cases hc: ∀i,i<abU aC->0<=aC[i]!/\aC[i]!<=1000000/\(be[i]! =abX->1<=aC[i]!)
 · rw [ol hc]
   exact key.2 fun i hi=>rc.2 (hc i hi)
 rw [pi hc]
 simp only [wn] at hc;obtain ⟨i,hi,hx⟩:=hc;exact key.1 ⟨i,hi,by simpa only [wn] using hx⟩
theorem vB (s:aO) (hf:(abU s.bi)<=1000000):lO s=abV (if gi s then 0 else 8):=by
 obtain ⟨aC,be,fr⟩:=s;dsimp only at hf;unfold lO;simp only [aB]
 by_cases a1:(abU aC)<1
 · have e:abZ (((abU aC):Int)<1)=abX:=by simp;omega
   rw [e,pi (fun h=>by have:=h.n1;dsimp only at this;omega)];rfl
 have e1:abZ (((abU aC):Int)<1)=abY:=by simp;omega
 by_cases a2:200<abU aC
 · have e:abZ (200<((abU aC):Int))=abX:=by simp;omega
   rw [e1,e,pi (fun h=>by have:=h.n2;dsimp only at this;omega)];rfl
 have e2:abZ (200<((abU aC):Int))=abY:=by simp;omega
 by_cases a3:(abU be)=abU aC
 case neg=>
  have e:(((abU be):Int) !=((abU aC):Int))=abX:=by simp;omega
  rw [e1,e2,e,pi (fun h=>a3 h.ul)];rfl
 have e3:(((abU be):Int) !=((abU aC):Int))=abY:=by simp;omega
 simp only [e1,e2,e3,lw,bg (show (abU be)<=1048576 by omega),au];have Jz:=Il aC be fr (by omega) a3;have key:=dD (body:=mr be) (fun k=>(fr,((abU fr):Int),(k:Int),aC,be,fr,((abU aC):Int),marks be (fr.take k))) (abU fr)
  (fun k=>fr[k]!<0\/((abU aC):Int)<=fr[k]!\/(marks be (fr.take k))[(fr[k]!).toNat]! =abX) (r:=8)
  (e:=if abY∈marks be fr then 8 else if∀i,i<abU aC->0<=aC[i]!/\aC[i]!<=1000000/\(be[i]! =abX->1<=aC[i]!) then 0 else 8) (fun k hk=>by
   have f1:abZ ((k:Int)<((abU fr):Int))=abX:=by simp;omega
   have f2:((marks be (fr.take k)).length==abU be)=abX:=by rw [l9];simp
   have f3:abZ ((0:Int)<=(k:Int))=abX:=by simp
   have f4: ∀x:Int,((bA (marks be (fr.take k)) x abX).length==(marks be (fr.take k)).length)=abX:=by intro x;rw [xk];simp
   have f5:marks be (fr.take (k+1))=bA (marks be (fr.take k)) fr[k]! abX:=by rw [oK hk,B3]
   unfold mr;simp only [f1,f2,f3,f4,ls,beq_self_eq_true,ar fr k hk,au,aV (show k<1000000000 by omega),f5];clear f5;generalize fr[k]! =x
   by_cases b1:x<0
   · simp [b1]
   · by_cases b2:((abU aC):Int)<=x
     · simp [b1,b2]
     simp only [b1,b2,decide_false,lw,false_or]
     rw [jB (l:=marks be (fr.take k)) (i:=x) (by omega) (by rw [l9];omega)];simp only [au];cases (marks be (fr.take k))[x.toNat]!<;>simp) (by
   have f1:abZ (((abU fr):Int)<((abU fr):Int))=abY:=by simp
   unfold mr;simp only [f1,lw,List.take_length];rw [B4 _ (by rw [l9];omega)];have f2:((marks be fr).length==abU be)=abX:=by rw [l9];simp
   simp only [f2,ls,au,aB,Jz]
   by_cases hx:abY∈marks be fr
   · simp [hx]
   simp [hx])
 have h0:marks be (fr.take 0)=be:=rfl;rw [show ((0:Nat):Int)=0 from rfl,h0] at key
 by_cases bad: ∃k,k<abU fr/\(fr[k]!<0\/((abU aC):Int)<=fr[k]!\/(marks be (fr.take k))[(fr[k]!).toNat]! =abX)
 · rw [key.1 bad,pi]
   intro ok;obtain ⟨k,hk,hb⟩:=bad;have hr:=ok.fr fr[k]! (bU hk);dsimp only at hr;rcases hb with hb|hb|hb
   · omega
   · omega
   rw [qE _ _ _ (fun x hx=>(ok.fr x (abb hx)).1) (by omega)] at hb
   have hi:((fr[k]!).toNat:Int)=fr[k]!:=by omega
   rw [hi,Bool.or_eq_true] at hb;rcases hb with hb|hb
   · have:=(ok.uf (fr[k]!).toNat (by show _<abU aC;omega)).1 hb
     rw [hi] at this;exact this (bU hk)
   have hm:fr[k]!∈fr.take k:=by simpa using hb
   obtain ⟨j,h1,h2,h3⟩:=eC.1 hm;exact jO.1 ok.fd j k h1 hk h3
 have X8: ∀k,k<abU fr->0<=fr[k]!/\fr[k]!<abU aC/\(marks be (fr.take k))[(fr[k]!).toNat]! =abY:=by
  intro k hk;refine ⟨?_,?_,?_⟩
  · exact Int.not_lt.1 fun h=>bad ⟨k,hk,.inl h⟩
  · exact Int.not_le.1 fun h=>bad ⟨k,hk,.inr (.inl h)⟩
  exact abH _▸fun h=>bad ⟨k,hk,.inr (.inr h)⟩
 rw [key.2 fun k hk hb=>bad ⟨k,hk,hb⟩];have rng: ∀x∈fr,0<=x/\x<((abU aC):Int):=by intro x hx;obtain ⟨k,hk,rfl⟩:=bQ.1 hx;exact ⟨(X8 k hk).1,(X8 k hk).2.1⟩
 have g2: ∀k,k<abU fr->be[(fr[k]!).toNat]! =abY/\fr[k]!∉fr.take k:=by intro k hk;obtain ⟨c1,c2,c3⟩:=X8 k hk;rw [qE _ _ _ (fun x hx=>(rng x (abb hx)).1) (by omega),show ((fr[k]!).toNat:Int)=fr[k]! by omega,abk] at c3;exact ⟨c3.1,by simpa using c3.2⟩
 have nd:fr.Nodup:=jO.2 fun i j lr hj he=>(g2 j hj).2 (eC.2 ⟨i,lr,by omega,he⟩)
 by_cases hx:abY∈marks be fr
 · rw [ol hx,pi]
   intro ok;obtain ⟨i,hi,he⟩:=bQ.1 hx;rw [l9] at hi;rw [qE _ _ _ (fun x hx=>(rng x hx).1) hi,abk] at he;have h3:(i:Int)∉fr:=by simpa using he.2
   have:=(ok.uf i (by show _<abU aC;omega)).2 h3;rw [show be[i]! =abY from he.1] at this;cases this
 rw [pi hx]
 by_cases hu: ∀i,i<abU aC->0<=aC[i]!/\aC[i]!<=1000000/\(be[i]! =abX->1<=aC[i]!)
 · rw [ol hu,ol]
   refine ⟨by show 1<=abU aC;omega,by show (abU aC)<=200;omega,a3,rng,nd,fun i hi=>?_,hu⟩;dsimp only at hi ⊢;constructor
   · intro h1 h2
     obtain ⟨k,hk,he⟩:=bQ.1 h2;have:=(g2 k hk).1;rw [he,show ((i:Int)).toNat=i by omega,h1] at this;cases this
   intro h1
   refine v6 fun h2=>hx ?_
   refine bQ.2 ⟨i,by rw [l9];omega,?_⟩;rw [qE _ _ _ (fun x hx=>(rng x hx).1) (by omega)];have:be[i]! =abY:=by simpa using h2
   rw [this];simpa using h1
 rw [pi hu,pi]
 intro ok;exact hu ok.us
theorem gi.fl {s:aO} (ok:gi s):(abU s.bi)<=(abU s.aC):=by
 have h:=Ik (abU s.aC) (s.bi.map abS) (by
  rw [jO];intro i j lr hj he;rw [UV] at hj;have e: ∀k,k<abU s.bi->(s.bi.map abS)[k]! =(s.bi[k]!).toNat:=by intro k hk;rw [getElem!_pos _ k (by simpa using hk),List.getElem_map,getElem!_pos s.bi k hk]
  rw [e i (by omega),e j hj] at he;have h1:=(ok.fr _ (bU (show i<(abU s.bi) by omega))).1;have h2:=(ok.fr _ (bU hj)).1;exact jO.1 ok.fd i j lr hj (by omega)) (by
  intro x hx;obtain ⟨y,hy,rfl⟩:=EQ.1 hx;have:=ok.fr y hy;omega)
 rwa [UV] at h
def bY (s:aO):Nat:=(s.bi[abU s.bi-1]!).toNat
def tU (s:aO):Prop:=0<abU s.bi/\s.aC[bY s]!<1000000
def eM (s:aO):aO:=⟨s.aC.set (bY s) (s.aC[bY s]!+1),s.be.set (bY s) abX,s.bi.take (abU s.bi-1)⟩
def iH (s:aO):Int×Int:=((bY s:Int),s.aC[bY s]!+1)
theorem vC {s:aO} (ok:gi s):oE s=abV s:=by have hl:=ok.fl;have hn:=ok.n2;have hu:=ok.ul;unfold oE;simp only [au,bg (show (abU s.aC)<=1048576 by omega),bg (show (abU s.be)<=1048576 by omega),bg (show (abU s.bi)<=1048576 by omega)]
theorem uP {s:aO} (ok:gi s) (h:0<abU s.bi):bY s<abU s.aC/\(bY s:Int)=s.bi[abU s.bi-1]!/\(bY s:Int)∈s.bi:=by
 have hm:=bU (l:=s.bi) (i:=abU s.bi-1) (by omega);have:=ok.fr _ hm;have e:(bY s:Int)=s.bi[abU s.bi-1]!:=by unfold bY;omega
 refine ⟨by omega,e,by rw [e];exact hm⟩
theorem qF {α:Type} (l:List α) (n:Nat) (h:n<=abU l):gx l 0 (n:Int)=abV (l.take n):=by unfold gx;rw [ol ⟨by omega,by omega,by omega⟩];simp
theorem xS {s:aO} (ok:gi s):uI s=abV (if tU s then (eM s,iH s,0) else (⟨[],[],[]⟩,(0,0),18)):=by
 have hl:=ok.fl;have hn:=ok.n2;have hu:=ok.ul;unfold uI tU;rw [vB s (by omega),ol ok];simp only [au,show ((0:Int) !=0)=abY from rfl,lw,aB]
 by_cases a1:0<abU s.bi
 · obtain ⟨n1,n2,n3⟩:=uP ok a1
   have e1:(((abU s.bi):Int)==0)=abY:=ef (by omega);have e2:aa .i64 (((abU s.bi):Int) -1)=((abU s.bi-1:Nat):Int):=xR (by omega) (by omega);unfold oC;simp only [e1,lw,aB,e2,qF s.bi (abU s.bi-1) (by omega),au,bg (show (s.bi.take (abU s.bi-1)).length<=1048576 by rw [ab7];omega),
    ar s.bi (abU s.bi-1) (by omega),<- n2,ar s.aC (bY s) n1]
   obtain ⟨u1,u2,u3⟩:=ok.us (bY s) n1
   by_cases a2:s.aC[bY s]! =1000000
   · have e3:(s.aC[bY s]! ==1000000)=abX:=by simpa using a2
     rw [e3,pi (by omega)];rfl
   have e3:(s.aC[bY s]! ==1000000)=abY:=by simpa using a2
   have e4:aa .i64 (s.aC[bY s]!+1)=s.aC[bY s]!+1:=by rw [wi];omega
   rw [e3,ol (by omega)];simp only [lw,bg (show (abU s.aC)<=1048576 by omega),bg (show (abU s.be)<=1048576 by omega),au,ar s.be (bY s) (by omega),ar s.aC (bY s) n1,e4,ij,
    ar (s.aC.set (bY s) (s.aC[bY s]!+1)) (bY s) (by rw [pm];exact n1),bn,n1,and_self,if_true,eM,iH]
 have e1:(((abU s.bi):Int)==0)=abX:=fe (by omega)
 rw [e1,pi (fun h=>a1 h.1)];rfl
theorem vD {s:aO} (ok:gi s):eZ s=abV (abZ (tU s)):=by
 have hl:=ok.fl;have hn:=ok.n2;have hu:=ok.ul;unfold eZ tU;simp only [aB]
 by_cases a1:0<abU s.bi
 · obtain ⟨n1,n2,n3⟩:=uP ok a1
   have e1:abZ ((0:Int)<((abU s.bi):Int))=abX:=by simp;omega
   have e2:aa .i64 (((abU s.bi):Int) -1)=((abU s.bi-1:Nat):Int):=xR (by omega) (by omega);simp only [e1,e2,ls,ar s.bi (abU s.bi-1) (by omega),au,<- n2,ar s.aC (bY s) n1,a1,true_and]
 have e1:abZ ((0:Int)<((abU s.bi):Int))=abY:=decide_eq_false (by omega)
 rw [e1];simp [a1]
theorem B5 {s:aO} (ok:gi s) (h:tU s):tT s=abV (eM s,iH s):=by
 have hl:=ok.fl;have hn:=ok.n2;have hu:=ok.ul;obtain ⟨a1,a2⟩:=h;obtain ⟨n1,n2,n3⟩:=uP ok a1;obtain ⟨u1,u2,u3⟩:=ok.us (bY s) n1;unfold tT;rw [vC ok];have e2:aa .i64 (((abU s.bi):Int) -1)=((abU s.bi-1:Nat):Int):=xR (by omega) (by omega);have e4:aa .i64 (s.aC[bY s]!+1)=s.aC[bY s]!+1:=by rw [wi];omega
 simp only [au,aB,e2,ar s.bi (abU s.bi-1) (by omega),qF s.bi (abU s.bi-1) (by omega),<- n2,ar s.aC (bY s) n1,ar s.be (bY s) (by omega),e4,ij,
  ar (s.aC.set (bY s) (s.aC[bY s]!+1)) (bY s) (by rw [pm];exact n1),bn,n1,and_self,if_true,eM,iH,Int.toNat_natCast]
theorem NL {s:aO} (ok:gi s) (h:tU s):gi (eM s):=by
 have hl:=ok.fl;have hn:=ok.n2;have hu:=ok.ul;obtain ⟨a1,a2⟩:=h;obtain ⟨n1,n2,n3⟩:=uP ok a1;have mt: ∀x:Int,x∈s.bi.take (abU s.bi-1)↔(x∈s.bi/\x≠(bY s:Int)):=by
  intro x;rw [eC];constructor
  · rintro ⟨i,h1,h2,rfl⟩
    refine ⟨bU h2,?_⟩;rw [n2];exact jO.1 ok.fd i (abU s.bi-1) h1 (by omega)
  rintro ⟨h1,h2⟩
  obtain ⟨i,hi,rfl⟩:=bQ.1 h1;refine ⟨i,?_,hi,rfl⟩;refine v6 fun hc=>h2 ?_
  rw [n2,show i=abU s.bi-1 by omega]
 refine ⟨?_,?_,?_,?_,?_,?_,?_⟩
 · show 1<=(s.aC.set _ _).length;rw [pm];exact ok.n1
 · show (s.aC.set _ _).length<=200;rw [pm];exact ok.n2
 · show (s.be.set _ _).length=(s.aC.set _ _).length;rw [pm,pm];exact hu
 · intro x hx
   show 0<=x/\x<((s.aC.set _ _).length:Int);rw [pm];exact ok.fr x ((mt x).1 hx).1
 · exact ok.fd.sublist (List.take_sublist _ _)
 · intro i hi
   change i<(s.aC.set _ _).length at hi;rw [pm] at hi;show (s.be.set (bY s) abX)[i]! =abX↔(i:Int)∉s.bi.take (abU s.bi-1);rw [bn,mt]
   by_cases e:i=bY s
   · rw [ol ⟨e,by omega⟩]
     simp [e]
   rw [pi (fun k=>e k.1),ok.uf i hi]
   have:(i:Int)≠(bY s:Int):=by omega
   simp [this]
 intro i hi
 change i<(s.aC.set _ _).length at hi;rw [pm] at hi;obtain ⟨u1,u2,u3⟩:=ok.us i hi;show 0<=(s.aC.set (bY s) (s.aC[bY s]!+1))[i]!/\(s.aC.set (bY s) (s.aC[bY s]!+1))[i]!<=1000000/\((s.be.set (bY s) abX)[i]! =abX->1<=(s.aC.set (bY s) (s.aC[bY s]!+1))[i]!);rw [bn,bn]
 by_cases e:i=bY s
 · subst e
   rw [ol ⟨rfl,n1⟩];refine ⟨by omega,by omega,fun _=>by omega⟩
 rw [pi (fun k=>e k.1),pi (fun k=>e k.1)]
 exact ⟨u1,u2,u3⟩
abbrev Ev:=Int×Int×Int×Int×Int
abbrev Ev.num (x:Ev):Int:=x.2.2.1
abbrev Ev.ix (x:Ev):Int:=x.2.2.2.1
abbrev Ev.n (x:Ev):Nat:=x.2.2.2.1.toNat
theorem abn {x:Ev} {k:Nat} (h:x.ix<(k:Int)) (h0:0<=x.ix):x.n<k:=by show x.ix.toNat<k;omega
theorem afP {x y:Ev} (h0:0<=x.ix) (h1:0<=y.ix) (h:x.ix≠y.ix):x.n≠y.n:=by
 show x.ix.toNat≠y.ix.toNat
 omega
def less (x y:Ev):Prop:=xQ (x.1,x.2.1) (y.1,y.2.1)<0\/(xQ (x.1,x.2.1) (y.1,y.2.1)=0/\x.2.2.1<y.2.2.1)
theorem JA {a b:Int×Int}:xQ a b<0↔a.1*b.2<b.1*a.2:=by unfold xQ;rcases dV (a.1*b.2) (b.1*a.2) with ⟨h,e⟩|⟨h,e⟩|⟨h,e⟩<;>rw [e]<;>constructor<;>intro<;>omega
theorem JB {a b:Int×Int}:xQ a b=0↔a.1*b.2=b.1*a.2:=by unfold xQ;rcases dV (a.1*b.2) (b.1*a.2) with ⟨h,e⟩|⟨h,e⟩|⟨h,e⟩<;>rw [e]<;>constructor<;>intro<;>omega
theorem ma {x y:Ev} (h:less x y): ¬less y x:=by unfold less at*;rw [JA,JB] at*;dsimp only at*;rintro (k|k)<;>rcases h with h|h<;>omega
theorem Io {a1 a2 b1 b2 c1 c2:Int} (ha:1<=a2) (hb:1<=b2) (hc:1<=c2) (h1:a1*b2<=b1*a2) (h2:b1*c2<=c1*b2):a1*c2<=c1*a2:=by
 have e1:a1*b2*c2<=b1*a2*c2:=AC h1 (by omega);have e2:b1*c2*a2<=c1*b2*a2:=AC h2 (by omega);have e3:(a1*c2)*b2<=(c1*a2)*b2:=by
  have r1:(a1*c2)*b2=a1*b2*c2:=by grind
  have r2:b1*a2*c2=b1*c2*a2:=by grind
  have r3:c1*b2*a2=(c1*a2)*b2:=by grind
  omega
 exact Int.le_of_mul_le_mul_right e3 (by omega)
theorem CI {a1 a2 b1 b2 c1 c2:Int} (ha:1<=a2) (hb:1<=b2) (hc:1<=c2) (h1:a1*b2<b1*a2) (h2:b1*c2<=c1*b2):a1*c2<c1*a2:=by
 have e1:a1*b2*c2<b1*a2*c2:=aag h1 (by omega);have e2:b1*c2*a2<=c1*b2*a2:=AC h2 (by omega);have e3:(a1*c2)*b2<(c1*a2)*b2:=by
  have r1:(a1*c2)*b2=a1*b2*c2:=by grind
  have r2:b1*a2*c2=b1*c2*a2:=by grind
  have r3:c1*b2*a2=(c1*a2)*b2:=by grind
  omega
 exact ab1 e3 (by omega)
theorem B6 {a1 a2 b1 b2 c1 c2:Int} (ha:1<=a2) (hb:1<=b2) (hc:1<=c2) (h1:a1*b2<=b1*a2) (h2:b1*c2<c1*b2):a1*c2<c1*a2:=by
 have e1:a1*b2*c2<=b1*a2*c2:=AC h1 (by omega);have e2:b1*c2*a2<c1*b2*a2:=aag h2 (by omega);have e3:(a1*c2)*b2<(c1*a2)*b2:=by
  have r1:(a1*c2)*b2=a1*b2*c2:=by grind
  have r2:b1*a2*c2=b1*c2*a2:=by grind
  have r3:c1*b2*a2=(c1*a2)*b2:=by grind
  omega
 exact ab1 e3 (by omega)
theorem za {x y z:Ev} (hx:1<=x.2.1) (hy:1<=y.2.1) (hz:1<=z.2.1) (h1: ¬less y x) (h2: ¬less z y): ¬less z x:=by
 unfold less at*;rw [JA,JB] at*;dsimp only at*;have t1:= @Io x.1 x.2.1 y.1 y.2.1 z.1 z.2.1 hx hy hz;have t2:= @CI x.1 x.2.1 y.1 y.2.1 z.1 z.2.1 hx hy hz;have t3:= @B6 x.1 x.2.1 y.1 y.2.1 z.1 z.2.1 hx hy hz;generalize x.1*y.2.1=p at*;generalize y.1*x.2.1=q at*;generalize y.1*z.2.1=r at*;generalize z.1*y.2.1=s at*;generalize x.1*z.2.1=u at*;generalize z.1*x.2.1=v at*;have a1:p<=q:=by omega
 have a2:r<=s:=by omega
 have a3:=t1 a1 a2;rintro (k|k)
 · omega
 by_cases b1:p<q
 · have:=t2 b1 a2;omega
 by_cases b2:r<s
 · have:=t3 a1 b2;omega
 omega
structure zb (n:Nat) (x:Ev) (M:Ev->Prop) (H:List Ev) (W:List Int) (i:Nat):Prop where
 lt:i<n
 hn:n<=abU H
 ix: ∀w,w<n->w≠i->0<=(H[w]!).ix/\(H[w]!).ix<abU W/\W[(H[w]!).n]! =(w:Int)/\(H[w]!).ix≠x.ix
 x0:0<=x.ix
 x1:x.ix<abU W
 mem: ∀e,(∃w,w<n/\w≠i/\H[w]! =e)↔M e
theorem zb.move {n:Nat} {x:Ev} {M:Ev->Prop} {H:List Ev} {W:List Int} {i j:Nat} (h:zb n x M H W i) (hj:j<n) (lr:j≠i):zb n x M (H.set i H[j]!) (W.set (H[j]!).n (i:Int)) j:=by
 have hn:=h.hn;have hi:=h.lt;obtain ⟨j1,j2,j3,j4⟩:=h.ix j hj lr;have cell: ∀w,(H.set i H[j]!)[w]! =if w=i then H[j]! else H[w]!:=by
  intro w;rw [bn]
  by_cases e:w=i
  · rw [ol ⟨e,by omega⟩,ol e]
  rw [pi (fun k=>e k.1),pi e]
 refine ⟨hj,by rw [pm];exact hn,?_,h.x0,by rw [pm];exact h.x1,?_⟩
 · intro w hw hwj
   rw [cell,pm]
   by_cases e:w=i
   · rw [ol e,bn,ol ⟨rfl,abn j2 j1⟩]
     exact ⟨j1,j2,by rw [e],j4⟩
   rw [pi e,bn]
   obtain ⟨k1,k2,k3,k4⟩:=h.ix w hw e;refine ⟨k1,k2,?_,k4⟩;rw [pi,k3];rintro ⟨c,_⟩;rw [c,j3] at k3;omega
 intro e
 rw [<- h.mem e];constructor
 · rintro ⟨w,hw,hwj,he⟩
   rw [cell] at he
   by_cases c:w=i
   · rw [ol c] at he;exact ⟨j,hj,lr,he⟩
   rw [pi c] at he;exact ⟨w,hw,c,he⟩
 rintro ⟨w,hw,YQ,he⟩
 by_cases c:w=j
 · refine ⟨i,hi,fun h=>lr h.symm,?_⟩
   rw [cell,ol rfl,<- c];exact he
 exact ⟨w,hw,c,by rw [cell,pi YQ];exact he⟩
theorem zb.fill {n:Nat} {x:Ev} {M:Ev->Prop} {H:List Ev} {W:List Int} {i:Nat} (h:zb n x M H W i):
 (∀w,w<n->0<=((H.set i x)[w]!).ix/\((H.set i x)[w]!).ix<abU W/\(W.set x.n (i:Int))[((H.set i x)[w]!).n]! =(w:Int))/\
  (∀e,(∃w,w<n/\(H.set i x)[w]! =e)↔(e=x\/M e)):=by
 have hn:=h.hn;have hi:=h.lt;have x0:=h.x0;have x1:=h.x1;have cell: ∀w,(H.set i x)[w]! =if w=i then x else H[w]!:=by
  intro w;rw [bn]
  by_cases e:w=i
  · rw [ol ⟨e,by omega⟩,ol e]
  rw [pi (fun k=>e k.1),pi e]
 constructor
 · intro w hw
   rw [cell]
   by_cases e:w=i
   · rw [ol e,bn,ol ⟨rfl,abn x1 x0⟩]
     exact ⟨x0,x1,by rw [e]⟩
   rw [pi e,bn]
   obtain ⟨k1,k2,k3,k4⟩:=h.ix w hw e;exact ⟨k1,k2,by rw [pi (fun c=>afP k1 x0 k4 c.1),k3]⟩
 intro e
 rw [<- h.mem e];constructor
 · rintro ⟨w,hw,he⟩
   rw [cell] at he
   by_cases c:w=i
   · rw [ol c] at he;exact .inl he.symm
   rw [pi c] at he;exact .inr ⟨w,hw,c,he⟩
 rintro (he|⟨w,hw,YQ,he⟩)
 · exact ⟨i,hi,by rw [cell,ol rfl,he]⟩
 exact ⟨w,hw,by rw [cell,pi YQ];exact he⟩
noncomputable def wQ (x:Ev):Nat->List Ev->List Int->Nat×List Ev×List Int
 |0,H,W=>(0,H,W)
 |i+1,H,W=>if less x H[i / 2]! then wQ x (i / 2) (H.set (i+1) H[i / 2]!) (W.set (H[i / 2]!).n ((i+1:Nat):Int)) else (i+1,H,W)
termination_by i=>i
decreasing_by omega
noncomputable def sF (n:Nat) (H:List Ev) (i:Nat):Nat:=if 2*i+2<n/\less H[2*i+2]! H[2*i+1]! then 2*i+2 else 2*i+1
theorem uQ (n:Nat) (H:List Ev) (i:Nat):sF n H i=2*i+1\/(sF n H i=2*i+2/\2*i+2<n):=by
 unfold sF;split
 · rename_i h;exact .inr ⟨rfl,h.1⟩
 exact .inl rfl
noncomputable def oL (n:Nat) (x:Ev) (i:Nat) (H:List Ev) (W:List Int):Nat×List Ev×List Int:=
 if _h:2*i+1<n then
  if less H[sF n H i]! x then oL n x (sF n H i) (H.set i H[sF n H i]!) (W.set (H[sF n H i]!).n (i:Int)) else (i,H,W)
 else (i,H,W)
termination_by n-i
decreasing_by
 rcases uQ n H i with h|h<;>omega
structure Ord (n:Nat) (H:List Ev) (i:Nat):Prop where
 den: ∀w,w<n->1<=(H[w]!).2.1
 ord: ∀k,0<k->k<n->k≠i->(k-1) / 2≠i-> ¬less H[k]! H[(k-1) / 2]!
 S1:0<i-> ∀k,0<k->k<n->(k-1) / 2=i-> ¬less H[k]! H[(i-1) / 2]!
theorem EC {n : Nat} {x : Ev} {M : Ev -> Prop} (dx : 1 <= x.2.1) : ∀ (i : Nat) (H : List Ev) (W : List Int), zb n x M H W i -> Ord n H i ->
    ∃ j H1 W1, wQ x i H W = (j, H1, W1) /\ zb n x M H1 W1 j /\ Ord n H1 j /\ (abU H1) = (abU H) /\ (abU W1) = (abU W) /\ (0 < j -> ¬ less x H1[(j - 1) / 2]!) /\
      (∀ k, n <= k -> H1[k]! = H[k]!) /\ (∀ k, (∀ w, w < n -> w ≠ i -> (H[w]!).n ≠ k) -> W1[k]! = W[k]!) /\
      ((∀ k, 0 < k -> k < n -> (k - 1) / 2 = i -> ¬ less H[k]! x) -> ∀ k, 0 < k -> k < n -> (k - 1) / 2 = j -> ¬ less H1[k]! x)
  | 0, H, W, h, o => ⟨0, H, W, by rw [wQ], h, o, rfl, rfl, fun h => by omega, fun _ _ => rfl, fun _ _ => rfl, fun h => h⟩
  | i + 1, H, W, h, o => by
    rw [wQ]
    by_cases hl : less x H[i / 2]!
    · rw [ol hl]
      have hi := h.lt
      have hn := h.hn
      have hp : i / 2 < n := by omega
      have dK : i / 2 ≠ i + 1 := by omega
      have hm := h.move hp dK
      have cell : ∀ w, (H.set (i + 1) H[i / 2]!)[w]! = if w = i + 1 then H[i / 2]! else H[w]! := by
        intro w
        rw [bn]
        by_cases e : w = i + 1
        · rw [ol ⟨e, by omega⟩, ol e]
        rw [pi (fun k => e k.1), pi e]
      have o' : Ord n (H.set (i + 1) H[i / 2]!) (i / 2) := by
        refine ⟨?_, ?_, ?_⟩
        · intro w hw
          rw [cell]
          split
          · exact o.den _ hp
          exact o.den _ hw
        · intro k k0 kn k1 k2
          rw [cell, cell]
          by_cases e : k = i + 1
          · subst e; exact absurd (by omega) k2
          rw [pi e]
          by_cases e2 : (k - 1) / 2 = i + 1
          · rw [ol e2]
            have := o.S1 (by omega) k k0 kn e2
            rwa [show (i + 1 - 1) / 2 = i / 2 by omega] at this
          rw [pi e2]
          exact o.ord k k0 kn e e2
        intro p0 k k0 kn k1
        rw [cell, cell, pi (show (i / 2 - 1) / 2 ≠ i + 1 by omega)]
        have up1 : ¬ less H[i / 2]! H[(i / 2 - 1) / 2]! := o.ord (i / 2) p0 hp dK (by omega)
        by_cases e : k = i + 1
        · rw [ol e]; exact up1
        rw [pi e]
        have up2 : ¬ less H[k]! H[i / 2]! := by
          have := o.ord k k0 kn e (by omega)
          rwa [k1] at this
        exact za (o.den _ (by omega)) (o.den _ hp) (o.den _ kn) up1 up2
      obtain ⟨j, H1, W1, e1, e3, e4, e5, e6, e7, e8, e9, YR⟩ := EC dx (i / 2) _ _ hm o'
      rw [pm] at e5 e6
      refine ⟨j, H1, W1, e1, e3, e4, e5, e6, e7, ?_, ?_, ?_⟩
      · intro k hk
        rw [e8 k hk, cell, pi (by omega)]
      · intro k hk
        rw [e9 k ?_, bn, pi (fun c => hk (i / 2) hp dK c.1.symm)]
        intro w hw Em
        rw [cell]
        split
        · exact hk (i / 2) hp dK
        rename_i e; exact hk w hw e
      intro _
      refine YR fun k k0 kn k1 => ?_
      rw [cell]
      by_cases e : k = i + 1
      · rw [ol e]; exact ma hl
      rw [pi e]
      have up2 : ¬ less H[k]! H[i / 2]! := by
        have := o.ord k k0 kn e (by omega)
        rwa [k1] at this
      exact za dx (o.den _ hp) (o.den _ kn) (ma hl) up2
    rw [pi hl]
    refine ⟨i + 1, H, W, rfl, h, o, rfl, rfl, fun _ => ?_, fun _ _ => rfl, fun _ _ => rfl, fun h => h⟩
    rwa [show (i + 1 - 1) / 2 = i / 2 by omega]
termination_by i=>i
decreasing_by omega
theorem KY {n:Nat} {x:Ev} {i:Nat} {H:List Ev} {W:List Int} (h: ∀k,0<k->k<n->(k-1) / 2=i-> ¬less H[k]! x):oL n x i H W=(i,H,W):=by
 rw [oL];split
 · rename_i hk
   rw [pi];rcases uQ n H i with e|⟨e,e2⟩
   · rw [e];exact h _ (by omega) hk (by omega)
   rw [e];exact h _ (by omega) e2 (by omega)
 rfl
theorem Dx {n : Nat} {x : Ev} {M : Ev -> Prop} (dx : 1 <= x.2.1) : ∀ (d i : Nat) (H : List Ev) (W : List Int), n - i <= d -> zb n x M H W i -> Ord n H i -> (0 < i -> ¬ less x H[(i - 1) / 2]!) ->
    ∃ j H1 W1, oL n x i H W = (j, H1, W1) /\ zb n x M H1 W1 j /\ Ord n H1 j /\ (abU H1) = (abU H) /\ (abU W1) = (abU W) /\ (0 < j -> ¬ less x H1[(j - 1) / 2]!) /\
      (∀ k, n <= k -> H1[k]! = H[k]!) /\ (∀ k, (∀ w, w < n -> w ≠ i -> (H[w]!).n ≠ k) -> W1[k]! = W[k]!) /\ (∀ k, 0 < k -> k < n -> (k - 1) / 2 = j -> ¬ less H1[k]! x)
  | 0, i, H, W, hd, h, o, u => by have := h.lt; omega
  | d + 1, i, H, W, hd, h, o, u => by
    have hi := h.lt
    have hn := h.hn
    rw [oL]
    by_cases hk : 2 * i + 1 < n
    · rw [dif_pos hk]
      have kc := uQ n H i
      have kn : sF n H i < n := by omega
      have kne : sF n H i ≠ i := by omega
      have kp : (sF n H i - 1) / 2 = i := by omega
      have kb : ∀ k, 0 < k -> k < n -> (k - 1) / 2 = i -> ¬ less H[k]! H[sF n H i]! := by
        intro k k0 k1 k2
        have kk : k = 2 * i + 1 \/ k = 2 * i + 2 := by omega
        unfold sF
        split
        · rename_i hc
          rcases kk with e | e
          · rw [e]; exact ma hc.2
          rw [e]; exact fun h => ma h h
        rename_i hc
        rcases kk with e | e
        · rw [e]; exact fun h => ma h h
        rw [e] at k1 ⊢; exact fun h => hc ⟨k1, h⟩
      by_cases hl : less H[sF n H i]! x
      · rw [ol hl]
        have hm := h.move kn kne
        have cell : ∀ w, (H.set i H[sF n H i]!)[w]! = if w = i then H[sF n H i]! else H[w]! := by
          intro w
          rw [bn]
          by_cases e : w = i
          · rw [ol ⟨e, by omega⟩, ol e]
          rw [pi (fun k => e k.1), pi e]
        have o' : Ord n (H.set i H[sF n H i]!) (sF n H i) := by
          refine ⟨?_, ?_, ?_⟩
          · intro w hw
            rw [cell]
            split
            · exact o.den _ kn
            exact o.den _ hw
          · intro k k0 k1 k2 k3
            rw [cell, cell]
            by_cases e : k = i
            · rw [ol e, pi (by omega)]
              have := o.S1 (by omega) (sF n H i) (by omega) kn kp
              rwa [e]
            rw [pi e]
            by_cases e2 : (k - 1) / 2 = i
            · rw [ol e2]; exact kb k k0 k1 e2
            rw [pi e2]; exact o.ord k k0 k1 e e2
          intro _ k k0 k1 k2
          rw [cell, cell, ol kp, pi (by omega)]
          have := o.ord k k0 k1 (by omega) (by omega)
          rwa [k2] at this
        obtain ⟨j, H1, W1, e1, e3, e4, e5, e6, e7, e8, e9, YR⟩ := Dx dx d (sF n H i) _ _ (by omega) hm o' (by
          intro _
          rw [cell, ol kp]
          exact ma hl)
        rw [pm] at e5 e6
        refine ⟨j, H1, W1, e1, e3, e4, e5, e6, e7, ?_, ?_, YR⟩
        · intro k hk
          rw [e8 k hk, cell, pi (by omega)]
        intro k hk
        rw [e9 k ?_, bn, pi (fun c => hk (sF n H i) kn kne c.1.symm)]
        intro w hw Em
        rw [cell]
        split
        · exact hk (sF n H i) kn kne
        rename_i e; exact hk w hw e
      rw [pi hl]
      refine ⟨i, H, W, rfl, h, o, rfl, rfl, u, fun _ _ => rfl, fun _ _ => rfl, ?_⟩
      intro k k0 k1 k2
      exact za dx (o.den _ kn) (o.den _ k1) hl (kb k k0 k1 k2)
    rw [dif_neg hk]
    refine ⟨i, H, W, rfl, h, o, rfl, rfl, u, fun _ _ => rfl, fun _ _ => rfl, ?_⟩
    intro k k0 k1 k2
    omega
structure Am (n:Nat) (x:Ev) (M:Ev->Prop) (K:Nat->Prop) (H:List Ev) (W:List Int) (H1:List Ev) (W1:List Int):Prop where
 hl:(abU H1)=abU H
 wl:(abU W1)=abU W
 ix: ∀w,w<n->0<=(H1[w]!).ix/\(H1[w]!).ix<abU W/\W1[(H1[w]!).n]! =(w:Int)
 mem: ∀e,(∃w,w<n/\H1[w]! =e)↔(e=x\/M e)
 ord: ∀k,0<k->k<n-> ¬less H1[k]! H1[(k-1) / 2]!
 out: ∀k,K k->W1[k]! =W[k]!
theorem ED {n:Nat} {x:Ev} {M:Ev->Prop} {H H1:List Ev} {W W1:List Int} {i j:Nat} (h1:zb n x M H1 W1 j) (o1:Ord n H1 j) (hl:(abU H1)=abU H) (wl:(abU W1)=abU W)
 (u:0<j-> ¬less x H1[(j-1) / 2]!) (kd: ∀k,0<k->k<n->(k-1) / 2=j-> ¬less H1[k]! x) (out: ∀k,(∀w,w<n->w≠i->(H[w]!).n≠k)->W1[k]! =W[k]!):
 Am n x M (fun k=>k≠x.n/\ ∀w,w<n->w≠i->(H[w]!).n≠k) H W (H1.set j x) (W1.set x.n (j:Int)):=by
 have hn:=h1.hn;have hj:=h1.lt;have f:=h1.fill;have cell: ∀w,(H1.set j x)[w]! =if w=j then x else H1[w]!:=by
  intro w;rw [bn]
  by_cases e:w=j
  · rw [ol ⟨e,by omega⟩,ol e]
  rw [pi (fun k=>e k.1),pi e]
 refine ⟨by rw [pm];exact hl,by rw [pm];exact wl,?_,f.2,?_,?_⟩
 · rw [<- wl];exact f.1
 · intro k k0 kn
   rw [cell,cell]
   by_cases e:k=j
   · rw [ol e,pi (by omega),e];exact u (by omega)
   rw [pi e]
   by_cases e2:(k-1) / 2=j
   · rw [ol e2];exact kd k k0 kn e2
   rw [pi e2];exact o1.ord k k0 kn e e2
 rintro k ⟨k1,k2⟩
 rw [bn,pi (fun c=>k1 c.1)];exact out k k2
noncomputable def gj (n:Nat) (x:Ev) (i:Nat) (H:List Ev) (W:List Int):List Ev×List Int:=
 let u:=wQ x i H W
 let d:=oL n x u.1 u.2.1 u.2.2
 (d.2.1.set d.1 x,d.2.2.set x.n (d.1:Int))
theorem Gy {n:Nat} {x:Ev} {M:Ev->Prop} (dx:1<=x.2.1) {i:Nat} {H:List Ev} {W:List Int} (h:zb n x M H W i) (o:Ord n H i):
 Am n x M (fun k=>k≠x.n/\ ∀w,w<n->w≠i->(H[w]!).n≠k) H W (gj n x i H W).1 (gj n x i H W).2:=by
 obtain ⟨j,H1,W1,e1,e3,e4,e5,e6,e7,e8,e9,YR⟩:=EC dx i H W h o;obtain ⟨k,H2,W2,f1,f3,f4,f5,f6,f7,f8,f9,f10⟩:=Dx dx n j H1 W1 (by omega) e3 e4 e7;have e:gj n x i H W=(H2.set k x,W2.set x.n (k:Int)):=by unfold gj;rw [e1];dsimp only;rw [f1]
 rw [e];refine ED f3 f4 (by omega) (by omega) f7 f10 ?_;intro c hc;rw [f9 c ?_,e9 c hc];intro w hw hwj hcw;have hm:M H1[w]!:=(e3.mem _).1 ⟨w,hw,hwj,rfl⟩;obtain ⟨v,v1,v2,v3⟩:=(h.mem _).2 hm;exact hc v v1 v2 (by rw [v3];exact hcw)
theorem Gz {n:Nat} {x:Ev} {M:Ev->Prop} (dx:1<=x.2.1) {i:Nat} {H:List Ev} {W:List Int} (h:zb n x M H W i) (o:Ord n H i) (hk: ∀k,0<k->k<n->(k-1) / 2=i-> ¬less H[k]! x):
 gj n x i H W=((wQ x i H W).2.1.set (wQ x i H W).1 x,(wQ x i H W).2.2.set x.n ((wQ x i H W).1:Int)):=by
 obtain ⟨j,H1,W1,e1,e3,e4,e5,e6,e7,e8,e9,YR⟩:=EC dx i H W h o;unfold gj;rw [e1];dsimp only;rw [KY (YR hk)]
def tV (x:Ev):Prop:=bT (x.1,x.2.1)/\nX (x.1,x.2.1)/\0<=x.2.2.1/\x.2.2.1<=1000000
theorem tV.den {x:Ev} (h:tV x):1<=x.2.1:=h.1.1
noncomputable def B7 (x y:Ev):Int:=if xQ (x.1,x.2.1) (y.1,y.2.1)≠0 then xQ (x.1,x.2.1) (y.1,y.2.1) else gG x.2.2.1 y.2.2.1
theorem An (x y:Ev):B7 x y<0↔less x y:=by
 unfold B7 less
 by_cases h:xQ (x.1,x.2.1) (y.1,y.2.1)=0
 · rw [pi (by simpa using h),h]
   rcases dV x.2.2.1 y.2.2.1 with ⟨h1,e⟩|⟨h1,e⟩|⟨h1,e⟩<;>rw [e]<;>constructor<;>intro<;>omega
 rw [ol h];constructor<;>intro<;>omega
theorem gk {x y:Ev} (hx:tV x) (hy:tV y):bE x y=abV (B7 x y):=by unfold bE B7;rw [ND hx.2.1 hy.2.1,ol ⟨hx.1,hy.1⟩];simp only [au,gW,uO]
theorem JC {x y:Ev} (hx:tV x) (hy:tV y):eo x y=abV (abZ (less x y)):=by
 unfold eo less;rw [Ie hx.2.1 hy.2.1];simp only [au];generalize xQ (x.1,x.2.1) (y.1,y.2.1)=c
 by_cases h1:c<0
 · simp [h1]
 by_cases h2:c=0
 · subst h2;simp
 simp only [h1,ef h2,h2,decide_false,lw,false_or,false_and]
theorem Ip {x y:Ev}:abZ (B7 x y<0)=abZ (less x y):=by simp only [An]
theorem NM {x y:Ev}:abZ (0<=B7 x y)=!abZ (less x y):=by
 have:=An x y
 by_cases h:less x y
 · have h2:=this.2 h
   have: ¬0<=B7 x y:=by omega
   simp [h,this]
 have h2: ¬B7 x y<0:=fun k=>h (this.1 k)
 have:0<=B7 x y:=by omega
 simp [h,this]
structure vE (n:Nat) (H:List Ev) (W:List Int):Prop where
 hn:n<=abU H
 hb:(abU H)<=1000000
 ev: ∀w,w<n->tV H[w]!/\0<=(H[w]!).ix/\(H[w]!).ix<abU W
theorem vE.move {n:Nat} {H:List Ev} {W:List Int} (c:vE n H W) {i j:Nat} (_hi:i<n) (hj:j<n) (k:Nat) (v:Int):vE n (H.set i H[j]!) (W.set k v):=by
 have hn:=c.hn;refine ⟨by rw [pm];exact hn,by rw [pm];exact c.hb,?_⟩;intro w hw;rw [bn,pm];split
 · exact c.ev j hj
 exact c.ev w hw
theorem Ao {H:List Ev} {W:List Int} {x:Ev} {u fr:List Int} {us:List Bool} {i:Nat} (hi:i<abU H) (h0:0<=x.ix) (h1:x.ix<abU W):
 bo (u,us,fr,(i:Int),x.1,x.2.1,x.2.2.1,x.2.2.2.1,x.2.2.2.2,H,W)=abV (H.set i x,W.set x.n (i:Int)):=by
 unfold bo;have e1:=ar H i hi;have e2:=jB (l:=W) h0 h1;simp only [e1,e2,au,xk,beq_self_eq_true,ls];rfl
theorem B8 {i:Nat} (h:i<1000000000):aa .i64 (ww (aa .i64 (((i+1:Nat):Int) -1)) 2)=((i / 2:Nat):Int):=by
 have e:aa .i64 (((i+1:Nat):Int) -1)=(i:Int):=by rw [wi];omega
 rw [e,aau (by omega),wi];omega
theorem EE {i:Nat} (h:i<1000000000):aa .i64 ((aa .i64 (2*(i:Int)))+1)=((2*i+1:Nat):Int):=by
 have e:aa .i64 (2*(i:Int))=((2*i:Nat):Int):=by rw [wi];omega
 rw [e,wi];omega
theorem Iq {c0:List Int×List Bool×List Int×Int×Int×Int×Int×Int×Int×List Ev×List Int} {n i:Nat} {H:List Ev} {W:List Int} {u fr:List Int} {us:List Bool} {x:Ev}
 (c:vE n H W) (hn:(abU H)=n) (hi:i<n) (hx:tV x) (x0:0<=x.ix) (x1:x.ix<abU W) (l1:(abU c0.2.2.2.2.2.2.2.2.2.1)=n) (l2:(abU c0.2.2.2.2.2.2.2.2.2.2)=abU W):
 dR c0 ((i:Int),((2*i+1:Nat):Int),H,W,u,us,fr,x)=
  abV (if 2*i+1<n/\less H[sF n H i]! x then .next (((sF n H i:Nat):Int),((2*sF n H i+1:Nat):Int),H.set i H[sF n H i]!,W.set (H[sF n H i]!).n (i:Int),u,us,fr,x)
   else .done (.done (H.set i x,W.set x.n (i:Int)))):=by
 have hb:=c.hb;have fin:(bo (u,us,fr,(i:Int),x.1,x.2.1,x.2.2.1,x.2.2.2.1,x.2.2.2.2,H,W))=abV (H.set i x,W.set x.n (i:Int)):=Ao (by omega) x0 x1;have ln1:(H.set i x).length=(abU c0.2.2.2.2.2.2.2.2.2.1):=by rw [pm];omega
 have ln2:(W.set x.n (i:Int)).length=(abU c0.2.2.2.2.2.2.2.2.2.2):=by rw [pm];omega
 unfold dR;simp only [aB,hn,fin,au,ln1,ln2,beq_self_eq_true,ls]
 by_cases h1:2*i+1<n
 · have e1:abZ (((2*i+1:Nat):Int)<(n:Int))=abX:=by simp;omega
   have e2:aa .i64 (((2*i+1:Nat):Int)+1)=((2*i+2:Nat):Int):=aV (by omega);obtain ⟨S2,a1,a2⟩:=c.ev (2*i+1) h1;have g1:=ar H (2*i+1) (by omega);have s1:(bo (u,us,fr,(i:Int),(H[2*i+1]!).1,(H[2*i+1]!).2.1,(H[2*i+1]!).2.2.1,(H[2*i+1]!).2.2.2.1,(H[2*i+1]!).2.2.2.2,H,W))=abV (H.set i H[2*i+1]!,W.set (H[2*i+1]!).n (i:Int)):=Ao (by omega) a1 a2;simp only [e1,e2,ls,g1,au,s1,gk S2 hx,NM,EE (show 2*i+1<1000000000 by omega)]
   by_cases h2:2*i+2<n
   · have e3:abZ (((2*i+2:Nat):Int)<(n:Int))=abX:=by simp;omega
     obtain ⟨ok2,b1,b2⟩:=c.ev (2*i+2) h2;have g2:=ar H (2*i+2) (by omega);have s2:(bo (u,us,fr,(i:Int),(H[2*i+2]!).1,(H[2*i+2]!).2.1,(H[2*i+2]!).2.2.1,(H[2*i+2]!).2.2.2.1,(H[2*i+2]!).2.2.2.2,H,W))=abV (H.set i H[2*i+2]!,W.set (H[2*i+2]!).n (i:Int)):=Ao (by omega) b1 b2;simp only [e3,ls,g2,au,s2,gk ok2 hx,gk ok2 S2,Ip,NM,EE (show 2*i+2<1000000000 by omega)]
     by_cases h3:less H[2*i+2]! H[2*i+1]!
     · have k:sF n H i=2*i+2:=by unfold sF;rw [ol ⟨h2,h3⟩]
       rw [k]
       by_cases h4:less H[2*i+2]! x
       · simp only [h1,h3,h4,decide_true,ls,lw,abx,and_self,if_true]
       simp only [h1,h3,h4,decide_true,decide_false,ls,ab0,and_false,if_false]
     have k:sF n H i=2*i+1:=by unfold sF;rw [pi (fun h=>h3 h.2)]
     rw [k]
     by_cases h4:less H[2*i+1]! x
     · simp only [h1,h3,h4,decide_true,decide_false,lw,abx,and_self,if_true]
     simp only [h1,h3,h4,decide_false,ls,lw,ab0,and_false,if_false]
   have e3:abZ (((2*i+2:Nat):Int)<(n:Int))=abY:=by simp;omega
   have k:sF n H i=2*i+1:=by unfold sF;rw [pi (fun h=>h2 h.1)]
   rw [k];simp only [e3,lw]
   by_cases h4:less H[2*i+1]! x
   · simp only [h1,h4,decide_true,lw,abx,and_self,if_true]
   simp only [h1,h4,decide_false,ls,ab0,and_false,if_false]
 have e1:abZ (((2*i+1:Nat):Int)<(n:Int))=abY:=by simp;omega
 rw [pi (fun h=>h1 h.1),e1];rfl
theorem rV {c0 : List Int × List Bool × List Int × Int × Int × Int × Int × Int × Int × List Ev × List Int} {n : Nat} {u fr : List Int} {us : List Bool} {x : Ev} (hx : tV x) (x0 : 0 <= x.ix) (l1 : (abU c0.2.2.2.2.2.2.2.2.2.1) = n) :
    ∀ (d i : Nat) (H : List Ev) (W : List Int), n - i <= d -> vE n H W -> (abU H) = n -> i < n -> x.ix < (abU W) -> (abU c0.2.2.2.2.2.2.2.2.2.2) = (abU W) ->
      ax (dR c0) ((i : Int), ((2 * i + 1 : Nat) : Int), H, W, u, us, fr, x) = abV (.done ((oL n x i H W).2.1.set (oL n x i H W).1 x, (oL n x i H W).2.2.set x.n ((oL n x i H W).1 : Int)))
  | 0, i, H, W, hd, c, hn, hi, x1, l2 => by omega
  | d + 1, i, H, W, hd, c, hn, hi, x1, l2 => by
    have r := Iq (u := u) (us := us) (fr := fr) c hn hi hx x0 x1 l1 l2
    by_cases h : 2 * i + 1 < n /\ less H[sF n H i]! x
    · rw [ol h] at r
      have kc := uQ n H i
      have kn : sF n H i < n := by omega
      rw [aT r, rV hx x0 l1 d (sF n H i) _ _ (by omega) (c.move hi kn _ _) (by rw [pm]; exact hn) kn (by rw [pm]; exact x1) (by rw [pm]; exact l2)]
      have e : oL n x i H W = oL n x (sF n H i) (H.set i H[sF n H i]!) (W.set (H[sF n H i]!).n (i : Int)) := by
        rw [oL, dif_pos h.1, ol h.2]
      rw [e]
    rw [pi h] at r
    rw [aF r]
    have e : oL n x i H W = (i, H, W) := by
      rw [oL]
      split
      · rename_i h1; rw [pi (fun k => h ⟨h1, k⟩)]
      rfl
    rw [e]
theorem B9 {c0 : List Int × List Bool × List Int × Int × Int × Int × Int × Int × Int × List Ev × List Int} {n : Nat} {u fr : List Int} {us : List Bool} {x : Ev} (hx : tV x) (x0 : 0 <= x.ix) (l1 : (abU c0.2.2.2.2.2.2.2.2.2.1) = n) :
    ∀ (i : Nat) (H : List Ev) (W : List Int), vE n H W -> (abU H) = n -> i < n -> x.ix < (abU W) -> (abU c0.2.2.2.2.2.2.2.2.2.2) = (abU W) ->
      ax (cV c0) ((i : Int), H, W, u, us, fr, x) = abV (gj n x i H W)
  | 0, H, W, c, hn, hi, x1, l2 => by
    have hb := c.hb
    have dn := rV (u := u) (us := us) (fr := fr) hx x0 l1 n 0 H W (by omega) c hn hi x1 l2
    refine (aF (r := gj n x 0 H W) ?_)
    unfold cV
    have e1 : abZ ((0 : Int) < ((0 : Nat) : Int)) = abY := by simp
    simp only [e1, lw, EE (show 0 < 1000000000 by omega)]
    rw [dn]
    unfold gj
    rw [wQ]
  | i + 1, H, W, c, hn, hi, x1, l2 => by
    have hb := c.hb
    have e1 : abZ ((0 : Int) < ((i + 1 : Nat) : Int)) = abX := decide_eq_true (by omega)
    have hp : i / 2 < n := by omega
    obtain ⟨S2, a1, a2⟩ := c.ev (i / 2) hp
    have g1 := ar H (i / 2) (by omega)
    have s1 : (bo (u, us, fr, ((i + 1 : Nat) : Int), (H[i / 2]!).1, (H[i / 2]!).2.1, (H[i / 2]!).2.2.1, (H[i / 2]!).2.2.2.1, (H[i / 2]!).2.2.2.2, H, W)) = abV (H.set (i + 1) H[i / 2]!, W.set (H[i / 2]!).n ((i + 1 : Nat) : Int)) := Ao (by omega) a1 a2
    by_cases h : less x H[i / 2]!
    · have r : cV c0 (((i + 1 : Nat) : Int), H, W, u, us, fr, x) = abV (.next (((i / 2 : Nat) : Int), H.set (i + 1) H[i / 2]!, W.set (H[i / 2]!).n ((i + 1 : Nat) : Int), u, us, fr, x)) := by
        unfold cV
        simp only [e1, ls, B8 (show i < 1000000000 by omega), g1, au, gk hx S2, Ip, h, decide_true, s1]
      rw [aT r, B9 hx x0 l1 (i / 2) _ _ (c.move hi hp _ _) (by rw [pm]; exact hn) hp (by rw [pm]; exact x1) (by rw [pm]; exact l2)]
      have e : wQ x (i + 1) H W = wQ x (i / 2) (H.set (i + 1) H[i / 2]!) (W.set (H[i / 2]!).n ((i + 1 : Nat) : Int)) := by
        rw [wQ, ol h]
      unfold gj
      rw [e]
    have dn := rV (u := u) (us := us) (fr := fr) hx x0 l1 n (i + 1) H W (by omega) c hn hi x1 l2
    refine (aF (r := gj n x (i + 1) H W) ?_)
    unfold cV
    simp only [e1, ls, B8 (show i < 1000000000 by omega), g1, au, gk hx S2, Ip, h, decide_false, lw, EE (show i + 1 < 1000000000 by omega)]
    rw [dn]
    unfold gj
    rw [wQ, pi h]
termination_by i=>i
decreasing_by omega
theorem Ir {n:Nat} {u fr:List Int} {us:List Bool} {x:Ev} (hx:tV x) (x0:0<=x.ix) {i:Nat} {H:List Ev} {W:List Int} (c:vE n H W) (hn:(abU H)=n) (hi:i<n) (x1:x.ix<abU W):
 dX (u,us,fr,(i:Int),x.1,x.2.1,x.2.2.1,x.2.2.2.1,x.2.2.2.2,H,W)=abV (gj n x i H W):=by
 unfold dX;exact B9 hx x0 hn i H W c hn hi x1 rfl
theorem NN {n:Nat} {H:List Ev} {W:List Int} {x:Ev} {u fr:List Int} {us:List Bool} {i k:Nat} (hi:i<n) (hk:k<n) (hik:k≠i) (hn:n=abU H) (x0:0<=x.ix) (x1:x.ix<abU W) (k0:0<=(H[k]!).ix) (k1:(H[k]!).ix<abU W):
 lX (u,us,fr,(i:Int),(k:Int),H.set i x,W.set x.n (i:Int))=abV ((H.set i H[k]!).set k x,(W.set (H[k]!).n (i:Int)).set x.n (k:Int)):=by
 have cell: ∀w,(H.set i x)[w]! =if w=i then x else H[w]!:=by
  intro w;rw [bn]
  by_cases e:w=i
  · rw [ol ⟨e,by omega⟩,ol e]
  rw [pi (fun k=>e k.1),pi e]
 have sh:((H.set i x).set i H[k]!).set k x=(H.set i H[k]!).set k x:=by rw [abF]
 have sw:((W.set x.n (i:Int)).set (H[k]!).n (i:Int)).set x.n (k:Int)=(W.set (H[k]!).n (i:Int)).set x.n (k:Int):=by
  by_cases e:x.n=(H[k]!).n
  · simp only [e,abF]
  rw [List.set_comm _ _ (fun h=>e h),abF]
 have g1:aA ((H.set i x)) (k:Int)=abV H[k]!:=by rw [ar _ _ (by rw [pm];omega),cell,pi hik]
 have g2:aA ((H.set i x)) (i:Int)=abV x:=by rw [ar _ _ (by rw [pm];omega),cell,ol rfl]
 have g3:aA (((H.set i x).set i H[k]!)) (k:Int)=abV H[k]!:=by rw [ar _ _ (by rw [pm,pm];omega),bn,pi (fun h=>hik h.1),cell,pi hik]
 have g4:aA (((H.set i H[k]!).set k x)) (i:Int)=abV H[k]!:=by rw [ar _ _ (by rw [pm,pm];omega),bn,pi (fun h=>hik h.1.symm),bn,ol ⟨rfl,by omega⟩]
 have g5:aA (((H.set i H[k]!).set k x)) (k:Int)=abV x:=by rw [ar _ _ (by rw [pm,pm];omega),bn,ol ⟨rfl,by rw [pm];omega⟩]
 have w6:=jB (l:=W.set x.n (i:Int)) k0 (by rw [pm];exact k1);have w7:=jB (l:=(W.set x.n (i:Int)).set (H[k]!).n (i:Int)) x0 (by rw [pm,pm];exact x1);have q1: ∀(l:List Int) (a:Int) (y:Ev),bA l y.2.2.2.1 a=l.set y.n a:=fun _ _ _=>rfl
 unfold lX;simp only [ij,g1,g2,g3,au,sh,g4,g5,q1,w6,w7,sw,pm,beq_self_eq_true,ls]
theorem NO {c0:List Int×List Bool×List Int×Int×List Ev×List Int} {n:Nat} {u fr:List Int} {us:List Bool} {x:Ev} (hx:tV x) (x0:0<=x.ix):
 ∀(i:Nat) (H:List Ev) (W:List Int),vE n H W->i<n->abU H=n->x.ix<abU W->abU c0.2.2.2.2.1=abU H->abU c0.2.2.2.2.2=abU W->
  ax (eU c0) ((i:Int),H.set i x,W.set x.n (i:Int),u,us,fr)=abV (((wQ x i H W).1:Int),(wQ x i H W).2.1.set (wQ x i H W).1 x,(wQ x i H W).2.2.set x.n ((wQ x i H W).1:Int))
 |0,H,W,c,hi,hln,x1,l1,l2=>by
  have hnn:=c.hn;refine aF ?_;unfold eU;have e1:abZ ((0:Int)<((0:Nat):Int))=abY:=by simp
  rw [wQ];simp only [e1,lw,pm,l1,l2,beq_self_eq_true,ls]
 |i+1,H,W,c,hi,hln,x1,l1,l2=>by
  have hb:=c.hb;have hnn:=c.hn;have e1:abZ ((0:Int)<((i+1:Nat):Int))=abX:=decide_eq_true (by omega);have hp:i / 2<n:=by omega
  have dK:i / 2≠i+1:=by omega
  obtain ⟨S2,a1,a2⟩:=c.ev (i / 2) hp;have cell: ∀w,(H.set (i+1) x)[w]! =if w=i+1 then x else H[w]!:=by
   intro w;rw [bn]
   by_cases e:w=i+1
   · rw [ol ⟨e,by omega⟩,ol e]
   rw [pi (fun k=>e k.1),pi e]
  have g0:aA ((H.set (i+1) x)) ((i+1:Nat):Int)=abV x:=by rw [ar _ _ (by rw [pm];omega),cell,ol rfl]
  have g1:aA ((H.set (i+1) x)) ((i / 2:Nat):Int)=abV H[i / 2]!:=by rw [ar _ _ (by rw [pm];omega),cell,pi dK]
  by_cases h:less x H[i / 2]!
  · have sw:=NN (u:=u) (us:=us) (fr:=fr) (x:=x) hi hp dK hln.symm x0 x1 a1 a2
    have r:eU c0 (((i+1:Nat):Int),H.set (i+1) x,W.set x.n ((i+1:Nat):Int),u,us,fr)=abV (.next (((i / 2:Nat):Int),(H.set (i+1) H[i / 2]!).set (i / 2) x,(W.set (H[i / 2]!).n ((i+1:Nat):Int)).set x.n ((i / 2:Nat):Int),u,us,fr)):=by unfold eU;simp only [e1,ls,B8 (show i<1000000000 by omega),g0,g1,au,JC hx S2,h,decide_true,sw]
    rw [aT r,NO hx x0 (i / 2) _ _ (c.move hi hp _ _) hp (by rw [pm];exact hln) (by rw [pm];exact x1) (by rw [pm];exact l1) (by rw [pm];exact l2)];have e:wQ x (i+1) H W=wQ x (i / 2) (H.set (i+1) H[i / 2]!) (W.set (H[i / 2]!).n ((i+1:Nat):Int)):=by rw [wQ,ol h]
    rw [e]
  refine aF ?_
  unfold eU;have e:wQ x (i+1) H W=(i+1,H,W):=by rw [wQ,pi h]
  rw [e];simp only [e1,ls,B8 (show i<1000000000 by omega),g0,g1,au,JC hx S2,h,decide_false,lw,pm,l1,l2,beq_self_eq_true]
termination_by i=>i
decreasing_by omega
theorem aD {p:Prop} [Decidable p] (h: ¬p):decide p=abY:=decide_eq_false h
theorem aH {p:Prop} [Decidable p] (h:p):decide p=abX:=decide_eq_true h
theorem Ca {α:Type} {n:Nat} (z:α) (h:n<=1048576):o9 (n:Int) z=abV (List.replicate n z):=by unfold o9;rw [ol ⟨by omega,by omega⟩];simp
structure Cb (a:aJ):Prop where
 fr:(abU a.af.bi)<=1000000
 hp:(abU a.bv)<=1000000
 wh:(abU a.ay)<=1000000
 abo: ∀w,w<abU a.bv->nX ((a.bv[w]!).1,(a.bv[w]!).2.1)
structure iA (a:aJ):Prop where
 so:gi a.af
 wl:(abU a.ay)=abU a.af.aC
 hl:(abU a.bv)+abU a.af.bi=abU a.af.aC
 fwd: ∀i,i<abU a.af.aC->a.af.be[i]! =abX->0<=a.ay[i]!/\a.ay[i]!<abU a.bv/\(Ev.ix a.bv[(a.ay[i]!).toNat]!)=i/\(a.bv[(a.ay[i]!).toNat]!).2.2.2.2=a.af.aC[i]!
 un: ∀i,i<abU a.af.aC->a.af.be[i]! =abY->a.ay[i]! = -1
 ev: ∀w,w<abU a.bv->tV a.bv[w]!
 nd: ∀v w,v<w->w<abU a.bv->(Ev.num a.bv[v]!)≠(Ev.num a.bv[w]!)
 ord: ∀k,0<k->k<abU a.bv-> ¬less a.bv[k]! a.bv[(k-1) / 2]!
theorem cover: ∀(n:Nat) (l:List Nat),(∀x,x<n->x∈l)->n<=abU l
 |0,_,_=>Nat.zero_le _
 |n+1,l,h=>by have hn:=h n (by omega);have:=cover n (l.erase n) (fun x hx=>by rw [List.mem_erase_of_ne (by omega)];exact h x (by omega));rw [List.length_erase_of_mem hn] at this;have:=List.length_pos_of_mem hn;omega
def Dy (s:aO):List Nat:=(List.range (abU s.aC)).filter fun i=>s.be[i]!
theorem uR {s:aO} {i:Nat}:i∈Dy s↔i<abU s.aC/\s.be[i]! =abX:=by unfold Dy;rw [abN,List.mem_range]
theorem uS {α β:Type} {f:α->β}: ∀{l:List α},l.Nodup->(∀x∈l,∀y∈l,f x=f y->x=y)->(l.map f).Nodup
 | [],_,_=>by simp
 |a::l,h,hf=>by rw [PP] at h;rw [List.map_cons,PP];refine ⟨?_,uS h.2 fun x hx y hy=>hf x (by simp [hx]) y (by simp [hy])⟩;intro hm;obtain ⟨b,hb,e⟩:=EQ.1 hm;have:=hf b (by simp [hb]) a (by simp) e;subst this;exact h.1 hb
theorem iA.back {a:aJ} (ok:iA a) {w:Nat} (hw:w<abU a.bv):0<=(Ev.ix a.bv[w]!)/\(Ev.ix a.bv[w]!)<abU a.af.aC/\a.af.be[(Ev.n a.bv[w]!)]! =abX/\a.af.aC[(Ev.n a.bv[w]!)]! =(a.bv[w]!).2.2.2.2/\a.ay[(Ev.n a.bv[w]!)]! =(w:Int):=by
 have so:=ok.so;have len:(abU a.af.aC)<=(Dy a.af).length+(abU a.af.bi):=by
  have:=cover (abU a.af.aC) (Dy a.af++a.af.bi.map abS) (fun x hx=>by
   rw [List.mem_append]
   by_cases hu:a.af.be[x]! =abX
   · exact .inl (uR.2 ⟨hx,hu⟩)
   right
   have:=so.uf x hx;have hm:(x:Int)∈a.af.bi:=v6 fun hc=>hu (this.2 hc)
   exact EQ.2 ⟨_,hm,by omega⟩)
  rw [List.length_append,UV] at this;exact this
 have f0: ∀i∈Dy a.af,0<=a.ay[i]!/\a.ay[i]!<abU a.bv/\(Ev.ix a.bv[(a.ay[i]!).toNat]!)=i/\(a.bv[(a.ay[i]!).toNat]!).2.2.2.2=a.af.aC[i]!:=fun i hi=>ok.fwd i (uR.1 hi).1 (uR.1 hi).2
 have full:=zN (n:=abU a.bv) (l:=(Dy a.af).map fun i=>(a.ay[i]!).toNat) (by
  refine uS ?_ ?_
  · exact List.Pairwise.filter _ List.nodup_range
  · intro x hx y hy he
    have h1:=(f0 x hx).2.2.1;have h2:=(f0 y hy).2.2.1;rw [he] at h1;omega) (by
  intro x hx;obtain ⟨i,hi,rfl⟩:=EQ.1 hx;have:=f0 i hi;omega) (by
  rw [UV];have:=ok.hl;omega) w hw
 obtain ⟨i,hi,e⟩:=EQ.1 full;obtain ⟨c1,c2,c3,c4⟩:=f0 i hi;obtain ⟨d1,d2⟩:=uR.1 hi;rw [e] at c3 c4;have hn:(Ev.n a.bv[w]!)=i:=by show ((Ev.ix a.bv[w]!)).toNat=i;omega
 rw [hn];refine ⟨by omega,by omega,d2,c4.symm,by omega⟩
noncomputable def KZ (x y:Ev):Int:=if bT (x.1,x.2.1)/\bT (y.1,y.2.1) then B7 x y else gG x.2.2.1 y.2.2.1
theorem wG {x y:Ev} (hx:nX (x.1,x.2.1)) (hy:nX (y.1,y.2.1)):bE x y=abV (KZ x y):=by
 unfold bE KZ B7;rw [ND hx hy]
 by_cases h:bT (x.1,x.2.1)/\bT (y.1,y.2.1)
 · rw [ol h,ol h]
   simp only [au,gW,uO]
 rw [pi h,pi h]
 simp only [au,gW,uO];simp
def K0 (a:aJ) (i:Nat):Prop:=(a.af.be[i]! =abX->0<=a.ay[i]!/\a.ay[i]!<abU a.bv/\(Ev.ix a.bv[(a.ay[i]!).toNat]!)=i/\(a.bv[(a.ay[i]!).toNat]!).2.2.2.2=a.af.aC[i]!)/\(a.af.be[i]! =abY->a.ay[i]! = -1)
def CJ (H:List Ev) (k:Nat):Prop:=bT ((H[k]!).1,(H[k]!).2.1)/\0<=(H[k]!).2.2.1/\(H[k]!).2.2.1<=1000000/\(∀j,j<k->(H[j]!).2.2.1≠(H[k]!).2.2.1)/\(0<k-> ¬KZ H[k]! H[(k-1) / 2]!<0)
theorem iA.of {a:aJ} (fit:Cb a) (so:gi a.af) (wl:(abU a.ay)=abU a.af.aC) (hl:(abU a.bv)+abU a.af.bi=abU a.af.aC) (wh: ∀i,i<abU a.af.aC->K0 a i) (hp: ∀k,k<abU a.bv->CJ a.bv k):iA a:=by
 have ev: ∀w,w<abU a.bv->tV a.bv[w]!:=fun w hw=>⟨(hp w hw).1,fit.abo w hw,(hp w hw).2.1,(hp w hw).2.2.1⟩
 refine ⟨so,wl,hl,fun i hi=>(wh i hi).1,fun i hi=>(wh i hi).2,ev,fun v w hv hw=>(hp w hw).2.2.2.1 v hv,fun k k0 hk=>?_⟩;have:=(hp k hk).2.2.2.2 k0;unfold KZ at this;rw [ol ⟨(hp k hk).1,(hp ((k-1) / 2) (by omega)).1⟩,An] at this;exact this
theorem iA.to {a:aJ} (ok:iA a):(∀i,i<abU a.af.aC->K0 a i)/\(∀k,k<abU a.bv->CJ a.bv k):=by refine ⟨fun i hi=>⟨ok.fwd i hi,ok.un i hi⟩,fun k hk=>?_⟩;have e:=ok.ev k hk;refine ⟨e.1,e.2.2.1,e.2.2.2,fun j hj=>ok.nd j k hj hk,fun k0=>?_⟩;unfold KZ;rw [ol ⟨e.1,(ok.ev ((k-1) / 2) (by omega)).1⟩,An];exact ok.ord k k0 hk
theorem Dz (H:List Ev) (k:Nat) (n:Int):kE [n] ((H.take k).map fun x=>[x.2.2.1])=abX:=by unfold kE;rw [List.all_eq_true];intro x hx;obtain ⟨y,hy,rfl⟩:=EQ.1 hx;rfl
theorem DA (H:List Ev) (k:Nat) (n:Int):zX ((H.take k).map fun x=>[x.2.2.1]) [n]=abZ (∃j,j<k/\j<abU H/\(H[j]!).2.2.1=n):=by
 unfold zX;rw [Bool.eq_iff_iff,List.any_eq_true,decide_eq_true_iff];constructor
 · rintro ⟨x,hx,he⟩
   obtain ⟨y,hy,rfl⟩:=EQ.1 hx;obtain ⟨j,h1,h2,rfl⟩:=eC.1 hy;have:[n]=[(H[j]!).2.2.1]:=by simpa using he
   exact ⟨j,h1,h2,by injection this with h;exact h.symm⟩
 rintro ⟨j,h1,h2,h3⟩
 refine ⟨[(H[j]!).2.2.1],EQ.2 ⟨H[j]!,eC.2 ⟨j,h1,h2,rfl⟩,rfl⟩,?_⟩;rw [h3];simp
theorem EF (H:List Ev) (u fr W:List Int) (us:List Bool) (hl:(abU H)<=1000000) (wH: ∀w,w<abU H->nX ((H[w]!).1,(H[w]!).2.1)):
 ((∀k,k<abU H->CJ H k)->ax fT (H,((abU H):Int),0,u,us,fr,H,W,[])=abV (.done 0))/\(¬(∀k,k<abU H->CJ H k)->ax fT (H,((abU H):Int),0,u,us,fr,H,W,[])=abV (.done 8)):=by
 have key:=dD (body:=fT) (fun k=>(H,((abU H):Int),(k:Int),u,us,fr,H,W,(H.take k).map fun x=>[x.2.2.1])) (abU H) (fun k=> ¬CJ H k) (r:= .done 8) (e:= .done 0) (fun k hk=>by
  have e1:abZ ((k:Int)<((abU H):Int))=abX:=aH (by omega);have ins: ∀n:Int,¬(∃j,j<k/\j<abU H/\(H[j]!).2.2.1=n)->FV ((H.take k).map fun x=>[x.2.2.1]) [n]=abV (((H.take k).map fun x=>[x.2.2.1])++[[n]]):=by intro n hn;unfold FV Hu;rw [Dz,DA,aD hn];rfl
  have has: ∀n:Int,FU ((H.take k).map fun x=>[x.2.2.1]) [n]=abV (abZ (∃j,j<k/\j<abU H/\(H[j]!).2.2.1=n)):=by intro n;unfold FU;rw [Dz,DA];rfl
  have nx:(H.take (k+1)).map (fun x=>[x.2.2.1])=((H.take k).map fun x=>[x.2.2.1])++[[(H[k]!).2.2.1]]:=by rw [oK hk,List.map_append];rfl
  unfold fT;simp only [e1,ls,ar H k hk,au,dU (wH k hk),aV (show k<1000000000 by omega),has,nx];unfold CJ
  by_cases b1:bT ((H[k]!).1,(H[k]!).2.1)
  case neg=>rw [pi b1];exact ⟨fun _=>rfl,fun h=>absurd (rc.1 h).1 b1⟩
  rw [ol b1]
  by_cases b2:(H[k]!).2.2.1<0
  · rw [aH b2]
    exact ⟨fun _=>rfl,fun h=>absurd (rc.1 h).2.1 (by omega)⟩
  by_cases b3:1000000<(H[k]!).2.2.1
  · rw [aD b2,aH b3]
    exact ⟨fun _=>rfl,fun h=>absurd (rc.1 h).2.2.1 (by omega)⟩
  rw [aD b2,aD b3]
  by_cases b4: ∃j,j<k/\j<abU H/\(H[j]!).2.2.1=(H[k]!).2.2.1
  · rw [aH b4]
    refine ⟨fun _=>rfl,fun h=>?_⟩;obtain ⟨j,j1,j2,j3⟩:=b4;exact absurd j3 ((rc.1 h).2.2.2.1 j j1)
  rw [aD b4,ins _ b4];have b4': ∀j,j<k->(H[j]!).2.2.1≠(H[k]!).2.2.1:=fun j hj he=>b4 ⟨j,hj,by omega,he⟩
  simp only [show ((0:Int) !=0)=abY from rfl,lw,au]
  by_cases b5:0<k
  · obtain ⟨m,rfl⟩: ∃m,k=m+1:=⟨k-1,by omega⟩
    have f1:abZ ((0:Int)<((m+1:Nat):Int))=abX:=aH (by omega);simp only [f1,ls,B8 (show m<1000000000 by omega),ar H (m / 2) (by omega),au,wG (wH (m+1) hk) (wH (m / 2) (by omega)),show (m+1-1) / 2=m / 2 by omega]
    by_cases b6:KZ H[m+1]! H[m / 2]!<0
    · rw [aH b6]
      exact ⟨fun _=>rfl,fun h=>absurd b6 ((rc.1 h).2.2.2.2 (by omega))⟩
    rw [aD b6]
    exact ⟨fun h=>absurd ⟨b1,by omega,by omega,b4',fun _=>b6⟩ h,fun _=>rfl⟩
  · have f1:abZ ((0:Int)<(k:Int))=abY:=aD (by omega)
    rw [f1];exact ⟨fun h=>absurd ⟨b1,by omega,by omega,b4',fun h=>absurd h b5⟩ h,fun _=>rfl⟩) (by
  unfold fT;have:abZ (((abU H):Int)<((abU H):Int))=abY:=aD (by omega);simp only [this,lw])
 constructor
 · intro h
   exact key.2 fun i hi=>rc.2 (h i hi)
 intro h
 obtain ⟨i,h⟩:=wn.1 h;obtain ⟨hi,hx⟩:=ab4.1 h;exact key.1 ⟨i,hi,hx⟩
end Go.Proofs.YtmndepnolpbnpaaGreat
