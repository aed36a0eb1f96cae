/- Plain laws (1). -/
import Derived.Test.YtcljjehjppgijaaGreatWVm3
import Derived.Test.YtcljjehjppgijaaGreatWVm1
import Derived.Test.YtcljjehjppgijaaGreatWQTB
open List renaming length_set->lw,replicate->v6,length_replicate->PP,set_set->aa1,mem_map->aa3,mem_of_mem_take->aa4,length_take->aa5,nodup_cons->ab2,length_map->ab7,mem_singleton->abd,getElem?_eq_getElem->abm,mem_append->abD,set_comm->abU,length_cons->ack,take_length->acl,mem_filter->acF,mem_cons->ag0,length->ag8
open Int renaming ofNat->pp,mul_le_mul_of_nonneg_right->NE,tdiv->UV,mul_neg_of_neg_of_pos->aa8,eq_ofNat_of_zero_le->aa9,neg_mul->aaI,mul_comm->ab8,mul_lt_mul_of_pos_right->ab9,fdiv_eq_ediv_of_nonneg->aba,mul_le_mul->abb,tdiv_eq_ediv_of_nonneg->abc,lt_of_mul_lt_mul_right->abe,lt_trichotomy->abg,mul_nonneg->abK,natCast_mul->acy,ofNat_tmod->acI,ofNat_tdiv->acJ,mul_assoc->adc,toNat->ag2
open Classical renaming not_not->ut,not_forall->EQ,byContradiction->IR,not_imp->aaH
open Option.some renaming injEq->ww
open Nat renaming gcd->AC,gcd_comm->aak,gcd_dvd_right->abi,gcd_pos_of_pos_right->abn,le_refl->abF,mul_div_cancel'->abR,gcd_zero_right->ac2,gcd_dvd_left->ace,strongRecOn->acp,div_le_self->acr,le_trans->ag7
open Bool renaming not_false->Do,not_true->If,not_eq_true->abB,or_eq_false_iff->abO,false_or->ac0,false_eq_true->ac7,true->agN,false->agY
open Prod.mk renaming injEq->aa2
open Option renaming some->agd,none->agJ
open Decidable renaming decide->ah2
namespace Go.Vm
instance lpN:LP:=⟨agJ⟩
section
variable {σ ρ : Type}
theorem yv {body:σ->Option (Step σ ρ)} {x:σ} {r:ρ}:aB body x=agd r↔ ∃n,nT body n x=agd r:=Di
theorem aV {body:σ->Option (Step σ ρ)} {x y:σ} (h:body x=agd (.next y)):aB body x=aB body y:=by
 apply Option.ext;intro r;rw [yv,yv];constructor
 · rintro ⟨n,hn⟩
   cases n with
   |zero=>cases hn
   |succ n=>simp only [nT,h] at hn;exact ⟨n,hn⟩
 rintro ⟨n,hn⟩
 exact ⟨n+1,by simp only [nT,h];exact hn⟩
theorem aC {body:σ->Option (Step σ ρ)} {x:σ} {r:ρ} (h:body x=agd (.done r)):aB body x=agd r:=
 yv.2 ⟨1,by simp only [nT,h]⟩
end
end Go.Vm
namespace Go.Proofs.YtcljjehjppgijaaGreat
open Go.Vm
noncomputable def wM (p0:Field):Option Field:=
 (bO p0.am).bind fun l0=>
 agd (Field.mk l0)
noncomputable def wN (p0:aZ):Option aZ:=
 (bO p0.ce).bind fun l0=>
 agd (aZ.mk p0.aL l0)
noncomputable def sF (p0:aS):Option aS:=
 (bO p0.ar).bind fun l0=>
 (bO p0.be).bind fun l1=>
 (bO p0.bi).bind fun l2=>
 agd (aS.mk l0 l1 l2)
noncomputable def o7 (p0:aJ):Option aJ:=
 (sF p0.ae).bind fun r0=>
 (bO p0.bv).bind fun l1=>
 (bO p0.aj).bind fun l2=>
 agd (aJ.mk r0 l1 l2)
noncomputable def o8 (p0:aH):Option aH:=
 (wM p0.ii).bind fun r0=>
 (wN p0.af).bind fun r1=>
 (o7 p0.aa).bind fun r2=>
 (bO p0.io).bind fun l3=>
 agd (aH.mk p0.ci r0 r1 r2 l3)
noncomputable def jL (s:(Int×Int×Int×(List (Int×Int×Int))×Int×Int×(List (Int×Int×Int)))):Option (Step (Int×Int×Int×(List (Int×Int×Int))×Int×Int×(List (Int×Int×Int))) aZ):=
 bif ah2 (s.2.1<(pp (ag8 s.2.2.2.1))) then
  (aG s.2.2.2.1 s.2.1).bind fun a0=>
  bif a0.1 !=s.1 then
   (aG s.2.2.2.1 s.2.1).bind fun a1=>
   (bm s.2.2.2.2.2.2 [a1]).bind fun l2=>
   agd (.next (s.1,ai .i64 (s.2.1+1),s.2.2.1,s.2.2.2.1,s.2.2.2.2.1,s.2.2.2.2.2.1,l2))
  else
   agd (.next (s.1,ai .i64 (s.2.1+1),s.2.2))
 else
  agd (.done (aZ.mk s.2.2.2.2.2.1 s.2.2.2.2.2.2))
noncomputable def uu (p0:aZ) (p1:Int):Option aZ:=
 aB jL (p1,0,p0.aL,p0.ce,0,p0.aL,[])
noncomputable def ou (s:(Int×Int×Int×Int×(List (Int×Int×Int))×Int×(List (Int×Int×Int))×(List Int)×(List Bool)×(List Int)×(List (Int×Int×Int×Int×Int))×(List Int)×(List (Int×Int×Int)))):Option (Step (Int×Int×Int×Int×(List (Int×Int×Int))×Int×(List (Int×Int×Int))×(List Int)×(List Bool)×(List Int)×(List (Int×Int×Int×Int×Int))×(List Int)×(List (Int×Int×Int))) Int):=
 bif ah2 (s.2.1<(pp (ag8 s.2.2.2.2.2.2.2.2.2.2.2.2))) then
  (aG s.2.2.2.2.2.2.2.2.2.2.2.2 s.2.1).bind fun a0=>
  bif a0.1==s.1 then
   agd (.done s.2.1)
  else
   agd (.next (s.1,ai .i64 (s.2.1+1),s.2.2))
 else
  agd (.done (-1))
noncomputable def qA (p0:aH) (p1:Int):Option Int:=
 aB ou (p1,0,p0.ci.1,p0.ci.2,p0.ii.am,p0.af.aL,p0.af.ce,p0.aa.ae.ar,p0.aa.ae.be,p0.aa.ae.bi,p0.aa.bv,p0.aa.aj,p0.io)
noncomputable def qB (p0:aS) (p1:Int×Int):Option aS:=
 (sF p0).bind fun r0=>
 (aG r0.be p1.1).bind fun b1=>
 (bm r0.bi [p1.1]).bind fun l2=>
 agd (aS.mk r0.ar (cj r0.be p1.1 agY) l2)
noncomputable def fM (a:(Int×Int×(List Int)×(List Bool)×(List Int)×(List (Int×Int×Int×Int×Int))×(List Int))):Option ((List Int)×(List Bool)×(List Int)×(List (Int×Int×Int×Int×Int))×(List Int)):=
 (aG a.2.2.2.2.2.1 a.2.1).bind fun a0=>
 (aG a.2.2.2.2.2.1 a.1).bind fun a1=>
 (aG a.2.2.2.2.2.1 a.1).bind fun a2=>
 (aG (cj a.2.2.2.2.2.1 a.1 a0) a.2.1).bind fun a3=>
 (aG (cj (cj a.2.2.2.2.2.1 a.1 a0) a.2.1 a1) a.1).bind fun a4=>
 (aG (cj (cj a.2.2.2.2.2.1 a.1 a0) a.2.1 a1) a.2.1).bind fun a5=>
 (aG a.2.2.2.2.2.2 a4.2.2.2.1).bind fun n6=>
 (aG (cj a.2.2.2.2.2.2 a4.2.2.2.1 a.1) a5.2.2.2.1).bind fun n7=>
 bif (ag8 a.2.2.1)==(ag8 a.2.2.1) then
  bif (ag8 a.2.2.2.1)==(ag8 a.2.2.2.1) then
   bif (ag8 a.2.2.2.2.1)==(ag8 a.2.2.2.2.1) then
    bif ((cj (cj a.2.2.2.2.2.1 a.1 a0) a.2.1 a1).length)==(ag8 a.2.2.2.2.2.1) then
     bif ((cj (cj a.2.2.2.2.2.2 a4.2.2.2.1 a.1) a5.2.2.2.1 a.2.1).length)==(ag8 a.2.2.2.2.2.2) then
      agd (a.2.2.1,a.2.2.2.1,a.2.2.2.2.1,cj (cj a.2.2.2.2.2.1 a.1 a0) a.2.1 a1,cj (cj a.2.2.2.2.2.2 a4.2.2.2.1 a.1) a5.2.2.2.1 a.2.1)
     else
      agJ
    else
     agJ
   else
    agJ
  else
   agJ
 else
  agJ
noncomputable def gY (a:((List Int)×(List Bool)×(List Int)×Nat×Nat×Int×Int×(List (Int×Int×Int×Int×Int))×(List Int))):Option ((List (Int×Int×Int×Int×Int))×(List Int)):=
 (aG (a.2.2.2.2.2.2.2.1.take a.2.2.2.1) a.2.2.2.2.2.2.1).bind fun a0=>
 (aG (a.2.2.2.2.2.2.2.1.take a.2.2.2.1) a.2.2.2.2.2.1).bind fun a1=>
 (aG (a.2.2.2.2.2.2.2.1.take a.2.2.2.1) a.2.2.2.2.2.1).bind fun a2=>
 (aG ((cj a.2.2.2.2.2.2.2.1 a.2.2.2.2.2.1 a0).take a.2.2.2.1) a.2.2.2.2.2.2.1).bind fun a3=>
 (aG ((cj (cj a.2.2.2.2.2.2.2.1 a.2.2.2.2.2.1 a0) a.2.2.2.2.2.2.1 a1).take a.2.2.2.1) a.2.2.2.2.2.1).bind fun a4=>
 (aG ((cj (cj a.2.2.2.2.2.2.2.1 a.2.2.2.2.2.1 a0) a.2.2.2.2.2.2.1 a1).take a.2.2.2.1) a.2.2.2.2.2.2.1).bind fun a5=>
 (aG a.2.2.2.2.2.2.2.2 a4.2.2.2.1).bind fun n6=>
 (aG (cj a.2.2.2.2.2.2.2.2 a4.2.2.2.1 a.2.2.2.2.2.1) a5.2.2.2.1).bind fun n7=>
 bif ((cj (cj a.2.2.2.2.2.2.2.1 a.2.2.2.2.2.1 a0) a.2.2.2.2.2.2.1 a1).length)==(ag8 a.2.2.2.2.2.2.2.1) then
  bif ((cj (cj a.2.2.2.2.2.2.2.2 a4.2.2.2.1 a.2.2.2.2.2.1) a5.2.2.2.1 a.2.2.2.2.2.2.1).length)==(ag8 a.2.2.2.2.2.2.2.2) then
   agd (cj (cj a.2.2.2.2.2.2.2.1 a.2.2.2.2.2.1 a0) a.2.2.2.2.2.2.1 a1,cj (cj a.2.2.2.2.2.2.2.2 a4.2.2.2.1 a.2.2.2.2.2.1) a5.2.2.2.1 a.2.2.2.2.2.2.1)
  else
   agJ
 else
  agJ
noncomputable def gp (c0:((List Int)×(List Bool)×(List Int)×Nat×Nat×Int×(List (Int×Int×Int×Int×Int))×(List Int))) (s:(Int×(List (Int×Int×Int×Int×Int))×(List Int)×(List Int)×(List Bool)×(List Int)×Nat×Nat)):Option (Step (Int×(List (Int×Int×Int×Int×Int))×(List Int)×(List Int)×(List Bool)×(List Int)×Nat×Nat) (Int×(List (Int×Int×Int×Int×Int))×(List Int))):=
 bif ah2 (0<s.1) then
  (aG (s.2.1.take s.2.2.2.2.2.2.1) s.1).bind fun a0=>
  (aG (s.2.1.take s.2.2.2.2.2.2.1) (ai .i64 (UV (ai .i64 (s.1-1)) 2))).bind fun a1=>
  (dR a0 a1).bind fun b2=>
  bif b2 then
   (gY (s.2.2.2.1,s.2.2.2.2.1,s.2.2.2.2.2.1,s.2.2.2.2.2.2.1,s.2.2.2.2.2.2.2,s.1,ai .i64 (UV (ai .i64 (s.1-1)) 2),s.2.1,s.2.2.1)).bind fun a3=>
   agd (.next (ai .i64 (UV (ai .i64 (s.1-1)) 2),a3.1,a3.2,s.2.2.2))
  else
   bif (ag8 s.2.1)==(ag8 c0.2.2.2.2.2.2.1) then
    bif (ag8 s.2.2.1)==(ag8 c0.2.2.2.2.2.2.2) then
     agd (.done (s.1,s.2.1,s.2.2.1))
    else
     agJ
   else
    agJ
 else
  bif (ag8 s.2.1)==(ag8 c0.2.2.2.2.2.2.1) then
   bif (ag8 s.2.2.1)==(ag8 c0.2.2.2.2.2.2.2) then
    agd (.done (s.1,s.2.1,s.2.2.1))
   else
    agJ
  else
   agJ
noncomputable def ov (a:((List Int)×(List Bool)×(List Int)×Nat×Nat×Int×(List (Int×Int×Int×Int×Int))×(List Int))):Option (Int×(List (Int×Int×Int×Int×Int))×(List Int)):=
 aB (gp a) (a.2.2.2.2.2.1,a.2.2.2.2.2.2.1,a.2.2.2.2.2.2.2,a.1,a.2.1,a.2.2.1,a.2.2.2.1,a.2.2.2.2.1)
noncomputable def jx (c0:((List Int)×(List Bool)×(List Int)×Nat×Nat×Int×(List (Int×Int×Int×Int×Int))×(List Int))) (s:(Int×(List (Int×Int×Int×Int×Int))×(List Int)×(List Int)×(List Bool)×(List Int)×Nat×Nat)):Option (Step (Int×(List (Int×Int×Int×Int×Int))×(List Int)×(List Int)×(List Bool)×(List Int)×Nat×Nat) ((List (Int×Int×Int×Int×Int))×(List Int))):=
 match s with
 |(a,b,d,e,f,g,h,i)=>
  bif ah2 ((pp h)<=(ai .i64 ((ai .i64 (2*a))+1))) then
   bif (ag8 b)==(ag8 c0.2.2.2.2.2.2.1) then
    bif (ag8 d)==(ag8 c0.2.2.2.2.2.2.2) then
     agd (.done (b,d))
    else
     agJ
   else
    agJ
  else
   bif ah2 ((ai .i64 ((ai .i64 ((ai .i64 (2*a))+1))+1))<(pp h)) then
    (aG (b.take h) (ai .i64 ((ai .i64 ((ai .i64 (2*a))+1))+1))).bind fun a0=>
    (aG (b.take h) (ai .i64 ((ai .i64 (2*a))+1))).bind fun a1=>
    (dR a0 a1).bind fun b2=>
    bif b2 then
     (aG (b.take h) (ai .i64 ((ai .i64 ((ai .i64 (2*a))+1))+1))).bind fun a3=>
     (aG (b.take h) a).bind fun a4=>
     (dR a3 a4).bind fun b5=>
     bif !b5 then
      bif (ag8 b)==(ag8 c0.2.2.2.2.2.2.1) then
       bif (ag8 d)==(ag8 c0.2.2.2.2.2.2.2) then
        agd (.done (b,d))
       else
        agJ
      else
       agJ
     else
      (gY (e,f,g,h,i,a,ai .i64 ((ai .i64 ((ai .i64 (2*a))+1))+1),b,d)).bind fun a6=>
      agd (.next (ai .i64 ((ai .i64 ((ai .i64 (2*a))+1))+1),a6.1,a6.2,(e,f,g,h,i)))
    else
     (aG (b.take h) (ai .i64 ((ai .i64 (2*a))+1))).bind fun a7=>
     (aG (b.take h) a).bind fun a8=>
     (dR a7 a8).bind fun b9=>
     bif !b9 then
      bif (ag8 b)==(ag8 c0.2.2.2.2.2.2.1) then
       bif (ag8 d)==(ag8 c0.2.2.2.2.2.2.2) then
        agd (.done (b,d))
       else
        agJ
      else
       agJ
     else
      (gY (e,f,g,h,i,a,ai .i64 ((ai .i64 (2*a))+1),b,d)).bind fun zP=>
      agd (.next (ai .i64 ((ai .i64 (2*a))+1),zP.1,zP.2,(e,f,g,h,i)))
   else
    (aG (b.take h) (ai .i64 ((ai .i64 (2*a))+1))).bind fun B'=>
    (aG (b.take h) a).bind fun a12=>
    (dR B' a12).bind fun b13=>
    bif !b13 then
     bif (ag8 b)==(ag8 c0.2.2.2.2.2.2.1) then
      bif (ag8 d)==(ag8 c0.2.2.2.2.2.2.2) then
       agd (.done (b,d))
      else
       agJ
     else
      agJ
    else
     (gY (e,f,g,h,i,a,ai .i64 ((ai .i64 (2*a))+1),b,d)).bind fun Q2=>
     agd (.next (ai .i64 ((ai .i64 (2*a))+1),Q2.1,Q2.2,(e,f,g,h,i)))
noncomputable def mc (a:((List Int)×(List Bool)×(List Int)×Nat×Nat×Int×(List (Int×Int×Int×Int×Int))×(List Int))):Option ((List (Int×Int×Int×Int×Int))×(List Int)):=
 aB (jx a) (a.2.2.2.2.2.1,a.2.2.2.2.2.2.1,a.2.2.2.2.2.2.2,a.1,a.2.1,a.2.2.1,a.2.2.2.1,a.2.2.2.2.1)
noncomputable def kL (p0:aJ) (p1:Int×Int):Option aJ:=
 (o7 p0).bind fun r0=>
 (aG r0.aj p1.1).bind fun n1=>
 bif n1 !=(ai .i64 ((pp (ag8 r0.bv)) -1)) then
  (fM (n1,ai .i64 ((pp (ag8 r0.bv)) -1),r0.ae.ar,r0.ae.be,r0.ae.bi,r0.bv,r0.aj)).bind fun a2=>
  (fG a2.2.2.2.1 0 (ai .i64 ((pp (ag8 r0.bv)) -1))).bind fun l3=>
  (aG a2.2.2.2.2 p1.1).bind fun n4=>
  (qB (aS.mk a2.1 a2.2.1 a2.2.2.1) p1).bind fun r5=>
  bif n1 !=(ai .i64 ((pp (ag8 r0.bv)) -1)) then
   (ov (r5.ar,r5.be,r5.bi,(ai .i64 ((pp (ag8 r0.bv)) -1)).toNat,ag8 a2.2.2.2.1,n1,a2.2.2.2.1,cj a2.2.2.2.2 p1.1 (-1))).bind fun a6=>
   (mc (r5.ar,r5.be,r5.bi,(ai .i64 ((pp (ag8 r0.bv)) -1)).toNat,ag8 a2.2.2.2.1,a6)).bind fun a7=>
   agd (aJ.mk r5 (a7.1.take ((ai .i64 ((pp (ag8 r0.bv)) -1)).toNat)) a7.2)
  else
   agd (aJ.mk r5 (a2.2.2.2.1.take ((ai .i64 ((pp (ag8 r0.bv)) -1)).toNat)) (cj a2.2.2.2.2 p1.1 (-1)))
 else
  (fG r0.bv 0 (ai .i64 ((pp (ag8 r0.bv)) -1))).bind fun l8=>
  (aG r0.aj p1.1).bind fun n9=>
  (qB r0.ae p1).bind fun r10=>
  bif n1 !=(ai .i64 ((pp (ag8 r0.bv)) -1)) then
   (ov (r10.ar,r10.be,r10.bi,(ai .i64 ((pp (ag8 r0.bv)) -1)).toNat,ag8 r0.bv,n1,r0.bv,cj r0.aj p1.1 (-1))).bind fun B'=>
   (mc (r10.ar,r10.be,r10.bi,(ai .i64 ((pp (ag8 r0.bv)) -1)).toNat,ag8 r0.bv,B')).bind fun a12=>
   agd (aJ.mk r10 (a12.1.take ((ai .i64 ((pp (ag8 r0.bv)) -1)).toNat)) a12.2)
  else
   agd (aJ.mk r10 (r0.bv.take ((ai .i64 ((pp (ag8 r0.bv)) -1)).toNat)) (cj r0.aj p1.1 (-1)))
noncomputable def o9 (p0:aH) (p1:Int):Option aH:=
 (o8 p0).bind fun r0=>
 (uu p0.af p1).bind fun r1=>
 (qA p0 p1).bind fun n2=>
 bif ah2 (0<=n2) then
  (aG p0.io n2).bind fun a3=>
  (kL p0.aa a3.2).bind fun r4=>
  (fG p0.io 0 n2).bind fun l5=>
  (bO l5).bind fun l6=>
  (fG p0.io (ai .i64 (n2+1)) (pp (ag8 p0.io))).bind fun l7=>
  bif l7.isEmpty then
   agd (aH.mk r0.ci r0.ii r1 r4 l6)
  else
   (bm l6 l7).bind fun l8=>
   agd (aH.mk r0.ci r0.ii r1 r4 l8)
 else
  agd (aH.mk r0.ci r0.ii r1 r0.aa r0.io)
noncomputable def gq (c0:(Int×(List Int)×(List Bool)×(List Int)×(List (Int×Int×Int×Int×Int))×(List Int))) (s:(Int×(List Int)×(List Bool)×(List Int)×(List (Int×Int×Int×Int×Int))×(List Int))):Option (Step (Int×(List Int)×(List Bool)×(List Int)×(List (Int×Int×Int×Int×Int))×(List Int)) (Int×(List Int)×(List Bool)×(List Int)×(List (Int×Int×Int×Int×Int))×(List Int))):=
 bif ah2 (0<s.1) then
  (aG s.2.2.2.2.1 s.1).bind fun a0=>
  (aG s.2.2.2.2.1 (ai .i64 (UV (ai .i64 (s.1-1)) 2))).bind fun a1=>
  (dR a0 a1).bind fun b2=>
  bif b2 then
   (fM (s.1,ai .i64 (UV (ai .i64 (s.1-1)) 2),s.2)).bind fun a3=>
   agd (.next (ai .i64 (UV (ai .i64 (s.1-1)) 2),a3))
  else
   bif (ag8 s.2.1)==(ag8 c0.2.1) then
    bif (ag8 s.2.2.1)==(ag8 c0.2.2.1) then
     bif (ag8 s.2.2.2.1)==(ag8 c0.2.2.2.1) then
      bif (ag8 s.2.2.2.2.1)==(ag8 c0.2.2.2.2.1) then
       bif (ag8 s.2.2.2.2.2)==(ag8 c0.2.2.2.2.2) then
        agd (.done s)
       else
        agJ
      else
       agJ
     else
      agJ
    else
     agJ
   else
    agJ
 else
  bif (ag8 s.2.1)==(ag8 c0.2.1) then
   bif (ag8 s.2.2.1)==(ag8 c0.2.2.1) then
    bif (ag8 s.2.2.2.1)==(ag8 c0.2.2.2.1) then
     bif (ag8 s.2.2.2.2.1)==(ag8 c0.2.2.2.2.1) then
      bif (ag8 s.2.2.2.2.2)==(ag8 c0.2.2.2.2.2) then
       agd (.done s)
      else
       agJ
     else
      agJ
    else
     agJ
   else
    agJ
  else
   agJ
noncomputable def sG (a:(Int×(List Int)×(List Bool)×(List Int)×(List (Int×Int×Int×Int×Int))×(List Int))):Option (Int×(List Int)×(List Bool)×(List Int)×(List (Int×Int×Int×Int×Int))×(List Int)):=
 aB (gq a) a
noncomputable def jy (c0:(Int×(List Int)×(List Bool)×(List Int)×(List (Int×Int×Int×Int×Int))×(List Int))) (s:(Int×(List Int)×(List Bool)×(List Int)×(List (Int×Int×Int×Int×Int))×(List Int))):Option (Step (Int×(List Int)×(List Bool)×(List Int)×(List (Int×Int×Int×Int×Int))×(List Int)) ((List Int)×(List Bool)×(List Int)×(List (Int×Int×Int×Int×Int))×(List Int))):=
 bif ah2 ((pp (ag8 s.2.2.2.2.1))<=(ai .i64 ((ai .i64 (2*s.1))+1))) then
  bif (ag8 s.2.1)==(ag8 c0.2.1) then
   bif (ag8 s.2.2.1)==(ag8 c0.2.2.1) then
    bif (ag8 s.2.2.2.1)==(ag8 c0.2.2.2.1) then
     bif (ag8 s.2.2.2.2.1)==(ag8 c0.2.2.2.2.1) then
      bif (ag8 s.2.2.2.2.2)==(ag8 c0.2.2.2.2.2) then
       agd (.done s.2)
      else
       agJ
     else
      agJ
    else
     agJ
   else
    agJ
  else
   agJ
 else
  bif ah2 ((ai .i64 ((ai .i64 ((ai .i64 (2*s.1))+1))+1))<(pp (ag8 s.2.2.2.2.1))) then
   (aG s.2.2.2.2.1 (ai .i64 ((ai .i64 ((ai .i64 (2*s.1))+1))+1))).bind fun a0=>
   (aG s.2.2.2.2.1 (ai .i64 ((ai .i64 (2*s.1))+1))).bind fun a1=>
   (dR a0 a1).bind fun b2=>
   bif b2 then
    (aG s.2.2.2.2.1 (ai .i64 ((ai .i64 ((ai .i64 (2*s.1))+1))+1))).bind fun a3=>
    (aG s.2.2.2.2.1 s.1).bind fun a4=>
    (dR a3 a4).bind fun b5=>
    bif !b5 then
     bif (ag8 s.2.1)==(ag8 c0.2.1) then
      bif (ag8 s.2.2.1)==(ag8 c0.2.2.1) then
       bif (ag8 s.2.2.2.1)==(ag8 c0.2.2.2.1) then
        bif (ag8 s.2.2.2.2.1)==(ag8 c0.2.2.2.2.1) then
         bif (ag8 s.2.2.2.2.2)==(ag8 c0.2.2.2.2.2) then
          agd (.done s.2)
         else
          agJ
        else
         agJ
       else
        agJ
      else
       agJ
     else
      agJ
    else
     (fM (s.1,ai .i64 ((ai .i64 ((ai .i64 (2*s.1))+1))+1),s.2)).bind fun a6=>
     agd (.next (ai .i64 ((ai .i64 ((ai .i64 (2*s.1))+1))+1),a6))
   else
    (aG s.2.2.2.2.1 (ai .i64 ((ai .i64 (2*s.1))+1))).bind fun a7=>
    (aG s.2.2.2.2.1 s.1).bind fun a8=>
    (dR a7 a8).bind fun b9=>
    bif !b9 then
     bif (ag8 s.2.1)==(ag8 c0.2.1) then
      bif (ag8 s.2.2.1)==(ag8 c0.2.2.1) then
       bif (ag8 s.2.2.2.1)==(ag8 c0.2.2.2.1) then
        bif (ag8 s.2.2.2.2.1)==(ag8 c0.2.2.2.2.1) then
         bif (ag8 s.2.2.2.2.2)==(ag8 c0.2.2.2.2.2) then
          agd (.done s.2)
         else
          agJ
        else
         agJ
       else
        agJ
      else
       agJ
     else
      agJ
    else
     (fM (s.1,ai .i64 ((ai .i64 (2*s.1))+1),s.2)).bind fun zP=>
     agd (.next (ai .i64 ((ai .i64 (2*s.1))+1),zP))
  else
   (aG s.2.2.2.2.1 (ai .i64 ((ai .i64 (2*s.1))+1))).bind fun B'=>
   (aG s.2.2.2.2.1 s.1).bind fun a12=>
   (dR B' a12).bind fun b13=>
   bif !b13 then
    bif (ag8 s.2.1)==(ag8 c0.2.1) then
     bif (ag8 s.2.2.1)==(ag8 c0.2.2.1) then
      bif (ag8 s.2.2.2.1)==(ag8 c0.2.2.2.1) then
       bif (ag8 s.2.2.2.2.1)==(ag8 c0.2.2.2.2.1) then
        bif (ag8 s.2.2.2.2.2)==(ag8 c0.2.2.2.2.2) then
         agd (.done s.2)
        else
         agJ
       else
        agJ
      else
       agJ
     else
      agJ
    else
     agJ
   else
    (fM (s.1,ai .i64 ((ai .i64 (2*s.1))+1),s.2)).bind fun Q2=>
    agd (.next (ai .i64 ((ai .i64 (2*s.1))+1),Q2))
noncomputable def pf (a:(Int×(List Int)×(List Bool)×(List Int)×(List (Int×Int×Int×Int×Int))×(List Int))):Option ((List Int)×(List Bool)×(List Int)×(List (Int×Int×Int×Int×Int))×(List Int)):=
 aB (jy a) a
noncomputable def uv (p0:aJ) (p1:Int×Int) (p2:Int×Int):Option aJ:=
 (o7 p0).bind fun r0=>
 (aG r0.aj p1.1).bind fun n1=>
 (aG r0.bv n1).bind fun a2=>
 (sG (n1,r0.ae.ar,r0.ae.be,r0.ae.bi,cj r0.bv n1 (p2.1,p2.2,a2.2.2),r0.aj)).bind fun a3=>
 (pf a3).bind fun a4=>
 agd (aJ.mk (aS.mk a4.1 a4.2.1 a4.2.2.1) a4.2.2.2.1 a4.2.2.2.2)
noncomputable def gG (p0:aS):Option Bool:=
 bif ah2 (0<(pp (ag8 p0.bi))) then
  (aG p0.bi (ai .i64 ((pp (ag8 p0.bi)) -1))).bind fun n0=>
  (aG p0.ar n0).bind fun n1=>
  agd (ah2 (n1<1000000))
 else
  agd agY
noncomputable def yw (p0:aS):Option (aS×(Int×Int)):=
 (sF p0).bind fun r0=>
 (aG r0.bi (ai .i64 ((pp (ag8 r0.bi)) -1))).bind fun n1=>
 (fG r0.bi 0 (ai .i64 ((pp (ag8 r0.bi)) -1))).bind fun l2=>
 (aG r0.ar n1).bind fun n3=>
 (aG r0.ar n1).bind fun n4=>
 (aG r0.be n1).bind fun b5=>
 (aG (cj r0.ar n1 (ai .i64 (n3+1))) n1).bind fun n6=>
 agd (aS.mk (cj r0.ar n1 (ai .i64 (n3+1))) (cj r0.be n1 agN) (r0.bi.take ((ai .i64 ((pp (ag8 r0.bi)) -1)).toNat)),n1,n6)
noncomputable def pg (a:((List Int)×(List Bool)×(List Int)×Int×Int×(List (Int×Int×Int×Int×Int))×(List Int))):Option ((List (Int×Int×Int×Int×Int))×(List Int)):=
 (aG a.2.2.2.2.2.1 a.2.2.2.2.1).bind fun a0=>
 (aG a.2.2.2.2.2.1 a.2.2.2.1).bind fun a1=>
 (aG a.2.2.2.2.2.1 a.2.2.2.1).bind fun a2=>
 (aG (cj a.2.2.2.2.2.1 a.2.2.2.1 a0) a.2.2.2.2.1).bind fun a3=>
 (aG (cj (cj a.2.2.2.2.2.1 a.2.2.2.1 a0) a.2.2.2.2.1 a1) a.2.2.2.1).bind fun a4=>
 (aG (cj (cj a.2.2.2.2.2.1 a.2.2.2.1 a0) a.2.2.2.2.1 a1) a.2.2.2.2.1).bind fun a5=>
 (aG a.2.2.2.2.2.2 a4.2.2.2.1).bind fun n6=>
 (aG (cj a.2.2.2.2.2.2 a4.2.2.2.1 a.2.2.2.1) a5.2.2.2.1).bind fun n7=>
 bif ((cj (cj a.2.2.2.2.2.1 a.2.2.2.1 a0) a.2.2.2.2.1 a1).length)==(ag8 a.2.2.2.2.2.1) then
  bif ((cj (cj a.2.2.2.2.2.2 a4.2.2.2.1 a.2.2.2.1) a5.2.2.2.1 a.2.2.2.2.1).length)==(ag8 a.2.2.2.2.2.2) then
   agd (cj (cj a.2.2.2.2.2.1 a.2.2.2.1 a0) a.2.2.2.2.1 a1,cj (cj a.2.2.2.2.2.2 a4.2.2.2.1 a.2.2.2.1) a5.2.2.2.1 a.2.2.2.2.1)
  else
   agJ
 else
  agJ
noncomputable def gr (c0:((List Int)×(List Bool)×(List Int)×Int×(List (Int×Int×Int×Int×Int))×(List Int))) (s:(Int×(List (Int×Int×Int×Int×Int))×(List Int)×(List Int)×(List Bool)×(List Int))):Option (Step (Int×(List (Int×Int×Int×Int×Int))×(List Int)×(List Int)×(List Bool)×(List Int)) (Int×(List (Int×Int×Int×Int×Int))×(List Int))):=
 bif ah2 (0<s.1) then
  (aG s.2.1 s.1).bind fun a0=>
  (aG s.2.1 (ai .i64 (UV (ai .i64 (s.1-1)) 2))).bind fun a1=>
  (dR a0 a1).bind fun b2=>
  bif b2 then
   (pg (s.2.2.2.1,s.2.2.2.2.1,s.2.2.2.2.2,s.1,ai .i64 (UV (ai .i64 (s.1-1)) 2),s.2.1,s.2.2.1)).bind fun a3=>
   agd (.next (ai .i64 (UV (ai .i64 (s.1-1)) 2),a3.1,a3.2,s.2.2.2))
  else
   bif (ag8 s.2.1)==(ag8 c0.2.2.2.2.1) then
    bif (ag8 s.2.2.1)==(ag8 c0.2.2.2.2.2) then
     agd (.done (s.1,s.2.1,s.2.2.1))
    else
     agJ
   else
    agJ
 else
  bif (ag8 s.2.1)==(ag8 c0.2.2.2.2.1) then
   bif (ag8 s.2.2.1)==(ag8 c0.2.2.2.2.2) then
    agd (.done (s.1,s.2.1,s.2.2.1))
   else
    agJ
  else
   agJ
noncomputable def sH (a:((List Int)×(List Bool)×(List Int)×Int×(List (Int×Int×Int×Int×Int))×(List Int))):Option (Int×(List (Int×Int×Int×Int×Int))×(List Int)):=
 aB (gr a) (a.2.2.2.1,a.2.2.2.2.1,a.2.2.2.2.2,a.1,a.2.1,a.2.2.1)
noncomputable def eC (p0:aJ) (p1:Int×Int) (p2:Int):Option (aJ×(Int×Int)):=
 (o7 p0).bind fun r0=>
 (yw r0.ae).bind fun a1=>
 (bm r0.bv [(p1.1,p1.2,p2,a1.2)]).bind fun l2=>
 (aG r0.aj a1.2.1).bind fun n3=>
 (sH (a1.1.ar,a1.1.be,a1.1.bi,ai .i64 ((pp (ag8 l2)) -1),l2,cj r0.aj a1.2.1 (ai .i64 ((pp (ag8 l2)) -1)))).bind fun a4=>
 agd (aJ.mk a1.1 a4.2.1 a4.2.2,a1.2)
noncomputable def cd (s:(Int×Int×Int×(List (Int×Int×Int))×Int×(List (Int×Int×Int))×(List Int)×(List Bool)×(List Int)×(List (Int×Int×Int×Int×Int))×(List Int)×(List (Int×Int×Int))×(List (Int×Int×Int))×Int×Int×Int×Int×Int×(List (Int×Int×Int))×Int×(List (Int×Int×Int))×(List Int)×(List Bool)×(List Int)×(List (Int×Int×Int×Int×Int))×(List Int)×(List (Int×Int×Int)))):Option (Step (Int×Int×Int×(List (Int×Int×Int))×Int×(List (Int×Int×Int))×(List Int)×(List Bool)×(List Int)×(List (Int×Int×Int×Int×Int))×(List Int)×(List (Int×Int×Int))×(List (Int×Int×Int))×Int×Int×Int×Int×Int×(List (Int×Int×Int))×Int×(List (Int×Int×Int))×(List Int)×(List Bool)×(List Int)×(List (Int×Int×Int×Int×Int))×(List Int)×(List (Int×Int×Int))) (aH×Int)):=
 match s with
 |(a,b,d,e,f,g,h,i,j,k,l,m,n,o,q,r,t,u,v,w,x,y,z,A,B,C,D)=>
  bif ah2 (a<(pp (ag8 g))) then
   (aG g a).bind fun a0=>
   (qA (aH.mk (b,d) (Field.mk e) (aZ.mk f g) (aJ.mk (aS.mk h i j) k l) m) a0.1).bind fun n1=>
   (o6 (Field.mk n) a0.2 (b,d)).bind fun a2=>
   bif a2.2 then
    bif ah2 (0<=n1) then
     (aG m n1).bind fun a3=>
     (uv (aJ.mk (aS.mk y z A) B C) a3.2 a2.1).bind fun r4=>
     (aG m n1).bind fun a5=>
     (bm D [a5]).bind fun l6=>
     bif !a2.2 then
      bif ah2 (0<=n1) then
       (aG m n1).bind fun a7=>
       (kL r4 a7.2).bind fun r8=>
       bif !a2.2 then
        agd (.next (ai .i64 (a+1),b,d,e,f,g,h,i,j,k,l,m,n,o,q,r,t,u,v,w,x,r8.ae.ar,r8.ae.be,r8.ae.bi,r8.bv,r8.aj,l6))
       else
        bif ah2 (0<=n1) then
         agd (.next (ai .i64 (a+1),b,d,e,f,g,h,i,j,k,l,m,n,o,q,r,t,u,v,w,x,r8.ae.ar,r8.ae.be,r8.ae.bi,r8.bv,r8.aj,l6))
        else
         (gG r8.ae).bind fun b9=>
         bif !b9 then
          agd (.done (aH.mk (0,0) (Field.mk []) (aZ.mk 0 []) (aJ.mk (aS.mk [] [] []) [] []) [],18))
         else
          (eC r8 a2.1 a0.1).bind fun zP=>
          (bm l6 [(a0.1,zP.2)]).bind fun l11=>
          agd (.next (ai .i64 (a+1),b,d,e,f,g,h,i,j,k,l,m,n,o,q,r,t,u,v,w,x,zP.1.ae.ar,zP.1.ae.be,zP.1.ae.bi,zP.1.bv,zP.1.aj,l11))
      else
       bif !a2.2 then
        agd (.next (ai .i64 (a+1),b,d,e,f,g,h,i,j,k,l,m,n,o,q,r,t,u,v,w,x,r4.ae.ar,r4.ae.be,r4.ae.bi,r4.bv,r4.aj,l6))
       else
        bif ah2 (0<=n1) then
         agd (.next (ai .i64 (a+1),b,d,e,f,g,h,i,j,k,l,m,n,o,q,r,t,u,v,w,x,r4.ae.ar,r4.ae.be,r4.ae.bi,r4.bv,r4.aj,l6))
        else
         (gG r4.ae).bind fun b12=>
         bif !b12 then
          agd (.done (aH.mk (0,0) (Field.mk []) (aZ.mk 0 []) (aJ.mk (aS.mk [] [] []) [] []) [],18))
         else
          (eC r4 a2.1 a0.1).bind fun OK=>
          (bm l6 [(a0.1,OK.2)]).bind fun l14=>
          agd (.next (ai .i64 (a+1),b,d,e,f,g,h,i,j,k,l,m,n,o,q,r,t,u,v,w,x,OK.1.ae.ar,OK.1.ae.be,OK.1.ae.bi,OK.1.bv,OK.1.aj,l14))
     else
      bif !a2.2 then
       agd (.next (ai .i64 (a+1),b,d,e,f,g,h,i,j,k,l,m,n,o,q,r,t,u,v,w,x,r4.ae.ar,r4.ae.be,r4.ae.bi,r4.bv,r4.aj,l6))
      else
       bif ah2 (0<=n1) then
        agd (.next (ai .i64 (a+1),b,d,e,f,g,h,i,j,k,l,m,n,o,q,r,t,u,v,w,x,r4.ae.ar,r4.ae.be,r4.ae.bi,r4.bv,r4.aj,l6))
       else
        (gG r4.ae).bind fun b15=>
        bif !b15 then
         agd (.done (aH.mk (0,0) (Field.mk []) (aZ.mk 0 []) (aJ.mk (aS.mk [] [] []) [] []) [],18))
        else
         (eC r4 a2.1 a0.1).bind fun Jp=>
         (bm l6 [(a0.1,Jp.2)]).bind fun l17=>
         agd (.next (ai .i64 (a+1),b,d,e,f,g,h,i,j,k,l,m,n,o,q,r,t,u,v,w,x,Jp.1.ae.ar,Jp.1.ae.be,Jp.1.ae.bi,Jp.1.bv,Jp.1.aj,l17))
    else
     bif !a2.2 then
      bif ah2 (0<=n1) then
       (aG m n1).bind fun a18=>
       (kL (aJ.mk (aS.mk y z A) B C) a18.2).bind fun Q3=>
       bif !a2.2 then
        agd (.next (ai .i64 (a+1),b,d,e,f,g,h,i,j,k,l,m,n,o,q,r,t,u,v,w,x,Q3.ae.ar,Q3.ae.be,Q3.ae.bi,Q3.bv,Q3.aj,D))
       else
        bif ah2 (0<=n1) then
         agd (.next (ai .i64 (a+1),b,d,e,f,g,h,i,j,k,l,m,n,o,q,r,t,u,v,w,x,Q3.ae.ar,Q3.ae.be,Q3.ae.bi,Q3.bv,Q3.aj,D))
        else
         (gG Q3.ae).bind fun b20=>
         bif !b20 then
          agd (.done (aH.mk (0,0) (Field.mk []) (aZ.mk 0 []) (aJ.mk (aS.mk [] [] []) [] []) [],18))
         else
          (eC Q3 a2.1 a0.1).bind fun a21=>
          (bm D [(a0.1,a21.2)]).bind fun l22=>
          agd (.next (ai .i64 (a+1),b,d,e,f,g,h,i,j,k,l,m,n,o,q,r,t,u,v,w,x,a21.1.ae.ar,a21.1.ae.be,a21.1.ae.bi,a21.1.bv,a21.1.aj,l22))
      else
       bif !a2.2 then
        agd (.next (ai .i64 (a+1),(b,d,e,f,g,h,i,j,k,l,m,n,o,q,r,t,u,v,w,x,y,z,A,B,C,D)))
       else
        bif ah2 (0<=n1) then
         agd (.next (ai .i64 (a+1),(b,d,e,f,g,h,i,j,k,l,m,n,o,q,r,t,u,v,w,x,y,z,A,B,C,D)))
        else
         (gG (aS.mk y z A)).bind fun b23=>
         bif !b23 then
          agd (.done (aH.mk (0,0) (Field.mk []) (aZ.mk 0 []) (aJ.mk (aS.mk [] [] []) [] []) [],18))
         else
          (eC (aJ.mk (aS.mk y z A) B C) a2.1 a0.1).bind fun a24=>
          (bm D [(a0.1,a24.2)]).bind fun l25=>
          agd (.next (ai .i64 (a+1),b,d,e,f,g,h,i,j,k,l,m,n,o,q,r,t,u,v,w,x,a24.1.ae.ar,a24.1.ae.be,a24.1.ae.bi,a24.1.bv,a24.1.aj,l25))
     else
      bif !a2.2 then
       agd (.next (ai .i64 (a+1),(b,d,e,f,g,h,i,j,k,l,m,n,o,q,r,t,u,v,w,x,y,z,A,B,C,D)))
      else
       bif ah2 (0<=n1) then
        agd (.next (ai .i64 (a+1),(b,d,e,f,g,h,i,j,k,l,m,n,o,q,r,t,u,v,w,x,y,z,A,B,C,D)))
       else
        (gG (aS.mk y z A)).bind fun b26=>
        bif !b26 then
         agd (.done (aH.mk (0,0) (Field.mk []) (aZ.mk 0 []) (aJ.mk (aS.mk [] [] []) [] []) [],18))
        else
         (eC (aJ.mk (aS.mk y z A) B C) a2.1 a0.1).bind fun a27=>
         (bm D [(a0.1,a27.2)]).bind fun l28=>
         agd (.next (ai .i64 (a+1),b,d,e,f,g,h,i,j,k,l,m,n,o,q,r,t,u,v,w,x,a27.1.ae.ar,a27.1.ae.be,a27.1.ae.bi,a27.1.bv,a27.1.aj,l28))
   else
    bif !a2.2 then
     bif ah2 (0<=n1) then
      (aG m n1).bind fun a29=>
      (kL (aJ.mk (aS.mk y z A) B C) a29.2).bind fun Q4=>
      bif !a2.2 then
       agd (.next (ai .i64 (a+1),b,d,e,f,g,h,i,j,k,l,m,n,o,q,r,t,u,v,w,x,Q4.ae.ar,Q4.ae.be,Q4.ae.bi,Q4.bv,Q4.aj,D))
      else
       bif ah2 (0<=n1) then
        agd (.next (ai .i64 (a+1),b,d,e,f,g,h,i,j,k,l,m,n,o,q,r,t,u,v,w,x,Q4.ae.ar,Q4.ae.be,Q4.ae.bi,Q4.bv,Q4.aj,D))
       else
        (gG Q4.ae).bind fun b31=>
        bif !b31 then
         agd (.done (aH.mk (0,0) (Field.mk []) (aZ.mk 0 []) (aJ.mk (aS.mk [] [] []) [] []) [],18))
        else
         (eC Q4 a2.1 a0.1).bind fun a32=>
         (bm D [(a0.1,a32.2)]).bind fun l33=>
         agd (.next (ai .i64 (a+1),b,d,e,f,g,h,i,j,k,l,m,n,o,q,r,t,u,v,w,x,a32.1.ae.ar,a32.1.ae.be,a32.1.ae.bi,a32.1.bv,a32.1.aj,l33))
     else
      bif !a2.2 then
       agd (.next (ai .i64 (a+1),(b,d,e,f,g,h,i,j,k,l,m,n,o,q,r,t,u,v,w,x,y,z,A,B,C,D)))
      else
       bif ah2 (0<=n1) then
        agd (.next (ai .i64 (a+1),(b,d,e,f,g,h,i,j,k,l,m,n,o,q,r,t,u,v,w,x,y,z,A,B,C,D)))
       else
        (gG (aS.mk y z A)).bind fun b34=>
        bif !b34 then
         agd (.done (aH.mk (0,0) (Field.mk []) (aZ.mk 0 []) (aJ.mk (aS.mk [] [] []) [] []) [],18))
        else
         (eC (aJ.mk (aS.mk y z A) B C) a2.1 a0.1).bind fun a35=>
         (bm D [(a0.1,a35.2)]).bind fun l36=>
         agd (.next (ai .i64 (a+1),b,d,e,f,g,h,i,j,k,l,m,n,o,q,r,t,u,v,w,x,a35.1.ae.ar,a35.1.ae.be,a35.1.ae.bi,a35.1.bv,a35.1.aj,l36))
    else
     bif !a2.2 then
      agd (.next (ai .i64 (a+1),(b,d,e,f,g,h,i,j,k,l,m,n,o,q,r,t,u,v,w,x,y,z,A,B,C,D)))
     else
      bif ah2 (0<=n1) then
       agd (.next (ai .i64 (a+1),(b,d,e,f,g,h,i,j,k,l,m,n,o,q,r,t,u,v,w,x,y,z,A,B,C,D)))
      else
       (gG (aS.mk y z A)).bind fun b37=>
       bif !b37 then
        agd (.done (aH.mk (0,0) (Field.mk []) (aZ.mk 0 []) (aJ.mk (aS.mk [] [] []) [] []) [],18))
       else
        (eC (aJ.mk (aS.mk y z A) B C) a2.1 a0.1).bind fun a38=>
        (bm D [(a0.1,a38.2)]).bind fun l39=>
        agd (.next (ai .i64 (a+1),b,d,e,f,g,h,i,j,k,l,m,n,o,q,r,t,u,v,w,x,a38.1.ae.ar,a38.1.ae.be,a38.1.ae.bi,a38.1.bv,a38.1.aj,l39))
  else
   agd (.done (aH.mk (t,u) (Field.mk v) (aZ.mk w x) (aJ.mk (aS.mk y z A) B C) D,0))
noncomputable def mH (p0:aH) (p1:Field):Option (aH×Int):=
 (o8 p0).bind fun r0=>
 (wM p1).bind fun r1=>
 aB cd (0,p0.ci.1,p0.ci.2,p0.ii.am,p0.af.aL,p0.af.ce,p0.aa.ae.ar,p0.aa.ae.be,p0.aa.ae.bi,p0.aa.bv,p0.aa.aj,p0.io,p1.am,0,0,0,r0.ci.1,r0.ci.2,r1.am,r0.af.aL,r0.af.ce,r0.aa.ae.ar,r0.aa.ae.be,r0.aa.ae.bi,r0.aa.bv,r0.aa.aj,[])
noncomputable def CT (p0:aZ) (p1:Int×Int):Option (aZ×Int×Int):=
 (qu p0).bind fun n0=>
 bif n0 !=0 then
  agd (aZ.mk 0 [],0,8)
 else
  (sB p1).bind fun b1=>
  bif !b1 then
   agd (aZ.mk 0 [],0,8)
  else
   (rQ p0 p1).bind fun b2=>
   bif b2 then
    agd (aZ.mk 0 [],0,14)
   else
    bif (pp (ag8 p0.ce))==200 then
     agd (aZ.mk 0 [],0,18)
    else
     bif p0.aL==1000000 then
      agd (aZ.mk 0 [],0,18)
     else
      (wN p0).bind fun r3=>
      (bm r3.ce [(p0.aL,p1)]).bind fun l4=>
      agd (aZ.mk (ai .i64 (r3.aL+1)) l4,p0.aL,0)
noncomputable def lK (p0:aH) (p1:Int×Int):Option (aH×Int×Int):=
 (CT p0.af p1).bind fun a0=>
 bif a0.2.2 !=0 then
  agd (aH.mk (0,0) (Field.mk []) (aZ.mk 0 []) (aJ.mk (aS.mk [] [] []) [] []) [],0,a0.2.2)
 else
  (o8 p0).bind fun r1=>
  (o6 p0.ii p1 p0.ci).bind fun a2=>
  bif !a2.2 then
   agd (aH.mk r1.ci r1.ii a0.1 r1.aa r1.io,a0.2.1,0)
  else
   (gG p0.aa.ae).bind fun b3=>
   bif !b3 then
    agd (aH.mk (0,0) (Field.mk []) (aZ.mk 0 []) (aJ.mk (aS.mk [] [] []) [] []) [],0,18)
   else
    (eC p0.aa a2.1 a0.2.1).bind fun a4=>
    (bm r1.io [(a0.2.1,a4.2)]).bind fun l5=>
    agd (aH.mk r1.ci r1.ii a0.1 a4.1 l5,a0.2.1,0)
noncomputable def dy (s:((List (Int×Int))×Int×Int×Int×Int×Int×Int×(List (Int×Int×Int))×Int×(List (Int×Int×Int))×(List Int)×(List Bool)×(List Int)×(List (Int×Int×Int×Int×Int))×(List Int)×(List (Int×Int×Int)))):Option (Step ((List (Int×Int))×Int×Int×Int×Int×Int×Int×(List (Int×Int×Int))×Int×(List (Int×Int×Int))×(List Int)×(List Bool)×(List Int)×(List (Int×Int×Int×Int×Int))×(List Int)×(List (Int×Int×Int))) (Step ((List (Int×Int))×Int×Int×Int×(List (Int×Int×Int))×Int×(List (Int×Int×Int))×(List Int)×(List Bool)×(List Int)×(List (Int×Int×Int×Int×Int))×(List Int)×(List (Int×Int×Int))×(List (Int×Int×Int))×Int×Int×Int×Int×Int×(List (Int×Int×Int))×Int×(List (Int×Int×Int))×(List Int)×(List Bool)×(List Int)×(List (Int×Int×Int×Int×Int))×(List Int)×(List (Int×Int×Int))) (aH×Int))):=
 match s with
 |(a,b,d,e,f,g,h,i,j,k,l,m,n,o,q,r)=>
  bif ah2 (b<(pp (ag8 a))) then
   (aG a b).bind fun a0=>
   (rQ (aZ.mk j k) a0).bind fun b1=>
   bif b1 then
    agd (.next (a,ai .i64 (b+1),(d,e,f,g,h,i,j,k,l,m,n,o,q,r)))
   else
    (aG a b).bind fun a2=>
    (lK (aH.mk (g,h) (Field.mk i) (aZ.mk j k) (aJ.mk (aS.mk l m n) o q) r) a2).bind fun a3=>
    bif a3.2.2 !=0 then
     agd (.done (.done (aH.mk (0,0) (Field.mk []) (aZ.mk 0 []) (aJ.mk (aS.mk [] [] []) [] []) [],a3.2.2)))
    else
     agd (.next (a,ai .i64 (b+1),d,e,f,a3.1.ci.1,a3.1.ci.2,a3.1.ii.am,a3.1.af.aL,a3.1.af.ce,a3.1.aa.ae.ar,a3.1.aa.ae.be,a3.1.aa.ae.bi,a3.1.aa.bv,a3.1.aa.aj,a3.1.io))
  else
   agd (.done (.done (aH.mk (g,h) (Field.mk i) (aZ.mk j k) (aJ.mk (aS.mk l m n) o q) r,0)))
noncomputable def cW (s:((List (Int×Int))×Int×Int×Int×(List (Int×Int×Int))×Int×(List (Int×Int×Int))×(List Int)×(List Bool)×(List Int)×(List (Int×Int×Int×Int×Int))×(List Int)×(List (Int×Int×Int))×(List (Int×Int×Int))×Int×Int×Int×Int×Int×(List (Int×Int×Int))×Int×(List (Int×Int×Int))×(List Int)×(List Bool)×(List Int)×(List (Int×Int×Int×Int×Int))×(List Int)×(List (Int×Int×Int)))):Option (Step ((List (Int×Int))×Int×Int×Int×(List (Int×Int×Int))×Int×(List (Int×Int×Int))×(List Int)×(List Bool)×(List Int)×(List (Int×Int×Int×Int×Int))×(List Int)×(List (Int×Int×Int))×(List (Int×Int×Int))×Int×Int×Int×Int×Int×(List (Int×Int×Int))×Int×(List (Int×Int×Int))×(List Int)×(List Bool)×(List Int)×(List (Int×Int×Int×Int×Int))×(List Int)×(List (Int×Int×Int))) (aH×Int)):=
 match s with
 |(a,b,d,e,f,g,h,i,j,k,l,m,n,o,q,r,t,u,v,w,x,y,z,A,B,C,D,E)=>
  bif ah2 (b<(pp (ag8 h))) then
   (aG h b).bind fun a0=>
   (ve a a0.2).bind fun b1=>
   bif !b1 then
    (aG h b).bind fun a2=>
    (o9 (aH.mk (u,v) (Field.mk w) (aZ.mk x y) (aJ.mk (aS.mk z A B) C D) E) a2.1).bind fun r3=>
    agd (.next (a,ai .i64 (b+1),d,e,f,g,h,i,j,k,l,m,n,o,q,r,t,r3.ci.1,r3.ci.2,r3.ii.am,r3.af.aL,r3.af.ce,r3.aa.ae.ar,r3.aa.ae.be,r3.aa.ae.bi,r3.aa.bv,r3.aa.aj,r3.io))
   else
    agd (.next (a,ai .i64 (b+1),(d,e,f,g,h,i,j,k,l,m,n,o,q,r,t,u,v,w,x,y,z,A,B,C,D,E)))
  else
   (sE (Field.mk w) (Field.mk o)).bind fun b4=>
   bif !b4 then
    (mH (aH.mk (u,v) (Field.mk w) (aZ.mk x y) (aJ.mk (aS.mk z A B) C D) E) (Field.mk o)).bind fun a5=>
    bif a5.2 !=0 then
     agd (.done (aH.mk (0,0) (Field.mk []) (aZ.mk 0 []) (aJ.mk (aS.mk [] [] []) [] []) [],a5.2))
    else
     aB dy (a,0,q,r,t,a5.1.ci.1,a5.1.ci.2,a5.1.ii.am,a5.1.af.aL,a5.1.af.ce,a5.1.aa.ae.ar,a5.1.aa.ae.be,a5.1.aa.ae.bi,a5.1.aa.bv,a5.1.aa.aj,a5.1.io)
   else
    aB dy (a,0,(q,r,t,u,v,w,x,y,z,A,B,C,D,E))
noncomputable def mI (p0:aH) (p1:Field) (p2:List (Int×Int)):Option (aH×Int):=
 (o8 p0).bind fun r0=>
 aB cW (p2,0,p0.ci.1,p0.ci.2,p0.ii.am,p0.af.aL,p0.af.ce,p0.aa.ae.ar,p0.aa.ae.be,p0.aa.ae.bi,p0.aa.bv,p0.aa.aj,p0.io,p1.am,0,0,0,r0.ci.1,r0.ci.2,r0.ii.am,r0.af.aL,r0.af.ce,r0.aa.ae.ar,r0.aa.ae.be,r0.aa.ae.bi,r0.aa.bv,r0.aa.aj,r0.io)
structure abS where
 jp:aH
 bv:List Int
noncomputable def tN (s:(Int×Int×Int×(List (Int×Int×Int)))):Option (Step (Int×Int×Int×(List (Int×Int×Int))) Int):=
 bif ah2 (s.2.1<(pp (ag8 s.2.2.2))) then
  (aG s.2.2.2 s.2.1).bind fun a0=>
  bif a0.1==s.1 then
   agd (.done s.2.1)
  else
   agd (.next (s.1,ai .i64 (s.2.1+1),s.2.2))
 else
  agd (.done (-1))
noncomputable def KT (p0:aZ) (p1:Int):Option Int:=
 aB tN (p1,0,p0.aL,p0.ce)
noncomputable def BG (p0:aH):Option (aH×(Int×Int×Int×Int×Int)×(Int×Int)):=
 (aG p0.aa.bv 0).bind fun a0=>
 (KT p0.af a0.2.2.1).bind fun n1=>
 (aG p0.af.ce n1).bind fun a2=>
 (o9 p0 a0.2.2.1).bind fun r3=>
 agd (aH.mk (a0.1,a0.2.1) r3.ii r3.af r3.aa r3.io,a0,a2.2)
noncomputable def FT (p0:aH) (p1:Field):Option (cC×Int):=
 (u7 p1 p0.ci).bind fun l0=>
 (u9 p1 l0).bind fun l1=>
 (mI p0 p1 l1).bind fun a2=>
 bif a2.2 !=0 then
  agd (cC.mk (aH.mk (0,0) (Field.mk []) (aZ.mk 0 []) (aJ.mk (aS.mk [] [] []) [] []) []) [],a2.2)
 else
  agd (cC.mk a2.1 l0,0)
noncomputable def iD (s:(Bool×(List (Int×Int))×(List (Int×Int×Int×Int))×Int×Bool×Int)):Option (Step (Bool×(List (Int×Int))×(List (Int×Int×Int×Int))×Int×Bool×Int) (Step (Bool×(List (Int×Int))×(List (Int×Int×Int×Int))×Int) Bool)):=
 match s with
 |(a,b,d,e,f,g)=>
  bif ah2 (g<(pp (ag8 d))) then
   bif f then
    agd (.next (a,b,d,e,agN,ai .i64 (g+1)))
   else
    (aG d g).bind fun a0=>
    (aG b e).bind fun a1=>
    (aG b e).bind fun a2=>
    bif a0.2.2.1==(if a2.2<a1.1 then a2.2 else a1.1) then
     (aG d g).bind fun a3=>
     (aG b e).bind fun a4=>
     (aG b e).bind fun a5=>
     agd (.next (a,b,d,e,a3.2.2.2==(if a5.2>a4.1 then a5.2 else a4.1),ai .i64 (g+1)))
    else
     agd (.next (a,b,d,e,agY,ai .i64 (g+1)))
  else
   bif !f then
    agd (.done (.done agY))
   else
    (fG b 0 e).bind fun l6=>
    (aG b e).bind fun a7=>
    (ve l6 a7).bind fun b8=>
    bif b8 then
     agd (.done (.done agY))
    else
     agd (.done (.next (a,b,d,ai .i64 (e+1))))
noncomputable def dE (s:(Bool×(List (Int×Int))×(List (Int×Int×Int×Int))×Int)):Option (Step (Bool×(List (Int×Int))×(List (Int×Int×Int×Int))×Int) Bool):=
 bif ah2 (s.2.2.2<(pp (ag8 s.2.1))) then
  aB iD (s.1,s.2.1,s.2.2.1,s.2.2.2,agY,0)
 else
  agd (.done s.1)
abbrev wO (n:Int):Prop:= -9223372036854775808<=n/\n<9223372036854775808
abbrev Tz (n:Int):Prop:=0<=n/\n<18446744073709551616
theorem wi (n:Int):ai .i64 n=(n+9223372036854775808)%18446744073709551616-9223372036854775808:=by
 rw [rX];simp only [IntKind.wrap,IntKind.bits,IntKind.signed,Bool.true_and];have e1:(2:Int)^64=18446744073709551616:=by decide
 have e2:(2:Int)^(64-1)=9223372036854775808:=by decide
 simp only [e1,e2,decide_eq_true_eq];split<;>omega
theorem wu (n:Int):ai .u64 n=n%18446744073709551616:=by
 rw [rX];simp only [IntKind.wrap,IntKind.bits,IntKind.signed,Bool.false_and];have e1:(2:Int)^64=18446744073709551616:=by decide
 simp only [e1];simp
theorem HH {n:Int} (h:wO n):ai .i64 n=n:=by rw [wi];omega
theorem dd {a b:Int} (h:a≠b):(a !=b)=agN:=by simpa using h
theorem bL {a b:Int} (h:a=b):(a !=b)=agY:=by simpa using h
theorem dL {a b:Int} (h:a=b):(a==b)=agN:=by simpa using h
theorem dB {a b:Int} (h:a≠b):(a==b)=agY:=by simpa using h
theorem OL (a b:Int):(a==b)=ah2 (a=b):=by
 by_cases h:a=b
 · rw [dL h,decide_eq_true h]
 rw [dB h,decide_eq_false h]
theorem lt_or_ge (a b:Int):a<b\/b<=a:=by omega
theorem agV (a:Int):hZ .u64 a 32=a / 4294967296:=by unfold hZ;rw [show (min (32:Int).toNat (IntKind.bits .u64))=32 from by decide,show (2:Int)^32=4294967296 from by decide];exact aba _ (by decide)
theorem M0 {a:Int} (h:Tz a):oP .u64 a 4294967295=a%4294967296:=by
 obtain ⟨n,rfl⟩:=aa9 h.1;unfold oP;have e:(BitVec.ofInt (IntKind.bits .u64) (n:Int)&&&BitVec.ofInt (IntKind.bits .u64) 4294967295).toNat=n%4294967296:=by
  rw [BitVec.toNat_and];have e1:(BitVec.ofInt (IntKind.bits .u64) (n:Int)).toNat=n:=by
   rw [BitVec.toNat_ofInt];have:((2^(IntKind.bits .u64):Nat):Int)=18446744073709551616:=by decide
   rw [this];omega
  have e2:(BitVec.ofInt (IntKind.bits .u64) (4294967295:Int)).toNat=2^32-1:=by decide
  rw [e1,e2,Nat.and_two_pow_sub_one_eq_mod]
 rw [e];have:=wu ((n%4294967296:Nat):Int);rw [rX] at this;rw [this];omega
theorem OM {a b:Nat} (ha:a<1000000000) (hb:b<1000000000):ai .i64 (hZ .u64 (ai .u64 (ai .i64 ((a:Int)+(b:Int)))) 1)=(((a+b) / 2:Nat):Int):=by unfold hZ;rw [show (min (1:Int).toNat (IntKind.bits .u64))=1 from by decide,show (2:Int)^1=2 from by decide,aba _ (by decide),wi (_+_),wu,wi];omega
section
variable {σ ρ : Type} {body : σ -> Option (Step σ ρ)}
theorem bD (st:Nat->σ) (n:Nat) (h: ∀i,i<n->body (st i)=agd (.next (st (i+1)))):aB body (st 0)=aB body (st n):=by
 induction n with
 |zero=>rfl
 |succ n ih=>rw [ih fun i hi=>h i (by omega)];exact aV (h n (by omega))
theorem cN (st:Nat->σ) (n:Nat) (c:Nat->Prop) {r e:ρ} (h: ∀i,i<n->(c i->body (st i)=agd (.done r))/\(¬c i->body (st i)=agd (.next (st (i+1)))))
 (TA:body (st n)=agd (.done e)):((∃i,i<n/\c i)->aB body (st 0)=agd r)/\((∀i,i<n-> ¬c i)->aB body (st 0)=agd e):=by
 constructor
 · rintro ⟨i,hi,hc⟩
   have key: ∀k,k<=n->(∃i,i<n/\n-k<=i/\c i)->aB body (st (n-k))=agd r:=by
    intro k
    induction k with
    |zero=>rintro _ ⟨i,h1,h2,_⟩;omega
    |succ k ih=>
     rintro hk ⟨i,h1,h2,h3⟩
     by_cases hc:c (n- (k+1))
     · exact aC ((h _ (by omega)).1 hc)
     rw [aV ((h _ (by omega)).2 hc),show n- (k+1)+1=n-k by omega]
     refine ih (by omega) ⟨i,h1,?_,h3⟩
     by_cases he:i=n- (k+1)
     · subst he;exact absurd h3 hc
     omega
   have:=key n (abF n) ⟨i,hi,by omega,hc⟩
   rwa [Nat.sub_self] at this
 intro hn
 rw [bD st n fun i hi=>(h i hi).2 (hn i hi)];exact aC TA
theorem least {c:Nat->Prop}: ∀{n:Nat},(∃i,i<n/\c i)-> ∃k,k<n/\c k/\ ∀j,j<k-> ¬c j
 |0,h=>by obtain ⟨i,hi,_⟩:=h;omega
 |n+1,h=>by
  by_cases hx: ∃i,i<n/\c i
  · obtain ⟨k,h1,h2,h3⟩:=least hx
    exact ⟨k,by omega,h2,h3⟩
  obtain ⟨i,hi,hc⟩:=h
  refine ⟨i,hi,hc,fun j hj hcj=>hx ⟨j,by omega,hcj⟩⟩
theorem lL (st:Nat->σ) (n:Nat) (c:Nat->Prop) (r:Nat->ρ) {e:ρ} (h: ∀i,i<n->(c i->body (st i)=agd (.done (r i)))/\(¬c i->body (st i)=agd (.next (st (i+1)))))
 (TA:body (st n)=agd (.done e)):(∀k,k<n->c k->(∀j,j<k-> ¬c j)->aB body (st 0)=agd (r k))/\((∀i,i<n-> ¬c i)->aB body (st 0)=agd e):=by
 constructor
 · intro k hk hc hj
   rw [bD st k fun i hi=>(h i (by omega)).2 (hj i hi)];exact aC ((h k hk).1 hc)
 intro hn
 rw [bD st n fun i hi=>(h i hi).2 (hn i hi)];exact aC TA
theorem y9 (st:Nat->Nat->σ) (n m:Nat) (c:Nat->Prop)
 (h: ∀lo hi,lo<hi->hi<=n->(c ((lo+hi) / 2)->body (st lo hi)=agd (.next (st ((lo+hi) / 2+1) hi)))/\(¬c ((lo+hi) / 2)->body (st lo hi)=agd (.next (st lo ((lo+hi) / 2)))))
 (h1: ∀i,i<m->c i) (h2: ∀i,m<=i->i<n-> ¬c i): ∀d lo hi,hi-lo<=d->lo<=m->m<=hi->hi<=n->aB body (st lo hi)=aB body (st m m)
 |0,lo,hi,hd,a,b,_=>by
  have e1:lo=m:=by omega
  have e2:hi=m:=by omega
  rw [e1,e2]
 |d+1,lo,hi,hd,a,b,e=>by
  by_cases hl:lo<hi
  · by_cases hc:c ((lo+hi) / 2)
    · rw [aV ((h lo hi hl e).1 hc)]
      refine y9 st n m c h h1 h2 d _ _ (by omega) ?_ b e;refine IR fun hx=>?_
      exact h2 ((lo+hi) / 2) (by omega) (by omega) hc
    rw [aV ((h lo hi hl e).2 hc)]
    refine y9 st n m c h h1 h2 d _ _ (by omega) a ?_ (by omega);refine IR fun hx=>?_
    exact hc (h1 ((lo+hi) / 2) (by omega))
  have e1:lo=m:=by omega
  have e2:hi=m:=by omega
  rw [e1,e2]
end
section
variable {α : Type} [Inhabited α]
theorem aq (l:List α) (n:Nat) (h:n<ag8 l):aG l (n:Int)=agd l[n]!:=by show l[n]? =agd l[n]!;rw [abm h,getElem!_pos l n h]
theorem de {l:List α} {i:Int} (h0:0<=i) (h:i<ag8 l):aG l i=agd l[i.toNat]!:=by obtain ⟨n,rfl⟩:=aa9 h0;exact aq l n (by omega)
theorem qC {β:Type} (l:List β) (n:Nat) (a:β):cj l (n:Int) a=l.set n a:=rfl
theorem bg (l:List α) (n m:Nat) (a:α):(l.set n a)[m]! =if m=n/\n<(ag8 l) then a else l[m]!:=by
 by_cases hm:m<ag8 l
 · rw [getElem!_pos (l.set n a) m (by simpa using hm),getElem!_pos l m hm,List.getElem_set]
   split
   · rw [lm (by omega)]
   rw [ls (by omega)]
 rw [getElem!_neg (l.set n a) m (by simpa using hm),getElem!_neg l m hm]
 split
 · omega
 rfl
theorem aO {l:List α} {x:α}:x∈l↔ ∃i,i<ag8 l/\l[i]! =x:=by
 rw [List.mem_iff_getElem];constructor
 · rintro ⟨i,h,rfl⟩;exact ⟨i,h,getElem!_pos l i h⟩
 rintro ⟨i,h,rfl⟩;exact ⟨i,h,(getElem!_pos l i h).symm⟩
theorem aQ {l:List α} {i:Nat} (h:i<ag8 l):l[i]!∈l:=aO.2 ⟨i,h,rfl⟩
theorem ji {l m:List α} {i:Nat} (h:i<ag8 l):(l++m)[i]! =l[i]!:=by rw [getElem!_pos (l++m) i (by simp;omega),getElem!_pos l i h,List.getElem_append_left h]
theorem jM {l m:List α} {i:Nat} (h:(ag8 l)<=i):(l++m)[i]! =m[i-(ag8 l)]!:=by
 by_cases hi:i<ag8 l+ag8 m
 · rw [getElem!_pos (l++m) i (by simp;omega),getElem!_pos m (i-(ag8 l)) (by omega),List.getElem_append_right h]
 rw [getElem!_neg (l++m) i (by simp;omega),getElem!_neg m (i-(ag8 l)) (by omega)]
theorem kM {l:List α} {n i:Nat} (h:i<n):(l.take n)[i]! =l[i]!:=by
 by_cases hi:i<ag8 l
 · rw [getElem!_pos (l.take n) i (by simp;omega),getElem!_pos l i hi,List.getElem_take]
 rw [getElem!_neg (l.take n) i (by simp;omega),getElem!_neg l i hi]
theorem rR {l:List α} {n i:Nat}:(l.drop n)[i]! =l[n+i]!:=by
 by_cases hi:n+i<ag8 l
 · rw [getElem!_pos (l.drop n) i (by simp;omega),getElem!_pos l (n+i) hi,List.getElem_drop]
 rw [getElem!_neg (l.drop n) i (by simp;omega),getElem!_neg l (n+i) hi]
theorem qD {l m:List α} (hl:(ag8 l)=ag8 m) (h: ∀i,i<ag8 l->l[i]! =m[i]!):l=m:=by
 apply List.ext_getElem hl;intro i h1 h2;have:=h i h1
 rwa [getElem!_pos l i h1,getElem!_pos m i h2] at this
theorem TB {l:List α} {i:Nat} (h:i<ag8 l):l=l.take i++l[i]!::l.drop (i+1):=by rw [getElem!_pos l i h,List.getElem_cons_drop,List.take_append_drop]
end
theorem bj {α:Type} {l:List α} (h:(ag8 l)<=1048576):bO l=agd l:=by unfold bO;rw [lm h]
theorem cu {α:Type} {l m:List α} (h:(ag8 l)+ag8 m<=1048576):bm l m=agd (l++m):=by unfold bm;rw [lm h]
@[simp] theorem ao {α β:Type} (a:α) (f:α->Option β):(agd a).bind f=f a:=rfl
end Go.Proofs.YtcljjehjppgijaaGreat
namespace Go.Proofs.YtcljjehjppgijaaGreat
open Go.Vm Classical
theorem jj {n:Int} (h:wO n):gF n=agd (n.natAbs:Int):=by
 unfold gF;simp only [wi,wu]
 by_cases hn:n<0
 · simp only [hn,decide_true,kw,ww];omega
 simp only [hn,decide_false,lc,ww];omega
theorem ox {n:Int} (h:wO n):kJ n=agd (n.natAbs:Int):=by
 unfold kJ;simp only [wu]
 by_cases hn:n<0
 · simp only [hn,decide_true,kw,ww];omega
 simp only [hn,decide_false,lc,ww];omega
theorem ph (m n:Nat):oj m n=agd (AC m n:Int):=by
 unfold oj
 induction n using acp generalizing m with
 |ind n ih=>
  by_cases h0:n=0
  · subst h0
    rw [ac2];exact aC (by simp [mQ])
  have e:mQ ((m:Int),(n:Int))=agd (.next ((n:Int),((m%n:Nat):Int))):=by
   have h1:((n:Int) !=0)=agN:=by simp;omega
   have h2:((n:Int)==0)=agY:=by simp;omega
   simp only [mQ,h1,h2,kw,lc,acI]
  rw [aV e,ih (m%n) (Nat.mod_lt _ (by omega)) n,aak m n,Nat.gcd_rec n m,aak]
theorem zS (m n:Nat):u5 m n=agd (AC m n:Int):=by
 unfold u5
 induction n using acp generalizing m with
 |ind n ih=>
  by_cases h0:n=0
  · subst h0
    rw [ac2];exact aC (by simp [rA])
  have e:rA ((m:Int),(n:Int))=agd (.next ((n:Int),((m%n:Nat):Int))):=by
   have h1:ah2 (0<(n:Int))=agN:=by simp;omega
   have h2:((n:Int)==0)=agY:=by simp;omega
   simp only [rA,h1,h2,kw,lc,acI]
  rw [aV e,ih (m%n) (Nat.mod_lt _ (by omega)) n,aak m n,Nat.gcd_rec n m,aak]
def aW (r:Int×Int):Prop:=1<=r.2/\r.1≠ -9223372036854775808/\AC r.2.natAbs r.1.natAbs=1
abbrev iI (r:Int×Int):Prop:=wO r.1/\wO r.2
theorem dm {r:Int×Int} (h:iI r):ef r=agd (if aW r then 0 else 8):=by
 obtain ⟨a,b⟩:=r;obtain ⟨ha,hb⟩:=h;unfold ef aW;dsimp only at ha hb ⊢
 by_cases h1:b<1
 · rw [ls (by omega)];simp [h1]
 by_cases h2:a= -9223372036854775808
 · rw [ls (by omega)];simp [h1,h2]
 have e2:(a== -9223372036854775808)=agY:=by simpa using h2
 have e3:ai .u64 b=(b.natAbs:Int):=by rw [wu];omega
 simp only [h1,decide_false,lc,e2,ox ha,ao,e3,zS];have hp:0<AC b.natAbs a.natAbs:=Nat.gcd_pos_of_pos_left _ (by omega)
 by_cases h3:AC b.natAbs a.natAbs=1
 · rw [lm ⟨by omega,h2,h3⟩,h3];rfl
 rw [ls (fun h=>h3 h.2.2)]
 have:ah2 (1<(AC b.natAbs a.natAbs:Int))=agN:=by simp;omega
 rw [this];rfl
theorem lM {r:Int×Int} (h:iI r):jV r=agd (if aW r then 0 else 8):=by
 obtain ⟨a,b⟩:=r;obtain ⟨ha,hb⟩:=h;unfold jV aW;dsimp only at ha hb ⊢
 by_cases h1:b<1
 · rw [ls (by omega)];simp [h1]
 by_cases h2:a= -9223372036854775808
 · rw [ls (by omega)];simp [h1,h2]
 have e2:(a== -9223372036854775808)=agY:=by simpa using h2
 have e3:ai .u64 b=(b.natAbs:Int):=by rw [wu];omega
 simp only [h1,decide_false,lc,e2,jj ha,ao,e3,ph];rw [aak]
 by_cases h3:AC b.natAbs a.natAbs=1
 · rw [lm ⟨by omega,h2,h3⟩,h3];rfl
 rw [ls (fun h=>h3 h.2.2)]
 have:((AC b.natAbs a.natAbs:Int) !=1)=agN:=by simp;omega
 rw [this];rfl
theorem TC (x y:Int) (hx:Tz x) (hy:Tz y): ∃p q r s:Int,0<=p/\p<=18446744065119617025/\0<=q/\q<=18446744065119617025/\0<=r/\r<=18446744065119617025/\0<=s/\s<=18446744065119617025/\
 x / 4294967296*(y / 4294967296)=p/\x / 4294967296*(y%4294967296)=q/\x%4294967296*(y / 4294967296)=r/\x%4294967296*(y%4294967296)=s/\
 x*y=p*18446744073709551616+(q+r)*4294967296+s:=by
 have QZ:0<=x / 4294967296/\x / 4294967296<=4294967295:=by omega
 have Kb:0<=x%4294967296/\x%4294967296<=4294967295:=by omega
 have hy1:0<=y / 4294967296/\y / 4294967296<=4294967295:=by omega
 have P4:0<=y%4294967296/\y%4294967296<=4294967295:=by omega
 have ex:x=x / 4294967296*4294967296+x%4294967296:=by omega
 have ey:y=y / 4294967296*4294967296+y%4294967296:=by omega
 generalize x / 4294967296=a at*;generalize x%4294967296=b at*;generalize y / 4294967296=c at*;generalize y%4294967296=d at*;have bd: ∀{u v:Int},0<=u/\u<=4294967295->0<=v/\v<=4294967295->0<=u*v/\u*v<=18446744065119617025:=by
  intro u v hu hv;refine ⟨abK hu.1 hv.1,?_⟩
  calc u*v<=4294967295*4294967295:=abb hu.2 hv.2 hv.1 (by decide)
   _=_:=by decide
 refine ⟨a*c,a*d,b*c,b*d,(bd QZ hy1).1,(bd QZ hy1).2,(bd QZ P4).1,(bd QZ P4).2,(bd Kb hy1).1,(bd Kb hy1).2,(bd Kb P4).1,(bd Kb P4).2,rfl,rfl,rfl,rfl,?_⟩;rw [ex,ey]
 grind
theorem FU {x y:Int} (hx:Tz x) (hy:Tz y):gC x y=agd (x*y / 18446744073709551616,x*y%18446744073709551616):=by
 unfold gC;obtain ⟨p,q,r,s,p0,p1,q0,q1,r0,r1,s0,s1,ep,eq,er,es,exy⟩:=TC x y hx hy;have key: ∀z:Int,oP .u64 (z%18446744073709551616) 4294967295=z%18446744073709551616%4294967296:=fun z=>M0 (by constructor<;>omega)
 simp only [agV,M0 hx,M0 hy,wu,key,ep,eq,er,es,exy,ww,aa2,and_true];clear ep eq er es exy key hx hy;have e1:s%18446744073709551616=s:=by omega
 have e2:(q+s / 4294967296)%18446744073709551616=q+s / 4294967296:=by omega
 have ep:p%18446744073709551616=p:=by omega
 have eq:q%18446744073709551616=q:=by omega
 have er:r%18446744073709551616=r:=by omega
 rw [e1,ep,eq,er,e2];have e3:s=s / 4294967296*4294967296+s%4294967296:=by omega
 have e4:q+s / 4294967296=(q+s / 4294967296) / 4294967296*4294967296+(q+s / 4294967296)%4294967296:=by omega
 have b1:0<=s%4294967296/\s%4294967296<4294967296:=by omega
 have b2:0<=(q+s / 4294967296)%4294967296/\(q+s / 4294967296)%4294967296<4294967296:=by omega
 have b3:0<=(q+s / 4294967296) / 4294967296/\(q+s / 4294967296) / 4294967296<=4294967295:=by omega
 have b4:0<=s / 4294967296/\s / 4294967296<=4294967295:=by omega
 generalize (q+s / 4294967296) / 4294967296=t1 at*;generalize (q+s / 4294967296)%4294967296=t0 at*;generalize s / 4294967296=c1 at*;generalize s%4294967296=c0 at*;clear e1 e2;have e5:(t0+r)%18446744073709551616=t0+r:=by omega
 rw [e5];have e6:t0+r=(t0+r) / 4294967296*4294967296+(t0+r)%4294967296:=by omega
 have b5:0<=(t0+r)%4294967296/\(t0+r)%4294967296<4294967296:=by omega
 have b6:0<=(t0+r) / 4294967296/\(t0+r) / 4294967296<=4294967295:=by omega
 generalize (t0+r) / 4294967296=u1 at*;generalize (t0+r)%4294967296=u0 at*;omega
theorem M1 {x y:Int} (hx:Tz x) (hy:Tz y):pM x y=agd (agY,x*y / 18446744073709551616,x*y%18446744073709551616):=by
 unfold pM;obtain ⟨p,q,r,s,p0,p1,q0,q1,r0,r1,s0,s1,ep,eq,er,es,exy⟩:=TC x y hx hy;have t1: ∀a:Int,0<=a->UV a 4294967296=a / 4294967296:=fun a h=>abc h
 have t2: ∀a:Int,0<=a->Int.tmod a 4294967296=a%4294967296:=fun a h=>Int.tmod_eq_emod_of_nonneg h
 simp only [wu];rw [t1 x hx.1,t1 y hy.1,t2 x hx.1,t2 y hy.1];have f1:x / 4294967296%18446744073709551616=x / 4294967296:=by omega
 have f2:y / 4294967296%18446744073709551616=y / 4294967296:=by omega
 simp only [f1,f2,ep,eq,er,es];have g: ∀a:Int,UV (a%18446744073709551616) 4294967296=a%18446744073709551616 / 4294967296:=fun a=>t1 _ (by omega)
 have g2: ∀a:Int,Int.tmod (a%18446744073709551616) 4294967296=a%18446744073709551616%4294967296:=fun a=>t2 _ (by omega)
 simp only [g,g2,exy,ww,aa2,true_and];constructor<;>omega
abbrev B64 (a:Bool×Int×Int):Prop:=Tz a.2.1/\Tz a.2.2
theorem za {n:Int} (h:wO n):Tz (n.natAbs:Int):=by constructor<;>omega
theorem zb {n:Int} (h:wO n):(n.natAbs:Int)<=9223372036854775808:=by omega
theorem BH (a b:Int):((a.natAbs:Int)*(b.natAbs:Int))=((a*b).natAbs:Int):=by rw [Int.natAbs_mul];rfl
theorem sI {a b:Int} (ha:wO a) (hb:wO b):((a*b).natAbs:Int)<=85070591730234615865843651857942052864:=by
 rw [<- BH]
 calc (a.natAbs:Int)*(b.natAbs:Int)<=9223372036854775808*9223372036854775808:=abb (zb ha) (zb hb) (by omega) (by decide)
  _=_:=by decide
theorem wP {a b:Int} (ha:wO a) (hb:wO b):
 jh a b=agd (ah2 (a*b<0),((a*b).natAbs:Int) / 18446744073709551616,((a*b).natAbs:Int)%18446744073709551616):=by
 unfold jh;simp only [jj ha,jj hb,ao,M1 (za ha) (za hb),BH];have hs:(a*b<0)↔((a<0/\0<b)\/(0<a/\b<0)):=by
  constructor
  · intro h
    rcases abg a 0 with h1|h1|h1
    · rcases abg b 0 with h2|h2|h2
      · have:=Int.mul_pos_of_neg_of_neg h1 h2;omega
      · subst h2;simp at h
      exact .inl ⟨h1,h2⟩
    · subst h1;simp at h
    rcases abg b 0 with h2|h2|h2
    · exact .inr ⟨h1,h2⟩
    · subst h2;simp at h
    have:=Int.mul_pos h1 h2;omega
  rintro (⟨h1,h2⟩|⟨h1,h2⟩)
  · exact aa8 h1 h2
  exact Int.mul_neg_of_pos_of_neg h1 h2
 have hd:ah2 (a*b<0)=ah2 ((a<0/\0<b)\/(0<a/\b<0)):=by simp only [hs]
 rw [hd];clear hd hs;generalize ((a*b).natAbs:Int)=z
 by_cases h1:a<0
 · have LM: ¬0<a:=by omega
   have akq:(a !=0)=agN:=dd (by omega)
   by_cases h2:b<0
   · have PS: ¬0<b:=by omega
     simp [h1,h2,LM,PS]
   by_cases h3:b=0
   · simp [h1,h3,akq]
   have h3':0<b:=by omega
   simp [h1,h2,h3',akq,dd h3]
 by_cases h0:a=0
 · subst h0
   by_cases h2:b<0<;>simp [h2]
 have LM:0<a:=by omega
 by_cases h2:b<0
 · have PS:(b !=0)=agN:=dd (by omega)
   simp [h1,h2,LM,dd h0,PS]
 simp [h1,h2,LM]
theorem KU {a b:Int} (ha:wO a) (hb:wO b):
 qh a b=agd (!(ah2 (a<0)==ah2 (b<0)),((a*b).natAbs:Int) / 18446744073709551616,((a*b).natAbs:Int)%18446744073709551616):=by
 unfold qh;simp only [ox ha,ox hb,ao,FU (za ha) (za hb),BH]
def iH (a b:Int):Int:=if a<b then -1 else if b<a then 1 else 0
theorem zT (a b:Int):iT a b=agd (iH a b):=by
 unfold iT mP iH
 by_cases h1:a<b<;>by_cases h2:b<a<;>simp [h1,h2]
theorem GU (a b:Int):ij a b=agd (iH a b):=by
 unfold ij lY iH
 by_cases h1:a<b<;>by_cases h2:b<a<;>simp [h1,h2]
theorem iw (a b:Int):dh a b=agd (iH a b):=by
 unfold dh cmp_isNaN_int iH
 by_cases h1:a<b<;>by_cases h2:b<a<;>simp [h1,h2]
theorem cM (a b:Int):(a<b/\iH a b= -1)\/(a=b/\iH a b=0)\/(b<a/\iH a b=1):=by
 unfold iH
 by_cases h1:a<b
 · exact .inl ⟨h1,by rw [lm h1]⟩
 by_cases h2:b<a
 · exact .inr (.inr ⟨h2,by rw [ls h1,lm h2]⟩)
 exact .inr (.inl ⟨by omega,by rw [ls h1,ls h2]⟩)
theorem IW (a b:Bool×Int×Int) (ha:B64 a) (hb:B64 b):o4 a b=agd (iH (a.2.1*18446744073709551616+a.2.2) (b.2.1*18446744073709551616+b.2.2)):=by
 obtain ⟨s,ah,al⟩:=a;obtain ⟨t,bh,bl⟩:=b;obtain ⟨⟨a1,a2⟩,a3,a4⟩:=ha;obtain ⟨⟨b1,b2⟩,b3,b4⟩:=hb;dsimp only at*;unfold o4 iH;dsimp only
 by_cases h1:ah=bh
 · subst h1
   by_cases h2:al=bl
   · subst h2;simp
   by_cases h3:al<bl
   · simp [dd h2,h3]
   rw [ls (by omega),lm (by omega)];simp [dd h2,h3]
 by_cases h3:ah<bh
 · rw [lm (by omega)];simp [dd h1,h3]
 rw [ls (by omega),lm (by omega)];simp [dd h1,h3]
theorem M4 (a b:Bool×Int×Int) (ha:B64 a) (hb:B64 b):pI a b=agd (iH (a.2.1*18446744073709551616+a.2.2) (b.2.1*18446744073709551616+b.2.2)):=by
 obtain ⟨s,ah,al⟩:=a;obtain ⟨t,bh,bl⟩:=b;obtain ⟨⟨a1,a2⟩,a3,a4⟩:=ha;obtain ⟨⟨b1,b2⟩,b3,b4⟩:=hb;dsimp only at*;unfold pI;simp only [GU,ao];unfold iH
 by_cases h1:ah=bh
 · subst h1
   by_cases h3:al<bl
   · simp [h3]
   by_cases h2:bl<al
   · rw [ls (show¬(ah*18446744073709551616+al<ah*18446744073709551616+bl) by omega),lm (show ah*18446744073709551616+bl<ah*18446744073709551616+al by omega)];simp [h2,h3]
   have:al=bl:=by omega
   subst this;simp
 by_cases h3:ah<bh
 · rw [lm (show ah*18446744073709551616+al<bh*18446744073709551616+bl by omega)];simp [h3]
 rw [ls (show¬(ah*18446744073709551616+al<bh*18446744073709551616+bl) by omega),lm (show bh*18446744073709551616+bl<ah*18446744073709551616+al by omega)];simp [h3,show bh<ah by omega]
theorem tO (a:Bool) {n:Int} (h0:0<=n) (h:n<=85070591730234615865843651857942052864):B64 (a,n / 18446744073709551616,n%18446744073709551616):=by constructor<;>constructor<;>dsimp only<;>omega
theorem IX {n:Int} (h:(n.natAbs:Int)<=85070591730234615865843651857942052864):j7 (ah2 (n<0),(n.natAbs:Int) / 18446744073709551616,(n.natAbs:Int)%18446744073709551616)=agd (iH n 0):=by
 unfold j7 iH;dsimp only
 by_cases h0:n=0
 · subst h0;simp
 by_cases h1:n<0
 · rw [lm h1]
   by_cases h2:(n.natAbs:Int) / 18446744073709551616=0
   · have h3: ¬((n.natAbs:Int)%18446744073709551616=0):=by omega
     simp [h1,h2,dB h3]
   simp [h1,dB h2]
 rw [ls h1,lm (by omega)]
 by_cases h2:(n.natAbs:Int) / 18446744073709551616=0
 · have h3: ¬((n.natAbs:Int)%18446744073709551616=0):=by omega
   simp [h1,h2,dB h3]
 simp [h1,dB h2]
def dH (a b:Int×Int):Int:=iH (a.1*b.2) (b.1*a.2)
theorem wQ {a b:Int×Int} (ha:iI a) (hb:iI b):kK a b=agd (dH a b):=by
 unfold kK dH;have n1:=sI ha.1 hb.2;have n2:=sI hb.1 ha.2;simp only [wP ha.1 hb.2,wP hb.1 ha.2,ao,IX n1,IX n2];generalize a.1*b.2=x at*;generalize b.1*a.2=y at*;rw [IW _ _ (tO _ (by omega) n1) (tO _ (by omega) n2),IW _ _ (tO _ (by omega) n2) (tO _ (by omega) n1)];have ex:((x.natAbs:Int) / 18446744073709551616)*18446744073709551616+(x.natAbs:Int)%18446744073709551616=(x.natAbs:Int):=by omega
 have ey:((y.natAbs:Int) / 18446744073709551616)*18446744073709551616+(y.natAbs:Int)%18446744073709551616=(y.natAbs:Int):=by omega
 simp only [ex,ey,ao];rcases cM x 0 with ⟨h1,e1⟩|⟨h1,e1⟩|⟨h1,e1⟩<;>rcases cM y 0 with ⟨h2,e2⟩|⟨h2,e2⟩|⟨h2,e2⟩<;>rw [e1,e2]<;>simp<;>
  unfold iH<;>(repeat' split)<;>first|rfl|omega
theorem aaq {a b:Int×Int} (ha:iI a) (hb:iI b):wm a b=agd (if aW a/\aW b then 0 else 8):=by
 unfold wm;simp only [dm ha,dm hb,ao]
 by_cases h1:aW a<;>by_cases h2:aW b<;>simp [h1,h2]
theorem CU {a b:Int×Int} (ha:iI a) (hb:iI b):nA a b=agd (if aW a/\aW b then (dH a b,0) else (0,8)):=by
 unfold nA;rw [aaq ha hb]
 by_cases h:aW a/\aW b
 · rw [lm h,lm h]
   obtain ⟨⟨a1,a2,a3⟩,b1,b2,b3⟩:=h;have n1:=sI ha.1 hb.2;have n2:=sI hb.1 ha.2;simp only [ao,zT,KU ha.1 hb.2,KU hb.1 ha.2];rw [M4 _ _ (tO _ (by omega) n1) (tO _ (by omega) n2)];have ex:((a.1*b.2).natAbs:Int) / 18446744073709551616*18446744073709551616+((a.1*b.2).natAbs:Int)%18446744073709551616=((a.1*b.2).natAbs:Int):=by omega
   have ey:((b.1*a.2).natAbs:Int) / 18446744073709551616*18446744073709551616+((b.1*a.2).natAbs:Int)%18446744073709551616=((b.1*a.2).natAbs:Int):=by omega
   simp only [ex,ey,ao];unfold dH;have s1:(a.1<0↔a.1*b.2<0):=by
    constructor
    · intro h;exact aa8 h (by omega)
    intro h;rcases lt_or_ge a.1 0 with h1|h1
    · exact h1
    have:=abK h1 (show 0<=b.2 by omega);omega
   have s2:(b.1<0↔b.1*a.2<0):=by
    constructor
    · intro h;exact aa8 h (by omega)
    intro h;rcases lt_or_ge b.1 0 with h1|h1
    · exact h1
    have:=abK h1 (show 0<=a.2 by omega);omega
   generalize a.1*b.2=x at*;generalize b.1*a.2=y at*
   by_cases h1:a.1<0<;>by_cases h2:b.1<0
   · have h3:=s1.1 h1;have h4:=s2.1 h2
     have:ai .i64 (-iH (x.natAbs:Int) (y.natAbs:Int))=iH x y:=by rw [wi];unfold iH;(repeat' split)<;>omega
     simp [h1,h2,this]
   · have h3:=s1.1 h1;have h4: ¬y<0:=fun h=>h2 (s2.2 h)
     have:iH a.1 b.1=iH x y:=by unfold iH;(repeat' split)<;>omega
     simp [h1,h2,this]
   · have h3: ¬x<0:=fun h=>h1 (s1.2 h);have h4:=s2.1 h2
     have:iH a.1 b.1=iH x y:=by unfold iH;(repeat' split)<;>omega
     simp [h1,h2,this]
   have h3: ¬x<0:=fun h=>h1 (s1.2 h);have h4: ¬y<0:=fun h=>h2 (s2.2 h)
   have:iH (x.natAbs:Int) (y.natAbs:Int)=iH x y:=by unfold iH;(repeat' split)<;>omega
   simp [h1,h2,this]
 rw [ls h,ls h];rfl
abbrev Pt:=Int×Int×Int
def eZ (p:Pt):Prop:=0<=p.1/\p.1<=65535/\ -1048576<=p.2.1/\p.2.1<=1048576/\ -1048576<=p.2.2/\p.2.2<=1048576
theorem xl (p:Pt):lX p=agd (if eZ p then 0 else 8):=by
 obtain ⟨i,a,b⟩:=p;unfold lX nY eZ;dsimp only
 by_cases h1:i<0
 · rw [ls (by omega)];simp [h1]
 by_cases h2:65535<i
 · rw [ls (by omega)];simp [h1,h2]
 by_cases h3:a< -1048576
 · rw [ls (by omega)];simp [h1,h2,h3]
 by_cases h4:1048576<a
 · rw [ls (by omega)];simp [h1,h2,h3,h4]
 by_cases h5:b< -1048576
 · rw [ls (by omega)];simp [h1,h2,h3,h4,h5]
 by_cases h6:1048576<b
 · rw [ls (by omega)];simp [h1,h2,h3,h4,h5,h6]
 rw [lm (by omega)];simp [h1,h2,h3,h4,h5,h6]
theorem FV (p:Pt):tD p=agd (if eZ p then 0 else 8):=by
 obtain ⟨i,a,b⟩:=p;unfold tD eZ;dsimp only
 by_cases h1:i<0
 · rw [ls (by omega)];simp [h1]
 by_cases h2:65535<i
 · rw [ls (by omega)];simp [h1,h2]
 by_cases h3:a< -1048576
 · rw [ls (by omega)];simp [h1,h2,h3]
 by_cases h4:1048576<a
 · rw [ls (by omega)];simp [h1,h2,h3,h4]
 by_cases h5:b< -1048576
 · rw [ls (by omega)];simp [h1,h2,h3,h4,h5]
 by_cases h6:1048576<b
 · rw [ls (by omega)];simp [h1,h2,h3,h4,h5,h6]
 rw [lm (by omega)];simp [h1,h2,h3,h4,h5,h6]
theorem vf {x y:Int} (hx:wO x) (hy:wO y): -85070591730234615865843651857942052864<=x*y/\x*y<=85070591730234615865843651857942052864:=by have:=sI hx hy;omega
theorem abT {x y:Int} (hx:wO x) (hy:wO y):(x%18446744073709551616)*(y%18446744073709551616)=x*y+(if x<0 then y else 0)*18446744073709551616+(if y<0 then x else 0)*18446744073709551616+(if x<0/\y<0 then 340282366920938463463374607431768211456 else 0):=by
 by_cases h1:x<0<;>by_cases h2:y<0
 · have e1:x%18446744073709551616=x+18446744073709551616:=by omega
   have e2:y%18446744073709551616=y+18446744073709551616:=by omega
   rw [e1,e2,lm h1,lm h2,lm ⟨h1,h2⟩];grind
 · have e1:x%18446744073709551616=x+18446744073709551616:=by omega
   have e2:y%18446744073709551616=y:=by omega
   rw [e1,e2,lm h1,ls h2,ls (fun h=>h2 h.2)];grind
 · have e1:x%18446744073709551616=x:=by omega
   have e2:y%18446744073709551616=y+18446744073709551616:=by omega
   rw [e1,e2,ls h1,lm h2,ls (fun h=>h1 h.1)];grind
 have e1:x%18446744073709551616=x:=by omega
 have e2:y%18446744073709551616=y:=by omega
 rw [e1,e2,ls h1,ls h2,ls (fun h=>h1 h.1)];grind
theorem KV {a b:Int} (ha:0<=a) (hb:0<=b):oT a b 0=agd ((a+b)%18446744073709551616,(a+b) / 18446744073709551616):=by unfold oT;simp [ha,hb]
theorem TD {a b c d u v:Int} (ha:wO a) (hb:wO b):mE (a,b,c,d,0,u,v,0,0)=agd (.next (a,b,c,d,1,u,v,a*b / 18446744073709551616,a*b%18446744073709551616)):=by
 unfold mE;have hm:=FU (x:=ai .u64 a) (y:=ai .u64 b) (by rw [wu];constructor<;>omega) (by rw [wu];constructor<;>omega);have L7:=vf ha hb;have hu:=abT ha hb;simp only [hm,ao];simp only [wu,hu];generalize a*b=x at*
 by_cases h1:a<0<;>by_cases h2:b<0
 all_goals
  simp only [h1,h2,decide_true,decide_false,kw,lc,if_true,if_false,and_self,and_false,false_and];rw [KV (by omega) (by omega)];simp only [wi,ao,show ah2 ((0:Int)<2)=agN from rfl,kw,show ((0:Int)==0)=agN from rfl,ww,Step.next.injEq,aa2,true_and];refine ⟨by omega,?_,?_⟩<;>omega
theorem TE {a b c d u v h l:Int} (hc:wO c) (hd:wO d) (hl:Tz l)
 (_hh: -9223372036854775808<=h/\h<9223372036854775808) (hs: -170141183460469231731687303715884105728<=h*18446744073709551616+l+c*d/\h*18446744073709551616+l+c*d<170141183460469231731687303715884105728):
 mE (a,b,c,d,1,u,v,h,l)=agd (.next (a,b,c,d,2,u,v,(h*18446744073709551616+l+c*d) / 18446744073709551616,(h*18446744073709551616+l+c*d)%18446744073709551616)):=by
 unfold mE;have hm:=FU (x:=ai .u64 c) (y:=ai .u64 d) (by rw [wu];constructor<;>omega) (by rw [wu];constructor<;>omega);have L7:=vf hc hd;have hu:=abT hc hd;simp only [hm,ao];simp only [wu,hu];generalize c*d=x at*
 by_cases h1:c<0<;>by_cases h2:d<0
 all_goals
  simp only [h1,h2,decide_true,decide_false,kw,lc,if_true,if_false,and_self,and_false,false_and];rw [KV (by omega) (by omega)];simp only [wi,ao,show ah2 ((1:Int)<2)=agN from rfl,kw,lc,show ((1:Int)==0)=agY from rfl,show ((1:Int)==1)=agN from rfl,ww,Step.next.injEq,aa2,true_and];refine ⟨by omega,?_,?_⟩<;>omega
theorem GV {a b c d:Int} (ha:wO a) (hb:wO b) (hc:wO c) (hd:wO d) (hs: -170141183460469231731687303715884105728<=a*b+c*d/\a*b+c*d<170141183460469231731687303715884105728):
 wq (a,b,c,d)=agd ((a*b+c*d) / 18446744073709551616,(a*b+c*d)%18446744073709551616):=by
 unfold wq;dsimp only;have L7:=vf ha hb;have e:a*b / 18446744073709551616*18446744073709551616+a*b%18446744073709551616+c*d=a*b+c*d:=by omega
 rw [aV (TD ha hb),aV (TE hc hd (by constructor<;>omega) (by constructor<;>omega) (by rw [e];exact hs)),e];exact aC rfl
def xn (p q:Pt) (t:Int×Int):Int:=(p.2.1-q.2.1)*t.2+(p.2.2-q.2.2)*t.1
def leads (p q:Pt) (t:Int×Int):Prop:=0<xn p q t\/(xn p q t=0/\(q.2.2<p.2.2\/(p.2.2=q.2.2/\p.1<q.1)))
def M5 (p q:Pt) (t:Int×Int):Int:=if xn p q t<0 then -1 else if 0<xn p q t then 1 else if p.2.2<q.2.2 then -1 else if q.2.2<p.2.2 then 1 else iH q.1 p.1
theorem FW (p q:Pt) (t:Int×Int):0<M5 p q t↔leads p q t:=by
 unfold M5 leads
 by_cases h1:xn p q t<0
 · rw [lm h1];omega
 by_cases h2:0<xn p q t
 · rw [ls h1,lm h2];simp [h2]
 rw [ls h1,ls h2]
 by_cases h3:p.2.2<q.2.2
 · rw [lm h3];omega
 by_cases h4:q.2.2<p.2.2
 · rw [ls h3,lm h4];omega
 rw [ls h3,ls h4]
 rcases cM q.1 p.1 with ⟨h,e⟩|⟨h,e⟩|⟨h,e⟩<;>rw [e]<;>omega
theorem zc (a b:Int):lE [a,b]=agd (if a≠0 then a else b):=by
 unfold lE
 by_cases h1:a=0
 · subst h1
   rw [aV (y:=(0,[0,b],2,1)) (by rfl)]
   by_cases h2:b=0
   · subst h2
     rw [aV (y:=(0,[0,0],2,2)) (by rfl)];exact aC rfl
   refine (aC (r:=b) ?_).trans (by simp)
   have e:uj (0,[0,b],2,1)=(bif b !=0 then agd (.done b) else agd (.next (0,[0,b],2,ai .i64 (1+1)))):=rfl;rw [e,dd h2];rfl
 refine (aC (r:=a) ?_).trans (by simp [h1])
 have e:uj (0,[a,b],pp [a,b].length,0)=(bif a !=0 then agd (.done a) else agd (.next (0,[a,b],pp [a,b].length,ai .i64 (0+1)))):=rfl;rw [e,dd h1];rfl
theorem TF {p q:Pt} {t:Int×Int} (hp:eZ p) (hq:eZ q) (ht:iI t):wO (p.2.1-q.2.1)/\wO (p.2.2-q.2.2)/\ -170141183460469231731687303715884105728<=xn p q t/\xn p q t<170141183460469231731687303715884105728:=by
 obtain ⟨a1,a2,a3,a4,a5,a6⟩:=hp;obtain ⟨b1,b2,b3,b4,b5,b6⟩:=hq;have h1:wO (p.2.1-q.2.1):=by constructor<;>omega
 have h2:wO (p.2.2-q.2.2):=by constructor<;>omega
 refine ⟨h1,h2,?_⟩;have k: ∀{x y:Int},-2097152<=x/\x<=2097152->wO y-> -19342813113834066795298816<=x*y/\x*y<=19342813113834066795298816:=by
  intro x y hx hy;have:((x*y).natAbs:Int)<=2097152*9223372036854775808:=by rw [<- BH];exact abb (by omega) (zb hy) (by omega) (by decide)
  omega
 have k1:=k (x:=p.2.1-q.2.1) (by omega) ht.2;have k2:=k (x:=p.2.2-q.2.2) (by omega) ht.1;unfold xn;omega
theorem tP {p q:Pt} {t:Int×Int} (hp:eZ p) (hq:eZ q) (ht:iI t):lG p q t=agd (M5 p q t):=by
 obtain ⟨g1,g2,g3⟩:=TF hp hq ht;unfold lG;rw [HH g1,HH g2,GV g1 ht.2 g2 ht.1 g3];simp only [ao,zT,iw,zc];rw [show (p.2.1-q.2.1)*t.2+(p.2.2-q.2.2)*t.1=xn p q t from rfl];unfold M5;generalize xn p q t=n at*
 by_cases h1:n<0
 · have e1:(n / 18446744073709551616==0)=agY:=by simp;omega
   have e2:ah2 (n / 18446744073709551616<0)=agN:=by simp;omega
   rw [lm h1];simp [e1,e2]
 by_cases h2:0<n
 · have e1:((n / 18446744073709551616==0)&&(n%18446744073709551616==0))=agY:=by simp;omega
   have e2:ah2 (n / 18446744073709551616<0)=agY:=by simp;omega
   rw [ls h1,lm h2];simp only [e1,e2,Do,kw,lc]
 have:n=0:=by omega
 subst this;rw [ls h1,ls h2];unfold iH
 by_cases h3:p.2.2<q.2.2
 · simp [h3]
 by_cases h4:q.2.2<p.2.2
 · simp [h3,h4]
 simp [h3,h4]
theorem aar {x y:Int} (hx: -85070591730234615865843651857942052864<=x/\x<=85070591730234615865843651857942052864) (hy: -85070591730234615865843651857942052864<=y/\y<=85070591730234615865843651857942052864):
 wC (ah2 (x<0),(x.natAbs:Int) / 18446744073709551616,(x.natAbs:Int)%18446744073709551616) (ah2 (y<0),(y.natAbs:Int) / 18446744073709551616,(y.natAbs:Int)%18446744073709551616)=
  agd (ah2 (x+y<0),((x+y).natAbs:Int) / 18446744073709551616,((x+y).natAbs:Int)%18446744073709551616):=by
 have n1:(x.natAbs:Int)<=85070591730234615865843651857942052864:=by omega
 have n2:(y.natAbs:Int)<=85070591730234615865843651857942052864:=by omega
 unfold wC;rw [IW _ _ (tO _ (by omega) n1) (tO _ (by omega) n2)];have ex:((x.natAbs:Int) / 18446744073709551616)*18446744073709551616+(x.natAbs:Int)%18446744073709551616=(x.natAbs:Int):=by omega
 have ey:((y.natAbs:Int) / 18446744073709551616)*18446744073709551616+(y.natAbs:Int)%18446744073709551616=(y.natAbs:Int):=by omega
 simp only [ex,ey,ao];have same: ∀{X Y Z:Int},0<=X->0<=Y->X<=85070591730234615865843651857942052864->Y<=85070591730234615865843651857942052864->Z=X+Y-> ∀b:Bool,
  (bif ah2 (ai .u64 (X%18446744073709551616+Y%18446744073709551616)<X%18446744073709551616) then agd (b,ai .u64 (ai .u64 (X / 18446744073709551616+Y / 18446744073709551616)+1),ai .u64 (X%18446744073709551616+Y%18446744073709551616))
   else agd (b,ai .u64 (X / 18446744073709551616+Y / 18446744073709551616),ai .u64 (X%18446744073709551616+Y%18446744073709551616)))=agd (b,Z / 18446744073709551616,Z%18446744073709551616):=by
  intro X Y Z h1 h2 h3 h4 h5 b;subst h5;simp only [wu]
  by_cases h:(X%18446744073709551616+Y%18446744073709551616)%18446744073709551616<X%18446744073709551616
  · simp only [h,decide_true,kw,ww,aa2,true_and];constructor<;>omega
  simp only [h,decide_false,lc,ww,aa2,true_and];constructor<;>omega
 have minus: ∀{X Y Z:Int} (b c:Bool),0<=X->0<=Y->X<=85070591730234615865843651857942052864->Y<=X->Z=X-Y->qy (b,X / 18446744073709551616,X%18446744073709551616) (c,Y / 18446744073709551616,Y%18446744073709551616)=agd (agY,Z / 18446744073709551616,Z%18446744073709551616):=by
  intro X Y Z b c h1 h2 h3 h4 h5;subst h5;unfold qy;simp only [wu]
  by_cases h:X%18446744073709551616<Y%18446744073709551616
  · simp only [h,decide_true,kw,ww,aa2,true_and];constructor<;>omega
  simp only [h,decide_false,lc,ww,aa2,true_and];constructor<;>omega
 by_cases h1:x<0<;>by_cases h2:y<0
 · have h3:x+y<0:=by omega
   simp only [h1,h2,h3,decide_true,beq_self_eq_true,kw];exact same (by omega) (by omega) n1 n2 (by omega) agN
 · simp only [h1,h2,decide_true,decide_false,show (agN==agY)=agY from rfl,lc,kw]
   by_cases h3:(y.natAbs:Int)<=(x.natAbs:Int)
   · have e:ah2 (0<=iH (x.natAbs:Int) (y.natAbs:Int))=agN:=by
      rcases cM (x.natAbs:Int) (y.natAbs:Int) with ⟨h,e⟩|⟨h,e⟩|⟨h,e⟩<;>rw [e]<;>first|rfl|omega
     rw [e,minus (Z:=((x+y).natAbs:Int)) _ _ (by omega) (by omega) n1 h3 (by omega)];simp only [kw,ao]
     by_cases h4:x+y=0
     · rw [h4];rfl
     have h5:x+y<0:=by omega
     by_cases h6:0<((x+y).natAbs:Int) / 18446744073709551616
     · simp [h5,h6]
     have h7:0<((x+y).natAbs:Int)%18446744073709551616:=by omega
     simp only [h5,h6,h7,decide_true,decide_false,lc]
   have e:ah2 (0<=iH (x.natAbs:Int) (y.natAbs:Int))=agY:=by
    rcases cM (x.natAbs:Int) (y.natAbs:Int) with ⟨h,e⟩|⟨h,e⟩|⟨h,e⟩<;>rw [e]<;>first|rfl|omega
   rw [e,minus (Z:=((x+y).natAbs:Int)) _ _ (by omega) (by omega) n2 (by omega) (by omega)];have h5: ¬(x+y<0):=by omega
   simp [h5]
 · simp only [h1,h2,decide_true,decide_false,show (agY==agN)=agY from rfl,lc]
   by_cases h3:(y.natAbs:Int)<=(x.natAbs:Int)
   · have e:ah2 (0<=iH (x.natAbs:Int) (y.natAbs:Int))=agN:=by
      rcases cM (x.natAbs:Int) (y.natAbs:Int) with ⟨h,e⟩|⟨h,e⟩|⟨h,e⟩<;>rw [e]<;>first|rfl|omega
     rw [e,minus (Z:=((x+y).natAbs:Int)) _ _ (by omega) (by omega) n1 h3 (by omega)];have h5: ¬(x+y<0):=by omega
     simp [h5]
   have e:ah2 (0<=iH (x.natAbs:Int) (y.natAbs:Int))=agY:=by
    rcases cM (x.natAbs:Int) (y.natAbs:Int) with ⟨h,e⟩|⟨h,e⟩|⟨h,e⟩<;>rw [e]<;>first|rfl|omega
   rw [e,minus (Z:=((x+y).natAbs:Int)) _ _ (by omega) (by omega) n2 (by omega) (by omega)];have h5:x+y<0:=by omega
   simp [h5]
 have h3: ¬(x+y<0):=by omega
 simp only [h1,h2,h3,decide_false,beq_self_eq_true,kw];exact same (by omega) (by omega) n1 n2 (by omega) agY
theorem agW {p q:Pt} {t:Int×Int} (hp:eZ p) (hq:eZ q) (ht:iI t):y7 p q t=agd (iH (xn p q t) 0):=by
 obtain ⟨g1,g2,g3⟩:=TF hp hq ht;unfold y7;rw [HH g1,HH g2,wP g1 ht.2,wP g2 ht.1];simp only [ao];rw [aar (vf g1 ht.2) (vf g2 ht.1)];simp only [ao];rw [show (p.2.1-q.2.1)*t.2+(p.2.2-q.2.2)*t.1=xn p q t from rfl];obtain ⟨a1,a2,a3,a4,a5,a6⟩:=hp;obtain ⟨b1,b2,b3,b4,b5,b6⟩:=hq;have k: ∀{x y:Int},-2097152<=x/\x<=2097152->wO y-> -19342813113834066795298816<=x*y/\x*y<=19342813113834066795298816:=by
  intro x y hx hy;have:((x*y).natAbs:Int)<=2097152*9223372036854775808:=by rw [<- BH];exact abb (by omega) (zb hy) (by omega) (by decide)
  omega
 have k1:=k (x:=p.2.1-q.2.1) (by omega) ht.2;have k2:=k (x:=p.2.2-q.2.2) (by omega) ht.1;have:((xn p q t).natAbs:Int)<=85070591730234615865843651857942052864:=by unfold xn;omega
 rw [IX this];rfl
theorem FX {p q:Pt} {t:Int×Int} (hp:eZ p) (hq:eZ q) (ht:iI t):nD p q t=agd (ah2 (leads p q t)):=by
 unfold nD leads;rw [agW hp hq ht];simp only [ao];rcases cM (xn p q t) 0 with ⟨h,e⟩|⟨h,e⟩|⟨h,e⟩<;>rw [e]
 · have h1: ¬(0<xn p q t):=by omega
   have h2: ¬(xn p q t=0):=by omega
   simp [h1,h2]
 · rw [h]
   by_cases h3:p.2.2=q.2.2
   · simp [h3]
   simp [h3,dd h3]
 simp [h]
theorem pV {p q:Pt} {t:Int×Int} (ht:iI t):oX p q t=agd (if eZ p/\eZ q/\aW t then (if p.1=q.1 then 2 else 0) else 8):=by
 unfold oX;simp only [xl,dm ht,ao]
 by_cases h4:p.1=q.1
 · by_cases h1:eZ p<;>by_cases h2:eZ q<;>by_cases h3:aW t<;>simp [h1,h2,h3,h4]
 have h5:=dB h4
 by_cases h1:eZ p<;>by_cases h2:eZ q<;>by_cases h3:aW t<;>simp [h1,h2,h3,h4,h5]
theorem ON {n d:Int} (hn:wO n) (hd:wO d):wk n d=lJ n d:=by
 unfold wk lJ
 by_cases h0:d=0
 · subst h0;rfl
 have e0:(d==0)=agY:=by simpa using h0
 simp only [e0,lc,ox hn,ox hd,jj hn,jj hd,ao,zS,ph];have hp:0<AC n.natAbs d.natAbs:=abn _ (by omega);have e1:((AC n.natAbs d.natAbs:Int)==0)=agY:=by simp;omega
 simp only [e1,lc];unfold yo o5;simp only [show ah2 ((0:Int)<0)=agY from rfl,lc]
 by_cases h3:n=0
 · subst h3
   have z: ∀k:Int,ai .u64 (UV (((0:Int).natAbs:Nat):Int) k)=0:=fun k=>by rw [show (((0:Int).natAbs:Nat):Int)=0 from rfl,Int.zero_tdiv];rfl
   have z2:ai .i64 0=0:=rfl;have z3:ai .i64 (0-0)=0:=rfl;simp only [z,z2,z3,show ((0:Int) !=0)=agY from rfl,lc,show ah2 ((0:Int)<0)=agY from rfl];cases (!(agY==ah2 (d<0)))<;>simp
 simp only [dd h3]
 cases (!(ah2 (n<0)==ah2 (d<0)))<;>rfl
noncomputable def met (p q:Pt):Int×Int:=((lJ (p.2.1-q.2.1) (q.2.2-p.2.2)).getD ((0,0),0)).1
theorem M6 {n d:Int} (hn: -2097152<=n/\n<=2097152) (hd: -2097152<=d/\d<=2097152) (h0:d≠0): ∃r,lJ n d=agd (r,0)/\aW r/\iI r/\r.1*d=n*r.2:=by
 have hn':wO n:=by constructor<;>omega
 have hd':wO d:=by constructor<;>omega
 unfold lJ;have e0:(d==0)=agY:=by simpa using h0
 have hp:0<AC n.natAbs d.natAbs:=abn _ (by omega);have e1:((AC n.natAbs d.natAbs:Int)==0)=agY:=by simp;omega
 simp only [e0,lc,jj hn',jj hd',ao,ph,e1];have q1:UV (n.natAbs:Int) (AC n.natAbs d.natAbs:Int)=((n.natAbs / AC n.natAbs d.natAbs:Nat):Int):=by rw [acJ]
 have q2:UV (d.natAbs:Int) (AC n.natAbs d.natAbs:Int)=((d.natAbs / AC n.natAbs d.natAbs:Nat):Int):=by rw [acJ]
 rw [q1,q2];have l1:n.natAbs / AC n.natAbs d.natAbs<=2097152:=ag7 (acr _ _) (by omega);have l2:d.natAbs / AC n.natAbs d.natAbs<=2097152:=ag7 (acr _ _) (by omega);have l3:1<=d.natAbs / AC n.natAbs d.natAbs:=Nat.div_pos (Nat.le_of_dvd (by omega) (abi _ _)) hp;have co:AC (d.natAbs / AC n.natAbs d.natAbs) (n.natAbs / AC n.natAbs d.natAbs)=1:=by rw [aak,Nat.gcd_div (ace _ _) (abi _ _)];exact Nat.div_self hp
 have v1:n.natAbs=AC n.natAbs d.natAbs*(n.natAbs / AC n.natAbs d.natAbs):=(abR (ace _ _)).symm;have v2:d.natAbs=AC n.natAbs d.natAbs*(d.natAbs / AC n.natAbs d.natAbs):=(abR (abi _ _)).symm;have val:(n.natAbs:Int)*((d.natAbs / AC n.natAbs d.natAbs:Nat):Int)=(d.natAbs:Int)*((n.natAbs / AC n.natAbs d.natAbs:Nat):Int):=by
  generalize n.natAbs / AC n.natAbs d.natAbs=a at*;generalize d.natAbs / AC n.natAbs d.natAbs=b at*;generalize AC n.natAbs d.natAbs=g at*;rw [v1,v2,acy,acy,adc,adc,ab8 (a:Int) (b:Int)]
 clear v1 v2;generalize n.natAbs / AC n.natAbs d.natAbs=a at*;generalize d.natAbs / AC n.natAbs d.natAbs=b at*;have w1:ai .u64 (a:Int)=a:=by rw [wu];omega
 have w2:ai .u64 (b:Int)=b:=by rw [wu];omega
 have made: ∀s:Bool,o5 s (agY,0,(a:Int)) (agY,0,(b:Int))=agd ((if s=agN then -(a:Int) else a,(b:Int)),0):=by
  intro s;unfold o5;have d1:ah2 (9223372036854775807<(a:Int))=agY:=by simp;omega
  have d2:ah2 (9223372036854775807<(b:Int))=agY:=by simp;omega
  have v1:ai .i64 (a:Int)=a:=by rw [wi];omega
  have v2:ai .i64 (b:Int)=b:=by rw [wi];omega
  have v3:ai .i64 (0- (a:Int))= -(a:Int):=by rw [wi];omega
  simp only [show ah2 ((0:Int)<0)=agY from rfl,lc,d1,d2,v1,v2,v3];cases s<;>simp
 have fin: ∀s:Bool,(if s=agN then -(a:Int) else a)*d=n*b-> ∃r,(agd ((if s=agN then -(a:Int) else a,(b:Int)),(0:Int)):Option ((Int×Int)×Int))=agd (r,0)/\aW r/\iI r/\r.1*d=n*r.2:=by
  intro s hv;refine ⟨_,rfl,?_,?_,hv⟩
  · unfold aW
    dsimp only;refine ⟨by omega,?_,?_⟩
    · cases s
      · simp only [ac7,if_false];omega
      simp only [if_true];omega
    rw [show (if s=agN then -(a:Int) else (a:Int)).natAbs=a by cases s<;>simp,show ((b:Int)).natAbs=b by omega];exact co
  constructor
  · dsimp only;cases s
    · simp only [ac7,if_false];constructor<;>omega
    simp only [if_true];constructor<;>omega
  dsimp only;constructor<;>omega
 simp only [w1,w2,made,ao]
 by_cases h1:(!(ah2 (n<0)==ah2 (d<0)))=agN
 · rw [h1]
   refine fin (n !=0) ?_
   by_cases QW:n=0
   · subst QW
     have a0:(a:Int)=0:=by
      have:((d.natAbs:Nat):Int)*(a:Int)=0:=by rw [<- val];simp
      rcases Int.mul_eq_zero.1 this with h|h
      · omega
      exact h
     simp [a0]
   have e:(n !=0)=agN:=by simpa using QW
   rw [e,lm rfl]
   by_cases TG:n<0
   · have hd0: ¬d<0:=fun k=>by simp [TG,k] at h1
     have x1:(n.natAbs:Int)= -n:=by omega
     have x2:(d.natAbs:Int)=d:=by omega
     rw [x1,x2,aaI] at val;rw [aaI,ab8];omega
   have hd0:d<0:=by
    by_cases k:d<0
    · exact k
    simp [TG,k] at h1
   have x1:(n.natAbs:Int)=n:=by omega
   have x2:(d.natAbs:Int)= -d:=by omega
   rw [x1,x2,aaI] at val;rw [aaI,ab8];omega
 rw [abB] at h1;rw [h1]
 refine fin agY ?_;rw [ls (by simp)]
 by_cases TG:n<0
 · have hd0:d<0:=by
    by_cases k:d<0
    · exact k
    simp [TG,k] at h1
   have x1:(n.natAbs:Int)= -n:=by omega
   have x2:(d.natAbs:Int)= -d:=by omega
   rw [x1,x2,aaI,aaI] at val;rw [ab8];omega
 have hd0: ¬d<0:=fun k=>by simp [TG,k] at h1
 have x1:(n.natAbs:Int)=n:=by omega
 have x2:(d.natAbs:Int)=d:=by omega
 rw [x1,x2] at val;rw [ab8];omega
theorem uw {p q:Pt} (hp:eZ p) (hq:eZ q) (h:p.2.2≠q.2.2):lJ (p.2.1-q.2.1) (q.2.2-p.2.2)=agd (met p q,0)/\aW (met p q)/\iI (met p q)/\(met p q).1*(q.2.2-p.2.2)=(p.2.1-q.2.1)*(met p q).2:=by
 obtain ⟨a1,a2,a3,a4,a5,a6⟩:=hp;obtain ⟨b1,b2,b3,b4,b5,b6⟩:=hq;obtain ⟨r,h1,h2,h3⟩:=M6 (n:=p.2.1-q.2.1) (d:=q.2.2-p.2.2) (by omega) (by omega) (by omega);have:met p q=r:=by unfold met;rw [h1];rfl
 rw [this];exact ⟨h1,h2,h3⟩
theorem CV {p q:Pt} (hp:eZ p) (hq:eZ q):ai .i64 (p.2.1-q.2.1)=p.2.1-q.2.1/\ai .i64 (q.2.2-p.2.2)=q.2.2-p.2.2/\wO (p.2.1-q.2.1)/\wO (q.2.2-p.2.2):=by
 obtain ⟨a1,a2,a3,a4,a5,a6⟩:=hp;obtain ⟨b1,b2,b3,b4,b5,b6⟩:=hq;have h1:wO (p.2.1-q.2.1):=by constructor<;>omega
 have h2:wO (q.2.2-p.2.2):=by constructor<;>omega
 exact ⟨HH h1,HH h2,h1,h2⟩
noncomputable def jN (h l:Pt) (t:Int×Int):(Int×Int)×Bool:=if leads l h t then (t,agN) else if h.2.2<l.2.2 then (met h l,agN) else ((0,0),agY)
theorem agX {p q:Pt} (hp:eZ p) (hq:eZ q) (h:p.2.2≠q.2.2):y8 p q=agd (met p q):=by obtain ⟨w1,w2,_,_⟩:=CV hp hq;unfold y8;rw [w1,w2,(uw hp hq h).1];rfl
theorem M7 {h l:Pt} {t:Int×Int} (hh:eZ h) (hl:eZ l) (ht:iI t):pN h l t=agd (jN h l t):=by
 unfold pN jN;rw [FX hl hh ht];simp only [ao]
 by_cases h1:leads l h t
 · simp [h1]
 simp only [h1,decide_false,lc,if_false]
 by_cases h2:h.2.2<l.2.2
 · simp [h2,agX hh hl (by omega)]
 simp [h2]
theorem KW:aW (0,1):=by unfold aW;decide
theorem DS {h l:Pt} {t:Int×Int} (ht:iI t):
 rB h l t=agd (if eZ h/\eZ l/\aW t/\h.1≠l.1 then ((jN h l t).1,(jN h l t).2,0) else ((0,0),agY,if eZ h/\eZ l/\aW t then 2 else 8)):=by
 unfold rB;rw [pV ht]
 by_cases h1:eZ h/\eZ l/\aW t
 · rw [lm h1]
   by_cases h2:h.1=l.1
   · simp [h1,h2]
   obtain ⟨hh,hl,hr⟩:=h1
   rw [ls h2,lm ⟨hh,hl,hr,h2⟩];simp only [ao,show ((0:Int) !=0)=agY from rfl,lc,tP hl hh ht];unfold jN
   by_cases h3:leads l h t
   · have:ah2 (0<M5 l h t)=agN:=by simpa using (FW l h t).2 h3
     rw [this];simp [h3]
   have:ah2 (0<M5 l h t)=agY:=decide_eq_false fun k=>h3 ((FW l h t).1 k)
   rw [this,ls h3];simp only [lc]
   by_cases h4:h.2.2<l.2.2
   · have e:ah2 (l.2.2<=h.2.2)=agY:=by simp;omega
     rw [e,lm h4];unfold eh;obtain ⟨w1,w2,i1,i2⟩:=CV hh hl;have e2:(h.2.2==l.2.2)=agY:=by simp;omega
     rw [pV (by constructor<;>constructor<;>decide),lm ⟨hh,hl,KW⟩,ls h2];simp only [ao,show ((0:Int) !=0)=agY from rfl,lc,e2,w1,w2,ON i1 i2,(uw hh hl (by omega)).1];rfl
   have e:ah2 (l.2.2<=h.2.2)=agN:=by simp;omega
   rw [e,ls h4];rfl
 rw [ls h1,ls (fun h=>h1 ⟨h.1,h.2.1,h.2.2.1⟩),ls h1];rfl
theorem BI {h l:Pt} {t:Int×Int} (hh:eZ h) (hl:eZ l) (ht:iI t) (hr:aW t) (h2:(jN h l t).2=agN):aW (jN h l t).1/\iI (jN h l t).1:=by
 unfold jN at*
 by_cases h3:leads l h t
 · rw [lm h3];exact ⟨hr,ht⟩
 rw [ls h3] at h2 ⊢
 by_cases h4:h.2.2<l.2.2
 · rw [lm h4];have:=(uw hh hl (by omega)).2;exact ⟨this.1,this.2.1⟩
 rw [ls h4] at h2;cases h2
theorem M8: ∀(n:Nat) (l:List Nat),l.Nodup->(∀x∈l,x<n)->ag8 l<=n
 |0,l,_,h=>by
  cases l with
  |nil=>simp
  |cons a l=>exact absurd (h a (by simp)) (by omega)
 |n+1,l,hd,h=>by
  have h1:=M8 n (l.filter (fun x=>x≠n)) (hd.filter _) (by
   intro x hx;rw [acF] at hx;have:=h x hx.1;have h2:x≠n:=by simpa using hx.2
   omega)
  have h2:(ag8 l)<=(l.filter (fun x=>x≠n)).length+1:=by
   clear h1 h
   induction l with
   |nil=>simp
   |cons a l ih=>
    rw [ab2] at hd;have:=ih hd.2
    by_cases ha:a=n
    · subst ha
      have e:l.filter (fun x=>decide (x≠a))=l:=by rw [List.filter_eq_self];intro x hx;simp only [ne_eq,decide_eq_true_eq];rintro rfl;exact hd.1 hx
      rw [List.filter_cons_of_neg (by simp),e];simp
    rw [List.filter_cons_of_pos (by simpa using ha)]
    simp only [ack];omega
  omega
theorem Dt {n:Nat} {l:List Nat} (hd:l.Nodup) (h: ∀x∈l,x<n) (hn:n<=ag8 l): ∀x,x<n->x∈l:=by
 intro x hx;refine IR fun hc=>?_
 have:=M8 n (x::l) (by rw [ab2];exact ⟨hc,hd⟩) (by
  intro y hy;rcases ag0.1 hy with rfl|hy
  · exact hx
  exact h y hy)
 simp only [ack] at this;omega
def fa (l:List Pt):Prop:= ∀i,i+1<ag8 l->(l[i]!).1<(l[i+1]!).1
def bo (l:List Pt):Prop:=ag8 l<=64/\(∀p∈l,eZ p)/\fa l
noncomputable def sJ (l:List Pt):Int:=if 64<(ag8 l) then 4 else if¬(∀p∈l,eZ p) then 8 else if¬fa l then 32 else 0
theorem lN {l:List Pt}:sJ l=0↔bo l:=by
 unfold sJ bo
 by_cases h1:64<ag8 l
 · rw [lm h1];simp;omega
 rw [ls h1]
 by_cases h2: ∀p∈l,eZ p
 · rw [ls (ut.2 h2)]
   by_cases h3:fa l
   · rw [ls (ut.2 h3)]
     exact ⟨fun _=>⟨by omega,h2,h3⟩,fun _=>rfl⟩
   rw [lm h3]
   exact ⟨fun h=>(by cases h),fun h=>absurd h.2.2 h3⟩
 rw [lm h2]
 constructor
 · intro h;cases h
 intro h;exact absurd h.2.1 h2
theorem aT {n:Nat} (h:n<1000000000):ai .i64 ((n:Int)+1)=((n+1:Nat):Int):=by rw [wi];omega
theorem wR {n:Nat} (h:n<1000000000) (h1:1<=n):ai .i64 ((n:Int) -1)=((n-1:Nat):Int):=by rw [wi];omega
theorem ay (n:Nat):pp n=(n:Int):=rfl
theorem KX (l:List Pt) (h:(ag8 l)<=64):aB iu (1,l)=agd (.done (if fa l then 0 else 32)):=by
 by_cases hl:(ag8 l)<=1
 · have:fa l:=fun i hi=>by omega
   rw [lm this];refine aC ?_;unfold iu;rw [ay];have:ah2 ((1:Int)<((ag8 l):Int))=agY:=by simp;omega
   simp [this]
 have key:=cN (body:=iu) (fun i=>(((i+1:Nat):Int),l)) (ag8 l-1) (fun i=>(l[i+1]!).1<=(l[i]!).1) (r:= .done 32) (e:= .done 0) (by
  intro i hi;have e1:ah2 (((i+1:Nat):Int)<((ag8 l):Int))=agN:=by simp;omega
  have e2:ai .i64 (((i+1:Nat):Int) -1)=(i:Int):=by rw [wi];omega
  have hb:iu (((i+1:Nat):Int),l)=bif ah2 ((l[i+1]!).1<=(l[i]!).1) then agd (.done (.done 32)) else agd (.next (((i+1+1:Nat):Int),l)):=by unfold iu;simp only [ay,e1,kw,e2,aq l i (by omega),aq l (i+1) (by omega),ao,aT (show i+1<1000000000 by omega)]
  constructor
  · intro hc;rw [hb,decide_eq_true hc];rfl
  · intro hc;rw [hb,decide_eq_false hc];rfl) (by
  unfold iu;have:ah2 (((ag8 l-1+1:Nat):Int)<pp (ag8 l))=agY:=by rw [ay];simp;omega
  simp only [this,lc])
 by_cases hs:fa l
 · rw [lm hs]
   refine key.2 fun i hi=>?_
   have:=hs i (by omega);omega
 rw [ls hs]
 refine key.1 ?_;unfold fa at hs;simp only [EQ] at hs;obtain ⟨i,hi,h2⟩:=hs;exact ⟨i,by omega,by omega⟩
theorem FY (f:Field):tF f=agd (sJ f.am):=by
 unfold tF sJ;rw [ay]
 by_cases h:64<ag8 f.am
 · have:ah2 ((64:Int)<((ag8 f.am):Int))=agN:=by simp;omega
   rw [this,lm h];rfl
 have:ah2 ((64:Int)<((ag8 f.am):Int))=agY:=by simp;omega
 rw [this,ls h];simp only [lc];generalize f.am=l at*;have key:=cN (body:=lI) (fun i=>((i:Int),l)) (ag8 l) (fun i=> ¬eZ l[i]!) (r:=8) (e:=if fa l then 0 else 32) (by
  intro i hi;have e1:ah2 ((i:Int)<((ag8 l):Int))=agN:=by simp;omega
  have hb:lI ((i:Int),l)=bif (if eZ l[i]! then (0:Int) else 8) !=0 then agd (.done 8) else agd (.next (((i+1:Nat):Int),l)):=by unfold lI;simp only [ay,e1,kw,aq l i (by omega),ao,FV,aT (show i<1000000000 by omega)]
  constructor
  · intro hc;rw [hb,ls hc];rfl
  · intro hc;rw [hb,lm (ut.1 hc)];rfl) (by
  unfold lI;have:ah2 (((ag8 l):Int)<pp (ag8 l))=agY:=by rw [ay];simp
  simp only [this,lc];exact KX l (by omega))
 by_cases hp: ∀p∈l,eZ p
 · rw [ls (ut.2 hp)]
   refine (key.2 fun i hi=>?_).trans ?_
   · exact ut.2 (hp _ (aQ hi))
   by_cases hs:fa l
   · simp [hs]
   simp [hs]
 rw [lm hp]
 refine key.1 ?_;obtain ⟨p,hp⟩:=EQ.1 hp;obtain ⟨hm,h2⟩:=aaH.1 hp;obtain ⟨i,hi,rfl⟩:=aO.1 hm;exact ⟨i,hi,h2⟩
theorem KY (l:List Pt) (h:(ag8 l)<=64):aB iq (l,((ag8 l):Int),0,l)=agd (.done (if fa l then 0 else 32)):=by
 have key:=cN (body:=iq) (fun i=>(l,((ag8 l):Int),(i:Int),l)) (ag8 l) (fun i=>0<i/\(l[i]!).1<=(l[i-1]!).1) (r:= .done 32) (e:= .done 0) (by
  intro i hi;have e1:ah2 ((i:Int)<((ag8 l):Int))=agN:=by simp;omega
  by_cases h0:0<i
  · have e3:ah2 ((0:Int)<(i:Int))=agN:=by simp;omega
    have hb:iq (l,((ag8 l):Int),(i:Int),l)=bif ah2 ((l[i]!).1<=(l[i-1]!).1) then agd (.done (.done 32)) else agd (.next (l,((ag8 l):Int),((i+1:Nat):Int),l)):=by unfold iq;simp only [e1,e3,kw,aq l i (by omega),wR (show i<1000000000 by omega) h0,aq l (i-1) (by omega),ao,aT (show i<1000000000 by omega)]
    constructor
    · intro hc;rw [hb,decide_eq_true hc.2];rfl
    intro hc
    have: ¬(l[i]!).1<=(l[i-1]!).1:=fun h=>hc ⟨h0,h⟩
    rw [hb,decide_eq_false this];rfl
  · have e3:ah2 ((0:Int)<(i:Int))=agY:=by simp;omega
    constructor
    · intro hc;exact absurd hc.1 h0
    intro _
    unfold iq;simp only [e1,e3,kw,lc,aq l i (by omega),ao,aT (show i<1000000000 by omega)]) (by
  unfold iq;have:ah2 (((ag8 l):Int)<((ag8 l):Int))=agY:=by simp
  simp only [this,lc])
 by_cases hs:fa l
 · rw [lm hs]
   refine key.2 fun i hi=>?_
   rintro ⟨h0,h1⟩;have:=hs (i-1) (by omega);rw [show i-1+1=i by omega] at this;omega
 rw [ls hs]
 refine key.1 ?_;unfold fa at hs;simp only [EQ] at hs;obtain ⟨i,hi,h2⟩:=hs;exact ⟨i+1,by omega,by omega,by rw [show i+1-1=i by omega];omega⟩
theorem lO (f:Field):fD f=agd (sJ f.am):=by
 unfold fD sJ;rw [ay]
 by_cases h:64<ag8 f.am
 · have:ah2 ((64:Int)<((ag8 f.am):Int))=agN:=by simp;omega
   rw [this,lm h];rfl
 have:ah2 ((64:Int)<((ag8 f.am):Int))=agY:=by simp;omega
 rw [this,ls h];simp only [lc];generalize f.am=l at*;have key:=cN (body:=lF) (fun i=>(l,((ag8 l):Int),(i:Int),l)) (ag8 l) (fun i=> ¬eZ l[i]!) (r:=8) (e:=if fa l then 0 else 32) (by
  intro i hi;have e1:ah2 ((i:Int)<((ag8 l):Int))=agN:=by simp;omega
  have hb:lF (l,((ag8 l):Int),(i:Int),l)=bif (if eZ l[i]! then (0:Int) else 8) !=0 then agd (.done (if eZ l[i]! then (0:Int) else 8)) else agd (.next (l,((ag8 l):Int),((i+1:Nat):Int),l)):=by unfold lF;simp only [e1,kw,aq l i (by omega),ao,xl,aT (show i<1000000000 by omega)]
  constructor
  · intro hc;rw [hb,ls hc];rfl
  · intro hc;rw [hb,lm (ut.1 hc)];rfl) (by
  unfold lF;have:ah2 (((ag8 l):Int)<((ag8 l):Int))=agY:=by simp
  simp only [this,lc];exact KY l (by omega))
 by_cases hp: ∀p∈l,eZ p
 · rw [ls (ut.2 hp)]
   refine (key.2 fun i hi=>?_).trans ?_
   · exact ut.2 (hp _ (aQ hi))
   by_cases hs:fa l
   · simp [hs]
   simp [hs]
 rw [lm hp]
 refine key.1 ?_;obtain ⟨p,hp⟩:=EQ.1 hp;obtain ⟨hm,h2⟩:=aaH.1 hp;obtain ⟨i,hi,rfl⟩:=aO.1 hm;exact ⟨i,hi,h2⟩
theorem pj {l:List Pt} (h:fa l) {i j:Nat} (lS:i<j) (hj:j<ag8 l):(l[i]!).1<(l[j]!).1:=by
 induction j with
 |zero=>omega
 |succ j ih=>
  have h1:=h j hj
  by_cases he:i=j
  · subst he;exact h1
  have:=ih (by omega) (by omega);omega
theorem sK {l:List Pt} (h:fa l) {i j:Nat} (hi:i<ag8 l) (hj:j<ag8 l) (he:(l[i]!).1=(l[j]!).1):i=j:=by
 rcases Nat.lt_trichotomy i j with h1|h1|h1
 · have:=pj h h1 hj;omega
 · exact h1
 have:=pj h h1 hi;omega
theorem Du (l:List Pt) (id:Int) (hl:(ag8 l)<=1000000):(∀k,k<ag8 l->(l[k]!).1=id->(∀j,j<k->(l[j]!).1≠id)->iv ⟨l⟩ id=agd (k:Int))/\((∀k,k<ag8 l->(l[k]!).1≠id)->iv ⟨l⟩ id=agd (-1)):=by
 unfold iv;refine lL (body:=qw) (fun i=>(id,(i:Int),l)) (ag8 l) (fun i=>(l[i]!).1=id) (fun i=>(i:Int)) (fun i hi=>?_) ?_
 · have e1:ah2 ((i:Int)<((ag8 l):Int))=agN:=by simp;omega
   have hb:qw (id,(i:Int),l)=bif (l[i]!).1==id then agd (.done (i:Int)) else agd (.next (id,((i+1:Nat):Int),l)):=by unfold qw;simp only [ay,e1,kw,aq l i hi,ao,aT (show i<1000000000 by omega)]
   constructor
   · intro hc;rw [hb,dL hc];rfl
   intro hc;rw [hb,dB hc];rfl
 unfold qw
 have:ah2 (((ag8 l):Int)<((ag8 l):Int))=agY:=by simp
 simp only [ay,this,lc]
theorem HI {l:List Pt} (hs:fa l) (hl:(ag8 l)<=1000000) {k:Nat} (hk:k<ag8 l) {id:Int} (he:(l[k]!).1=id):iv ⟨l⟩ id=agd (k:Int):=by
 refine (Du l id hl).1 k hk he fun j hj hc=>?_
 have:=pj hs hj hk;omega
theorem aas {l:List Pt} (hl:(ag8 l)<=1000000) {id:Int} (h: ∀k,k<ag8 l->(l[k]!).1≠id):iv ⟨l⟩ id=agd (-1):=(Du l id hl).2 h
theorem KZ (f:Nat->Int) (id:Int): ∀(n:Nat),(∀i j,i<j->j<n->f i<f j)-> ∃m,m<=n/\(∀i,i<m->f i<id)/\(∀i,m<=i->i<n->id<=f i)
 |0,_=>⟨0,abF _,fun i h=>by omega,fun i _ h=>by omega⟩
 |n+1,h=>by
  obtain ⟨m,h1,h2,h3⟩:=KZ f id n fun i j a b=>h i j a (by omega)
  by_cases hm:m=n
  · by_cases hf:f n<id
    · refine ⟨n+1,abF _,fun i hi=>?_,fun i a b=>by omega⟩
      by_cases he:i=n
      · subst he;exact hf
      exact h2 i (by omega)
    refine ⟨n,by omega,fun i hi=>h2 i (by omega),fun i a b=>?_⟩
    have:i=n:=by omega
    subst this;omega
  refine ⟨m,by omega,h2,fun i a b=>?_⟩
  by_cases he:i=n
  · subst he
    have:=h m i (by omega) (by omega);have:=h3 m (abF _) (by omega);omega
  exact h3 i a (by omega)
theorem ed {α:Type} [Inhabited α] {l:List α}:l.Nodup↔ ∀i j,i<j->j<ag8 l->l[i]!≠l[j]!:=by
 unfold List.Nodup;rw [List.pairwise_iff_getElem];constructor
 · intro h i j lS hj
   rw [getElem!_pos l i (by omega),getElem!_pos l j hj];exact h i j (by omega) hj lS
 intro h i j hi hj lS
 have:=h i j lS hj
 rwa [getElem!_pos l i hi,getElem!_pos l j hj] at this
theorem bY {α:Type} [Inhabited α] {l:List α} {k:Nat} {x:α}:x∈l.take k↔ ∃i,i<k/\i<ag8 l/\l[i]! =x:=by
 rw [aO];constructor
 · rintro ⟨i,hi,rfl⟩
   rw [aa5] at hi;exact ⟨i,by omega,by omega,(kM (by omega)).symm⟩
 rintro ⟨i,h1,h2,rfl⟩
 exact ⟨i,by rw [aa5];omega,kM h1⟩
theorem dp {α:Type} [Inhabited α] {l:List α} {k:Nat} (h:k<ag8 l):l.take (k+1)=l.take k++[l[k]!]:=by rw [List.take_add_one,abm h,getElem!_pos l k h];rfl
def marks (l:List Bool):List Int->List Bool
 | []=>l
 |x::r=>marks (cj l x agN) r
theorem mf: ∀(r:List Int) (l:List Bool),(marks l r).length=ag8 l
 | [],_=>rfl
 |x::r,l=>by rw [marks,mf r,x7]
theorem AP: ∀(r:List Int) (l:List Bool) (x:Int),marks l (r++[x])=cj (marks l r) x agN
 | [],_,_=>rfl
 |y::r,l,x=>by show marks (cj l y agN) (r++[x])=_;rw [AP r];rfl
theorem nE : ∀ (r : List Int) (l : List Bool) (i : Nat), (∀ x ∈ r, 0 <= x) -> i < (ag8 l) -> (marks l r)[i]! = (l[i]! || ah2 ((i : Int) ∈ r))
  | [], l, i, _, _ => by simp [marks]
  | x :: r, l, i, h, hi => by
    rw [marks, nE r _ i (fun y hy => h y (by simp [hy])) (by rw [x7]; exact hi)]
    obtain ⟨k, rfl⟩ := aa9 (h x (by simp))
    rw [qC, bg]
    by_cases e : i = k
    · subst e; rw [lm ⟨rfl, hi⟩]; simp
    rw [ls (fun h => e h.1)]
    have : ((i : Int) ∈ (k : Int) :: r) ↔ (i : Int) ∈ r := by
      rw [ag0]
      constructor
      · rintro (h | h)
        · omega
        exact h
      exact .inr
    simp only [this]
theorem FZ (l:List Bool) (h:(ag8 l)<=1000000):dN l agY=agd (ah2 (agY∈l)):=by
 unfold dN oe;have key:=lL (body:=fW) (fun i=>(l,agY,((ag8 l):Int),(i:Int))) (ag8 l) (fun i=>l[i]! =agY) (fun i=>(i:Int)) (e:= -1) (fun i hi=>by
  have e1:ah2 ((i:Int)<((ag8 l):Int))=agN:=by simp;omega
  have hb:fW (l,agY,((ag8 l):Int),(i:Int))=bif agY==l[i]! then agd (.done (i:Int)) else agd (.next (l,agY,((ag8 l):Int),((i+1:Nat):Int))):=by unfold fW;simp only [e1,kw,aq l i hi,ao,aT (show i<1000000000 by omega)]
  constructor
  · intro hc;rw [hb,hc];rfl
  · intro hc
    have:l[i]! =agN:=by simpa using hc
    rw [hb,this];rfl) (by
  unfold fW;have:ah2 (((ag8 l):Int)<((ag8 l):Int))=agY:=by simp
  simp only [this,lc])
 rw [ay]
 by_cases hx:agY∈l
 · obtain ⟨i,hi,he⟩:=aO.1 hx
   obtain ⟨k,h1,h2,h3⟩:=least (c:=fun i=>l[i]! =agY) ⟨i,hi,he⟩;have:=key.1 k h1 h2 h3;rw [show ((0:Nat):Int)=0 from rfl] at this;rw [this];have e:ah2 ((0:Int)<=(k:Int))=agN:=by simp
   simp [hx]
 have:=key.2 fun i hi he=>hx (aO.2 ⟨i,hi,he⟩)
 rw [show ((0:Nat):Int)=0 from rfl] at this;rw [this];simp [hx]
structure ek (s:aS):Prop where
 n1:1<=ag8 s.ar
 n2:(ag8 s.ar)<=200
 ul:(ag8 s.be)=ag8 s.ar
 fr: ∀x∈s.bi,0<=x/\x<ag8 s.ar
 fd:s.bi.Nodup
 uf: ∀i,i<ag8 s.ar->(s.be[i]! =agN↔(i:Int)∉s.bi)
 us: ∀i,i<ag8 s.ar->0<=s.ar[i]!/\s.ar[i]!<=1000000/\(s.be[i]! =agN->1<=s.ar[i]!)
theorem M9 (ar:List Int) (be:List Bool) (fr:List Int) (h1:(ag8 ar)<=200) (h2:(ag8 be)=ag8 ar):
 aB fQ (ar,((ag8 ar):Int),0,ar,be,fr)=agd (.done (if∀i,i<ag8 ar->0<=ar[i]!/\ar[i]!<=1000000/\(be[i]! =agN->1<=ar[i]!) then 0 else 8)):=by
 have key:=cN (body:=fQ) (fun i=>(ar,((ag8 ar):Int),(i:Int),ar,be,fr)) (ag8 ar) (fun i=> ¬(0<=ar[i]!/\ar[i]!<=1000000/\(be[i]! =agN->1<=ar[i]!))) (r:= .done 8) (e:= .done 0) (fun i hi=>by
  have e1:ah2 ((i:Int)<((ag8 ar):Int))=agN:=by simp;omega
  have hb:fQ (ar,((ag8 ar):Int),(i:Int),ar,be,fr)=bif ah2 (ar[i]!<0) then agd (.done (.done 8)) else bif ah2 (1000000<ar[i]!) then agd (.done (.done 8)) else bif ar[i]! ==0 then (bif be[i]! then agd (.done (.done 8)) else agd (.next (ar,((ag8 ar):Int),((i+1:Nat):Int),ar,be,fr))) else agd (.next (ar,((ag8 ar):Int),((i+1:Nat):Int),ar,be,fr)):=by unfold fQ;simp only [e1,kw,aq ar i hi,aq be i (by omega),ao,aT (show i<1000000000 by omega)]
  rw [hb];generalize ar[i]! =u at*
  by_cases a1:u<0
  · simp [a1];omega
  · by_cases a2:1000000<u
    · simp [a1,a2];omega
    by_cases a3:u=0
    · subst a3
      cases be[i]!<;>simp
    have a4:1<=u:=by omega
    have a5:0<=u:=by omega
    have a6:u<=1000000:=by omega
    simp [a1,a2,dB a3,a4,a5,a6]) (by
  unfold fQ;have:ah2 (((ag8 ar):Int)<((ag8 ar):Int))=agY:=by simp
  simp only [this,lc])
 by_cases hc: ∀i,i<ag8 ar->0<=ar[i]!/\ar[i]!<=1000000/\(be[i]! =agN->1<=ar[i]!)
 · rw [lm hc]
   exact key.2 fun i hi=>ut.2 (hc i hi)
 rw [ls hc]
 simp only [EQ] at hc;obtain ⟨i,hi,hx⟩:=hc;exact key.1 ⟨i,hi,by simpa only [EQ] using hx⟩
theorem uy (s:aS) (hf:(ag8 s.bi)<=1000000):oZ s=agd (if ek s then 0 else 8):=by
 obtain ⟨ar,be,fr⟩:=s;dsimp only at hf;unfold oZ;simp only [ay]
 by_cases a1:(ag8 ar)<1
 · have e:ah2 (((ag8 ar):Int)<1)=agN:=by simp;omega
   rw [e,ls (fun h=>by have:=h.n1;dsimp only at this;omega)];rfl
 have e1:ah2 (((ag8 ar):Int)<1)=agY:=by simp;omega
 by_cases a2:200<ag8 ar
 · have e:ah2 (200<((ag8 ar):Int))=agN:=by simp;omega
   rw [e1,e,ls (fun h=>by have:=h.n2;dsimp only at this;omega)];rfl
 have e2:ah2 (200<((ag8 ar):Int))=agY:=by simp;omega
 by_cases a3:(ag8 be)=ag8 ar
 case neg=>
  have e:(((ag8 be):Int) !=((ag8 ar):Int))=agN:=by simp;omega
  rw [e1,e2,e,ls (fun h=>a3 h.ul)];rfl
 have e3:(((ag8 be):Int) !=((ag8 ar):Int))=agY:=by simp;omega
 simp only [e1,e2,e3,lc,bj (show (ag8 be)<=1048576 by omega),ao];have F0:=M9 ar be fr (by omega) a3;have key:=cN (body:=pK be) (fun k=>(fr,((ag8 fr):Int),(k:Int),ar,be,fr,((ag8 ar):Int),marks be (fr.take k))) (ag8 fr)
  (fun k=>fr[k]!<0\/((ag8 ar):Int)<=fr[k]!\/(marks be (fr.take k))[(fr[k]!).toNat]! =agN) (r:=8)
  (e:=if agY∈marks be fr then 8 else if∀i,i<ag8 ar->0<=ar[i]!/\ar[i]!<=1000000/\(be[i]! =agN->1<=ar[i]!) then 0 else 8) (fun k hk=>by
   have f1:ah2 ((k:Int)<((ag8 fr):Int))=agN:=by simp;omega
   have f2:((marks be (fr.take k)).length==ag8 be)=agN:=by rw [mf];simp
   have f3:ah2 ((0:Int)<=(k:Int))=agN:=by simp
   have f4: ∀x:Int,((cj (marks be (fr.take k)) x agN).length==(marks be (fr.take k)).length)=agN:=by intro x;rw [x7];simp
   have f5:marks be (fr.take (k+1))=cj (marks be (fr.take k)) fr[k]! agN:=by rw [dp hk,AP]
   unfold pK;simp only [f1,f2,f3,f4,kw,beq_self_eq_true,aq fr k hk,ao,aT (show k<1000000000 by omega),f5];clear f5;generalize fr[k]! =x
   by_cases b1:x<0
   · simp [b1]
   · by_cases b2:((ag8 ar):Int)<=x
     · simp [b1,b2]
     simp only [b1,b2,decide_false,lc,false_or]
     rw [de (l:=marks be (fr.take k)) (i:=x) (by omega) (by rw [mf];omega)];simp only [ao];cases (marks be (fr.take k))[x.toNat]!<;>simp) (by
   have f1:ah2 (((ag8 fr):Int)<((ag8 fr):Int))=agY:=by simp
   unfold pK;simp only [f1,lc,acl];rw [FZ _ (by rw [mf];omega)];have f2:((marks be fr).length==ag8 be)=agN:=by rw [mf];simp
   simp only [f2,kw,ao,ay,F0]
   by_cases hx:agY∈marks be fr
   · simp [hx]
   simp [hx])
 have h0:marks be (fr.take 0)=be:=rfl;rw [show ((0:Nat):Int)=0 from rfl,h0] at key
 by_cases bad: ∃k,k<ag8 fr/\(fr[k]!<0\/((ag8 ar):Int)<=fr[k]!\/(marks be (fr.take k))[(fr[k]!).toNat]! =agN)
 · rw [key.1 bad,ls]
   intro ok;obtain ⟨k,hk,hb⟩:=bad;have hr:=ok.fr fr[k]! (aQ hk);dsimp only at hr;rcases hb with hb|hb|hb
   · omega
   · omega
   rw [nE _ _ _ (fun x hx=>(ok.fr x (aa4 hx)).1) (by omega)] at hb
   have hi:((fr[k]!).toNat:Int)=fr[k]!:=by omega
   rw [hi,Bool.or_eq_true] at hb;rcases hb with hb|hb
   · have:=(ok.uf (fr[k]!).toNat (by show _<ag8 ar;omega)).1 hb
     rw [hi] at this;exact this (aQ hk)
   have hm:fr[k]!∈fr.take k:=by simpa using hb
   obtain ⟨j,h1,h2,h3⟩:=bY.1 hm;exact ed.1 ok.fd j k h1 hk h3
 have M': ∀k,k<ag8 fr->0<=fr[k]!/\fr[k]!<ag8 ar/\(marks be (fr.take k))[(fr[k]!).toNat]! =agY:=by
  intro k hk;refine ⟨?_,?_,?_⟩
  · exact Int.not_lt.1 fun h=>bad ⟨k,hk,.inl h⟩
  · exact Int.not_le.1 fun h=>bad ⟨k,hk,.inr (.inl h)⟩
  exact abB _▸fun h=>bad ⟨k,hk,.inr (.inr h)⟩
 rw [key.2 fun k hk hb=>bad ⟨k,hk,hb⟩];have rng: ∀x∈fr,0<=x/\x<((ag8 ar):Int):=by intro x hx;obtain ⟨k,hk,rfl⟩:=aO.1 hx;exact ⟨(M' k hk).1,(M' k hk).2.1⟩
 have g2: ∀k,k<ag8 fr->be[(fr[k]!).toNat]! =agY/\fr[k]!∉fr.take k:=by intro k hk;obtain ⟨c1,c2,c3⟩:=M' k hk;rw [nE _ _ _ (fun x hx=>(rng x (aa4 hx)).1) (by omega),show ((fr[k]!).toNat:Int)=fr[k]! by omega,abO] at c3;exact ⟨c3.1,by simpa using c3.2⟩
 have nd:fr.Nodup:=ed.2 fun i j lS hj he=>(g2 j hj).2 (bY.2 ⟨i,lS,by omega,he⟩)
 by_cases hx:agY∈marks be fr
 · rw [lm hx,ls]
   intro ok;obtain ⟨i,hi,he⟩:=aO.1 hx;rw [mf] at hi;rw [nE _ _ _ (fun x hx=>(rng x hx).1) hi,abO] at he;have h3:(i:Int)∉fr:=by simpa using he.2
   have:=(ok.uf i (by show _<ag8 ar;omega)).2 h3;rw [show be[i]! =agY from he.1] at this;cases this
 rw [ls hx]
 by_cases hu: ∀i,i<ag8 ar->0<=ar[i]!/\ar[i]!<=1000000/\(be[i]! =agN->1<=ar[i]!)
 · rw [lm hu,lm]
   refine ⟨by show 1<=ag8 ar;omega,by show (ag8 ar)<=200;omega,a3,rng,nd,fun i hi=>?_,hu⟩;dsimp only at hi ⊢;constructor
   · intro h1 h2
     obtain ⟨k,hk,he⟩:=aO.1 h2;have:=(g2 k hk).1;rw [he,show ((i:Int)).toNat=i by omega,h1] at this;cases this
   intro h1
   refine IR fun h2=>hx ?_
   refine aO.2 ⟨i,by rw [mf];omega,?_⟩;rw [nE _ _ _ (fun x hx=>(rng x hx).1) (by omega)];have:be[i]! =agY:=by simpa using h2
   rw [this];simpa using h1
 rw [ls hu,ls]
 intro ok;exact hu ok.us
theorem ek.fl {s:aS} (ok:ek s):(ag8 s.bi)<=(ag8 s.ar):=by
 have h:=M8 (ag8 s.ar) (s.bi.map ag2) (by
  rw [ed];intro i j lS hj he;rw [ab7] at hj;have e: ∀k,k<ag8 s.bi->(s.bi.map ag2)[k]! =(s.bi[k]!).toNat:=by intro k hk;rw [getElem!_pos _ k (by simpa using hk),List.getElem_map,getElem!_pos s.bi k hk]
  rw [e i (by omega),e j hj] at he;have h1:=(ok.fr _ (aQ (show i<(ag8 s.bi) by omega))).1;have h2:=(ok.fr _ (aQ hj)).1;exact ed.1 ok.fd i j lS hj (by omega)) (by
  intro x hx;obtain ⟨y,hy,rfl⟩:=aa3.1 hx;have:=ok.fr y hy;omega)
 rwa [ab7] at h
def tQ (s:aS) (h:Int×Int):Prop:=0<=h.1/\h.1<ag8 s.ar/\s.be[h.1.toNat]! =agN/\s.ar[h.1.toNat]! =h.2
def fb (s:aS) (h:Int×Int):aS:=⟨s.ar,s.be.set h.1.toNat agY,s.bi++[h.1]⟩
def cH (s:aS):Nat:=(s.bi[ag8 s.bi-1]!).toNat
def xo (s:aS):Prop:=0<ag8 s.bi/\s.ar[cH s]!<1000000
def fY (s:aS):aS:=⟨s.ar.set (cH s) (s.ar[cH s]!+1),s.be.set (cH s) agN,s.bi.take (ag8 s.bi-1)⟩
def j9 (s:aS):Int×Int:=((cH s:Int),s.ar[cH s]!+1)
theorem Dv {s:aS} (ok:ek s) (h:Int×Int):yq s h=agd (ah2 (tQ s h),0):=by
 have hl:=ok.fl;have hn:=ok.n2;have hu:=ok.ul;unfold yq tQ;rw [uy s (by omega),lm ok];simp only [ao,show ((0:Int) !=0)=agY from rfl,lc,ay]
 by_cases a1:0<=h.1
 · by_cases a2:h.1<ag8 s.ar
   · have e2:ah2 (h.1<((ag8 s.be):Int))=agN:=by simp;omega
     simp only [a1,a2,e2,decide_true,kw,de (l:=s.be) a1 (by omega),de (l:=s.ar) a1 a2,ao,true_and];generalize s.ar[h.1.toNat]! =u;cases s.be[h.1.toNat]!<;>simp [OL]
   have e2:ah2 (h.1<((ag8 s.be):Int))=agY:=by simp;omega
   simp [a1,a2,e2]
 simp [a1]
theorem IY {s:aS} (ok:ek s) {h:Int×Int} (lv:tQ s h):y5 s h=agd (fb s h,0):=by
 have hl:=ok.fl;have hn:=ok.n2;have hu:=ok.ul;unfold y5;rw [Dv ok,decide_eq_true lv];unfold qN;obtain ⟨l1,l2,l3,l4⟩:=lv;have e1:cj s.be h.1 agY=s.be.set h.1.toNat agY:=rfl;simp only [ao,show ((0:Int) !=0)=agY from rfl,lc,If,bj (show (ag8 s.ar)<=1048576 by omega),bj (show (ag8 s.be)<=1048576 by omega),bj (show (ag8 s.bi)<=1048576 by omega),
  cu (show (ag8 s.bi)+[h.1].length<=1048576 by simp;omega),de (l:=s.be) l1 (by omega),e1,fb]
theorem uz {s:aS} (ok:ek s):sF s=agd s:=by have hl:=ok.fl;have hn:=ok.n2;have hu:=ok.ul;unfold sF;simp only [ao,bj (show (ag8 s.ar)<=1048576 by omega),bj (show (ag8 s.be)<=1048576 by omega),bj (show (ag8 s.bi)<=1048576 by omega)]
theorem F1 {s:aS} (ok:ek s) {h:Int×Int} (lv:tQ s h):qB s h=agd (fb s h):=by have hl:=ok.fl;have hn:=ok.n2;have hu:=ok.ul;obtain ⟨l1,l2,l3,l4⟩:=lv;unfold qB;rw [uz ok];have e1:cj s.be h.1 agY=s.be.set h.1.toNat agY:=rfl;simp only [ao,cu (show (ag8 s.bi)+[h.1].length<=1048576 by simp;omega),de (l:=s.be) l1 (by omega),e1,fb]
theorem TH {s:aS} (ok:ek s) {h:Int×Int} (lv:tQ s h):ek (fb s h):=by
 have hl:=ok.fl;have hn:=ok.n2;have hu:=ok.ul;obtain ⟨l1,l2,l3,l4⟩:=lv;have nf:h.1∉s.bi:=by
  have:=(ok.uf h.1.toNat (by omega)).1 l3
  rwa [show (h.1.toNat:Int)=h.1 by omega] at this
 refine ⟨ok.n1,ok.n2,?_,?_,?_,?_,?_⟩
 · show (s.be.set _ _).length=_;rw [lw];exact hu
 · intro x hx
   rcases abD.1 hx with hx|hx
   · exact ok.fr x hx
   rw [abd] at hx;subst hx;exact ⟨l1,l2⟩
 · show (s.bi++[h.1]).Nodup
   rw [List.nodup_append];refine ⟨ok.fd,by simp,?_⟩;intro x hx y hy he;rw [abd] at hy;subst hy;subst he;exact nf hx
 · intro i hi
   change i<(ag8 s.ar) at hi;show (s.be.set h.1.toNat agY)[i]! =agN↔(i:Int)∉s.bi++[h.1];rw [bg,abD,abd]
   by_cases e:i=h.1.toNat
   · rw [lm ⟨e,by omega⟩]
     have:(i:Int)=h.1:=by omega
     simp [this]
   rw [ls (fun k=>e k.1),ok.uf i hi]
   have: ¬(i:Int)=h.1:=by omega
   simp [this]
 intro i hi
 change i<(ag8 s.ar) at hi;obtain ⟨u1,u2,u3⟩:=ok.us i hi;refine ⟨u1,u2,?_⟩;show (s.be.set h.1.toNat agY)[i]! =agN->_;rw [bg];split
 · intro h;cases h
 exact u3
theorem zd {s:aS} (ok:ek s) (h:0<ag8 s.bi):cH s<ag8 s.ar/\(cH s:Int)=s.bi[ag8 s.bi-1]!/\(cH s:Int)∈s.bi:=by
 have hm:=aQ (l:=s.bi) (i:=ag8 s.bi-1) (by omega);have:=ok.fr _ hm;have e:(cH s:Int)=s.bi[ag8 s.bi-1]!:=by unfold cH;omega
 refine ⟨by omega,e,by rw [e];exact hm⟩
theorem kN {α:Type} (l:List α) (n:Nat) (h:n<=ag8 l):fG l 0 (n:Int)=agd (l.take n):=by unfold fG;rw [lm ⟨by omega,by omega,by omega⟩];simp
theorem BJ {s:aS} (ok:ek s):y6 s=agd (if xo s then (fY s,j9 s,0) else (⟨[],[],[]⟩,(0,0),18)):=by
 have hl:=ok.fl;have hn:=ok.n2;have hu:=ok.ul;unfold y6 xo;rw [uy s (by omega),lm ok];simp only [ao,show ((0:Int) !=0)=agY from rfl,lc,ay]
 by_cases a1:0<ag8 s.bi
 · obtain ⟨n1,n2,n3⟩:=zd ok a1
   have e1:(((ag8 s.bi):Int)==0)=agY:=dB (by omega);have e2:ai .i64 (((ag8 s.bi):Int) -1)=((ag8 s.bi-1:Nat):Int):=wR (by omega) (by omega);unfold sA;simp only [e1,lc,ay,e2,kN s.bi (ag8 s.bi-1) (by omega),ao,bj (show (s.bi.take (ag8 s.bi-1)).length<=1048576 by rw [aa5];omega),
    aq s.bi (ag8 s.bi-1) (by omega),<- n2,aq s.ar (cH s) n1]
   obtain ⟨u1,u2,u3⟩:=ok.us (cH s) n1
   by_cases a2:s.ar[cH s]! =1000000
   · have e3:(s.ar[cH s]! ==1000000)=agN:=by simpa using a2
     rw [e3,ls (by omega)];rfl
   have e3:(s.ar[cH s]! ==1000000)=agY:=by simpa using a2
   have e4:ai .i64 (s.ar[cH s]!+1)=s.ar[cH s]!+1:=by rw [wi];omega
   rw [e3,lm (by omega)];simp only [lc,bj (show (ag8 s.ar)<=1048576 by omega),bj (show (ag8 s.be)<=1048576 by omega),ao,aq s.be (cH s) (by omega),aq s.ar (cH s) n1,e4,qC,
    aq (s.ar.set (cH s) (s.ar[cH s]!+1)) (cH s) (by rw [lw];exact n1),bg,n1,and_self,if_true,fY,j9]
 have e1:(((ag8 s.bi):Int)==0)=agN:=dL (by omega)
 rw [e1,ls (fun h=>a1 h.1)];rfl
theorem pW {s:aS} (ok:ek s):gG s=agd (ah2 (xo s)):=by
 have hl:=ok.fl;have hn:=ok.n2;have hu:=ok.ul;unfold gG xo;simp only [ay]
 by_cases a1:0<ag8 s.bi
 · obtain ⟨n1,n2,n3⟩:=zd ok a1
   have e1:ah2 ((0:Int)<((ag8 s.bi):Int))=agN:=by simp;omega
   have e2:ai .i64 (((ag8 s.bi):Int) -1)=((ag8 s.bi-1:Nat):Int):=wR (by omega) (by omega);simp only [e1,e2,kw,aq s.bi (ag8 s.bi-1) (by omega),ao,<- n2,aq s.ar (cH s) n1,a1,true_and]
 have e1:ah2 ((0:Int)<((ag8 s.bi):Int))=agY:=decide_eq_false (by omega)
 rw [e1];simp [a1]
theorem F2 {s:aS} (ok:ek s) (h:xo s):yw s=agd (fY s,j9 s):=by
 have hl:=ok.fl;have hn:=ok.n2;have hu:=ok.ul;obtain ⟨a1,a2⟩:=h;obtain ⟨n1,n2,n3⟩:=zd ok a1;obtain ⟨u1,u2,u3⟩:=ok.us (cH s) n1;unfold yw;rw [uz ok];have e2:ai .i64 (((ag8 s.bi):Int) -1)=((ag8 s.bi-1:Nat):Int):=wR (by omega) (by omega);have e4:ai .i64 (s.ar[cH s]!+1)=s.ar[cH s]!+1:=by rw [wi];omega
 simp only [ao,ay,e2,aq s.bi (ag8 s.bi-1) (by omega),kN s.bi (ag8 s.bi-1) (by omega),<- n2,aq s.ar (cH s) n1,aq s.be (cH s) (by omega),e4,qC,
  aq (s.ar.set (cH s) (s.ar[cH s]!+1)) (cH s) (by rw [lw];exact n1),bg,n1,and_self,if_true,fY,j9,Int.toNat_natCast]
theorem TI {s:aS} (ok:ek s) (h:xo s):ek (fY s):=by
 have hl:=ok.fl;have hn:=ok.n2;have hu:=ok.ul;obtain ⟨a1,a2⟩:=h;obtain ⟨n1,n2,n3⟩:=zd ok a1;have mt: ∀x:Int,x∈s.bi.take (ag8 s.bi-1)↔(x∈s.bi/\x≠(cH s:Int)):=by
  intro x;rw [bY];constructor
  · rintro ⟨i,h1,h2,rfl⟩
    refine ⟨aQ h2,?_⟩;rw [n2];exact ed.1 ok.fd i (ag8 s.bi-1) h1 (by omega)
  rintro ⟨h1,h2⟩
  obtain ⟨i,hi,rfl⟩:=aO.1 h1;refine ⟨i,?_,hi,rfl⟩;refine IR fun hc=>h2 ?_
  rw [n2,show i=ag8 s.bi-1 by omega]
 refine ⟨?_,?_,?_,?_,?_,?_,?_⟩
 · show 1<=(s.ar.set _ _).length;rw [lw];exact ok.n1
 · show (s.ar.set _ _).length<=200;rw [lw];exact ok.n2
 · show (s.be.set _ _).length=(s.ar.set _ _).length;rw [lw,lw];exact hu
 · intro x hx
   show 0<=x/\x<((s.ar.set _ _).length:Int);rw [lw];exact ok.fr x ((mt x).1 hx).1
 · exact ok.fd.sublist (List.take_sublist _ _)
 · intro i hi
   change i<(s.ar.set _ _).length at hi;rw [lw] at hi;show (s.be.set (cH s) agN)[i]! =agN↔(i:Int)∉s.bi.take (ag8 s.bi-1);rw [bg,mt]
   by_cases e:i=cH s
   · rw [lm ⟨e,by omega⟩]
     simp [e]
   rw [ls (fun k=>e k.1),ok.uf i hi]
   have:(i:Int)≠(cH s:Int):=by omega
   simp [this]
 intro i hi
 change i<(s.ar.set _ _).length at hi;rw [lw] at hi;obtain ⟨u1,u2,u3⟩:=ok.us i hi;show 0<=(s.ar.set (cH s) (s.ar[cH s]!+1))[i]!/\(s.ar.set (cH s) (s.ar[cH s]!+1))[i]!<=1000000/\((s.be.set (cH s) agN)[i]! =agN->1<=(s.ar.set (cH s) (s.ar[cH s]!+1))[i]!);rw [bg,bg]
 by_cases e:i=cH s
 · subst e
   rw [lm ⟨rfl,n1⟩];refine ⟨by omega,by omega,fun _=>by omega⟩
 rw [ls (fun k=>e k.1),ls (fun k=>e k.1)]
 exact ⟨u1,u2,u3⟩
abbrev Ev:=Int×Int×Int×Int×Int
abbrev Ev.at (x:Ev):Int×Int:=(x.1,x.2.1)
abbrev Ev.num (x:Ev):Int:=x.2.2.1
abbrev Ev.ix (x:Ev):Int:=x.2.2.2.1
abbrev Ev.n (x:Ev):Nat:=x.2.2.2.1.toNat
theorem aks {x:Ev} {k:Nat} (h:x.ix<(k:Int)) (h0:0<=x.ix):x.n<k:=by show x.ix.toNat<k;omega
theorem akt {x y:Ev} (h0:0<=x.ix) (h1:0<=y.ix) (h:x.ix≠y.ix):x.n≠y.n:=by
 show x.ix.toNat≠y.ix.toNat
 omega
def less (x y:Ev):Prop:=dH (x.1,x.2.1) (y.1,y.2.1)<0\/(dH (x.1,x.2.1) (y.1,y.2.1)=0/\x.2.2.1<y.2.2.1)
theorem rH {a b:Int×Int}:dH a b<0↔a.1*b.2<b.1*a.2:=by unfold dH;rcases cM (a.1*b.2) (b.1*a.2) with ⟨h,e⟩|⟨h,e⟩|⟨h,e⟩<;>rw [e]<;>constructor<;>intro<;>omega
theorem OO {a b:Int×Int}:dH a b=0↔a.1*b.2=b.1*a.2:=by unfold dH;rcases cM (a.1*b.2) (b.1*a.2) with ⟨h,e⟩|⟨h,e⟩|⟨h,e⟩<;>rw [e]<;>constructor<;>intro<;>omega
theorem nb {x y:Ev} (h:less x y): ¬less y x:=by unfold less at*;rw [rH,OO] at*;dsimp only at*;rintro (k|k)<;>rcases h with h|h<;>omega
theorem gH {a1 a2 b1 b2 c1 c2:Int} (ha:1<=a2) (hb:1<=b2) (hc:1<=c2) (h1:a1*b2<=b1*a2) (h2:b1*c2<=c1*b2):a1*c2<=c1*a2:=by
 have e1:a1*b2*c2<=b1*a2*c2:=NE h1 (by omega);have e2:b1*c2*a2<=c1*b2*a2:=NE h2 (by omega);have e3:(a1*c2)*b2<=(c1*a2)*b2:=by
  have r1:(a1*c2)*b2=a1*b2*c2:=by grind
  have r2:b1*a2*c2=b1*c2*a2:=by grind
  have r3:c1*b2*a2=(c1*a2)*b2:=by grind
  omega
 exact Int.le_of_mul_le_mul_right e3 (by omega)
theorem mJ {a1 a2 b1 b2 c1 c2:Int} (ha:1<=a2) (hb:1<=b2) (hc:1<=c2) (h1:a1*b2<b1*a2) (h2:b1*c2<=c1*b2):a1*c2<c1*a2:=by
 have e1:a1*b2*c2<b1*a2*c2:=ab9 h1 (by omega);have e2:b1*c2*a2<=c1*b2*a2:=NE h2 (by omega);have e3:(a1*c2)*b2<(c1*a2)*b2:=by
  have r1:(a1*c2)*b2=a1*b2*c2:=by grind
  have r2:b1*a2*c2=b1*c2*a2:=by grind
  have r3:c1*b2*a2=(c1*a2)*b2:=by grind
  omega
 exact abe e3 (by omega)
theorem oy {a1 a2 b1 b2 c1 c2:Int} (ha:1<=a2) (hb:1<=b2) (hc:1<=c2) (h1:a1*b2<=b1*a2) (h2:b1*c2<c1*b2):a1*c2<c1*a2:=by
 have e1:a1*b2*c2<=b1*a2*c2:=NE h1 (by omega);have e2:b1*c2*a2<c1*b2*a2:=ab9 h2 (by omega);have e3:(a1*c2)*b2<(c1*a2)*b2:=by
  have r1:(a1*c2)*b2=a1*b2*c2:=by grind
  have r2:b1*a2*c2=b1*c2*a2:=by grind
  have r3:c1*b2*a2=(c1*a2)*b2:=by grind
  omega
 exact abe e3 (by omega)
theorem vg {x y z:Ev} (hx:1<=x.2.1) (hy:1<=y.2.1) (hz:1<=z.2.1) (h1: ¬less y x) (h2: ¬less z y): ¬less z x:=by
 unfold less at*;rw [rH,OO] at*;dsimp only at*;have t1:= @gH x.1 x.2.1 y.1 y.2.1 z.1 z.2.1 hx hy hz;have t2:= @mJ x.1 x.2.1 y.1 y.2.1 z.1 z.2.1 hx hy hz;have t3:= @oy x.1 x.2.1 y.1 y.2.1 z.1 z.2.1 hx hy hz;generalize x.1*y.2.1=p at*;generalize y.1*x.2.1=q at*;generalize y.1*z.2.1=r at*;generalize z.1*y.2.1=s at*;generalize x.1*z.2.1=u at*;generalize z.1*x.2.1=v at*;have a1:p<=q:=by omega
 have a2:r<=s:=by omega
 have a3:=t1 a1 a2;rintro (k|k)
 · omega
 by_cases b1:p<q
 · have:=t2 b1 a2;omega
 by_cases b2:r<s
 · have:=t3 a1 b2;omega
 omega
structure AQ (n:Nat) (x:Ev) (M:Ev->Prop) (H:List Ev) (W:List Int) (i:Nat):Prop where
 lt:i<n
 hn:n<=ag8 H
 ix: ∀w,w<n->w≠i->0<=(H[w]!).ix/\(H[w]!).ix<ag8 W/\W[(H[w]!).n]! =(w:Int)/\(H[w]!).ix≠x.ix
 x0:0<=x.ix
 x1:x.ix<ag8 W
 mem: ∀e,(∃w,w<n/\w≠i/\H[w]! =e)↔M e
theorem AQ.move {n:Nat} {x:Ev} {M:Ev->Prop} {H:List Ev} {W:List Int} {i j:Nat} (h:AQ n x M H W i) (hj:j<n) (lS:j≠i):AQ n x M (H.set i H[j]!) (W.set (H[j]!).n (i:Int)) j:=by
 have hn:=h.hn;have hi:=h.lt;obtain ⟨j1,j2,j3,j4⟩:=h.ix j hj lS;have cell: ∀w,(H.set i H[j]!)[w]! =if w=i then H[j]! else H[w]!:=by
  intro w;rw [bg]
  by_cases e:w=i
  · rw [lm ⟨e,by omega⟩,lm e]
  rw [ls (fun k=>e k.1),ls e]
 refine ⟨hj,by rw [lw];exact hn,?_,h.x0,by rw [lw];exact h.x1,?_⟩
 · intro w hw hwj
   rw [cell,lw]
   by_cases e:w=i
   · rw [lm e,bg,lm ⟨rfl,aks j2 j1⟩]
     exact ⟨j1,j2,by rw [e],j4⟩
   rw [ls e,bg]
   obtain ⟨k1,k2,k3,k4⟩:=h.ix w hw e;refine ⟨k1,k2,?_,k4⟩;rw [ls,k3];rintro ⟨c,_⟩;rw [c,j3] at k3;omega
 intro e
 rw [<- h.mem e];constructor
 · rintro ⟨w,hw,hwj,he⟩
   rw [cell] at he
   by_cases c:w=i
   · rw [lm c] at he;exact ⟨j,hj,lS,he⟩
   rw [ls c] at he;exact ⟨w,hw,c,he⟩
 rintro ⟨w,hw,IZ,he⟩
 by_cases c:w=j
 · refine ⟨i,hi,fun h=>lS h.symm,?_⟩
   rw [cell,lm rfl,<- c];exact he
 exact ⟨w,hw,c,by rw [cell,ls IZ];exact he⟩
theorem AQ.fill {n:Nat} {x:Ev} {M:Ev->Prop} {H:List Ev} {W:List Int} {i:Nat} (h:AQ n x M H W i):
 (∀w,w<n->0<=((H.set i x)[w]!).ix/\((H.set i x)[w]!).ix<ag8 W/\(W.set x.n (i:Int))[((H.set i x)[w]!).n]! =(w:Int))/\
  (∀e,(∃w,w<n/\(H.set i x)[w]! =e)↔(e=x\/M e)):=by
 have hn:=h.hn;have hi:=h.lt;have x0:=h.x0;have x1:=h.x1;have cell: ∀w,(H.set i x)[w]! =if w=i then x else H[w]!:=by
  intro w;rw [bg]
  by_cases e:w=i
  · rw [lm ⟨e,by omega⟩,lm e]
  rw [ls (fun k=>e k.1),ls e]
 constructor
 · intro w hw
   rw [cell]
   by_cases e:w=i
   · rw [lm e,bg,lm ⟨rfl,aks x1 x0⟩]
     exact ⟨x0,x1,by rw [e]⟩
   rw [ls e,bg]
   obtain ⟨k1,k2,k3,k4⟩:=h.ix w hw e;exact ⟨k1,k2,by rw [ls (fun c=>akt k1 x0 k4 c.1),k3]⟩
 intro e
 rw [<- h.mem e];constructor
 · rintro ⟨w,hw,he⟩
   rw [cell] at he
   by_cases c:w=i
   · rw [lm c] at he;exact .inl he.symm
   rw [ls c] at he;exact .inr ⟨w,hw,c,he⟩
 rintro (he|⟨w,hw,IZ,he⟩)
 · exact ⟨i,hi,by rw [cell,lm rfl,he]⟩
 exact ⟨w,hw,by rw [cell,ls IZ];exact he⟩
noncomputable def iy (x:Ev):Nat->List Ev->List Int->Nat×List Ev×List Int
 |0,H,W=>(0,H,W)
 |i+1,H,W=>if less x H[i / 2]! then iy x (i / 2) (H.set (i+1) H[i / 2]!) (W.set (H[i / 2]!).n ((i+1:Nat):Int)) else (i+1,H,W)
termination_by i=>i
decreasing_by omega
noncomputable def gI (n:Nat) (H:List Ev) (i:Nat):Nat:=if 2*i+2<n/\less H[2*i+2]! H[2*i+1]! then 2*i+2 else 2*i+1
theorem nF (n:Nat) (H:List Ev) (i:Nat):gI n H i=2*i+1\/(gI n H i=2*i+2/\2*i+2<n):=by
 unfold gI;split
 · rename_i h;exact .inr ⟨rfl,h.1⟩
 exact .inl rfl
noncomputable def dv (n:Nat) (x:Ev) (i:Nat) (H:List Ev) (W:List Int):Nat×List Ev×List Int:=
 if _h:2*i+1<n then
  if less H[gI n H i]! x then dv n x (gI n H i) (H.set i H[gI n H i]!) (W.set (H[gI n H i]!).n (i:Int)) else (i,H,W)
 else (i,H,W)
termination_by n-i
decreasing_by
 rcases nF n H i with h|h<;>omega
structure Ord (n:Nat) (H:List Ev) (i:Nat):Prop where
 den: ∀w,w<n->1<=(H[w]!).2.1
 ord: ∀k,0<k->k<n->k≠i->(k-1) / 2≠i-> ¬less H[k]! H[(k-1) / 2]!
 K0:0<i-> ∀k,0<k->k<n->(k-1) / 2=i-> ¬less H[k]! H[(i-1) / 2]!
theorem D9 {n : Nat} {x : Ev} {M : Ev -> Prop} (dx : 1 <= x.2.1) : ∀ (i : Nat) (H : List Ev) (W : List Int), AQ n x M H W i -> Ord n H i ->
    ∃ j H1 W1, iy x i H W = (j, H1, W1) /\ AQ n x M H1 W1 j /\ Ord n H1 j /\ (ag8 H1) = (ag8 H) /\ (ag8 W1) = (ag8 W) /\ (0 < j -> ¬ less x H1[(j - 1) / 2]!) /\
      (∀ k, n <= k -> H1[k]! = H[k]!) /\ (∀ k, (∀ w, w < n -> w ≠ i -> (H[w]!).n ≠ k) -> W1[k]! = W[k]!) /\
      ((∀ k, 0 < k -> k < n -> (k - 1) / 2 = i -> ¬ less H[k]! x) -> ∀ k, 0 < k -> k < n -> (k - 1) / 2 = j -> ¬ less H1[k]! x)
  | 0, H, W, h, o => ⟨0, H, W, by rw [iy], h, o, rfl, rfl, fun h => by omega, fun _ _ => rfl, fun _ _ => rfl, fun h => h⟩
  | i + 1, H, W, h, o => by
    rw [iy]
    by_cases hl : less x H[i / 2]!
    · rw [lm hl]
      have hi := h.lt
      have hn := h.hn
      have hp : i / 2 < n := by omega
      have dM : i / 2 ≠ i + 1 := by omega
      have hm := h.move hp dM
      have cell : ∀ w, (H.set (i + 1) H[i / 2]!)[w]! = if w = i + 1 then H[i / 2]! else H[w]! := by
        intro w
        rw [bg]
        by_cases e : w = i + 1
        · rw [lm ⟨e, by omega⟩, lm e]
        rw [ls (fun k => e k.1), ls e]
      have o' : Ord n (H.set (i + 1) H[i / 2]!) (i / 2) := by
        refine ⟨?_, ?_, ?_⟩
        · intro w hw
          rw [cell]
          split
          · exact o.den _ hp
          exact o.den _ hw
        · intro k k0 kn k1 k2
          rw [cell, cell]
          by_cases e : k = i + 1
          · subst e; exact absurd (by omega) k2
          rw [ls e]
          by_cases e2 : (k - 1) / 2 = i + 1
          · rw [lm e2]
            have := o.K0 (by omega) k k0 kn e2
            rwa [show (i + 1 - 1) / 2 = i / 2 by omega] at this
          rw [ls e2]
          exact o.ord k k0 kn e e2
        intro p0 k k0 kn k1
        rw [cell, cell, ls (show (i / 2 - 1) / 2 ≠ i + 1 by omega)]
        have up1 : ¬ less H[i / 2]! H[(i / 2 - 1) / 2]! := o.ord (i / 2) p0 hp dM (by omega)
        by_cases e : k = i + 1
        · rw [lm e]; exact up1
        rw [ls e]
        have up2 : ¬ less H[k]! H[i / 2]! := by
          have := o.ord k k0 kn e (by omega)
          rwa [k1] at this
        exact vg (o.den _ (by omega)) (o.den _ hp) (o.den _ kn) up1 up2
      obtain ⟨j, H1, W1, e1, e3, e4, e5, e6, e7, e8, e9, e10⟩ := D9 dx (i / 2) _ _ hm o'
      rw [lw] at e5 e6
      refine ⟨j, H1, W1, e1, e3, e4, e5, e6, e7, ?_, ?_, ?_⟩
      · intro k hk
        rw [e8 k hk, cell, ls (by omega)]
      · intro k hk
        rw [e9 k ?_, bg, ls (fun c => hk (i / 2) hp dM c.1.symm)]
        intro w hw IL
        rw [cell]
        split
        · exact hk (i / 2) hp dM
        rename_i e; exact hk w hw e
      intro _
      refine e10 fun k k0 kn k1 => ?_
      rw [cell]
      by_cases e : k = i + 1
      · rw [lm e]; exact nb hl
      rw [ls e]
      have up2 : ¬ less H[k]! H[i / 2]! := by
        have := o.ord k k0 kn e (by omega)
        rwa [k1] at this
      exact vg dx (o.den _ hp) (o.den _ kn) (nb hl) up2
    rw [ls hl]
    refine ⟨i + 1, H, W, rfl, h, o, rfl, rfl, fun _ => ?_, fun _ _ => rfl, fun _ _ => rfl, fun h => h⟩
    rwa [show (i + 1 - 1) / 2 = i / 2 by omega]
termination_by i=>i
decreasing_by omega
theorem Qs {n:Nat} {x:Ev} {i:Nat} {H:List Ev} {W:List Int} (h: ∀k,0<k->k<n->(k-1) / 2=i-> ¬less H[k]! x):dv n x i H W=(i,H,W):=by
 rw [dv];split
 · rename_i hk
   rw [ls];rcases nF n H i with e|⟨e,e2⟩
   · rw [e];exact h _ (by omega) hk (by omega)
   rw [e];exact h _ (by omega) e2 (by omega)
 rfl
theorem HJ {n : Nat} {x : Ev} {M : Ev -> Prop} (dx : 1 <= x.2.1) : ∀ (d i : Nat) (H : List Ev) (W : List Int), n - i <= d -> AQ n x M H W i -> Ord n H i -> (0 < i -> ¬ less x H[(i - 1) / 2]!) ->
    ∃ j H1 W1, dv n x i H W = (j, H1, W1) /\ AQ n x M H1 W1 j /\ Ord n H1 j /\ (ag8 H1) = (ag8 H) /\ (ag8 W1) = (ag8 W) /\ (0 < j -> ¬ less x H1[(j - 1) / 2]!) /\
      (∀ k, n <= k -> H1[k]! = H[k]!) /\ (∀ k, (∀ w, w < n -> w ≠ i -> (H[w]!).n ≠ k) -> W1[k]! = W[k]!) /\ (∀ k, 0 < k -> k < n -> (k - 1) / 2 = j -> ¬ less H1[k]! x)
  | 0, i, H, W, hd, h, o, u => by have := h.lt; omega
  | d + 1, i, H, W, hd, h, o, u => by
    have hi := h.lt
    have hn := h.hn
    rw [dv]
    by_cases hk : 2 * i + 1 < n
    · rw [dif_pos hk]
      have kc := nF n H i
      have kn : gI n H i < n := by omega
      have kne : gI n H i ≠ i := by omega
      have kp : (gI n H i - 1) / 2 = i := by omega
      have kb : ∀ k, 0 < k -> k < n -> (k - 1) / 2 = i -> ¬ less H[k]! H[gI n H i]! := by
        intro k k0 k1 k2
        have kk : k = 2 * i + 1 \/ k = 2 * i + 2 := by omega
        unfold gI
        split
        · rename_i hc
          rcases kk with e | e
          · rw [e]; exact nb hc.2
          rw [e]; exact fun h => nb h h
        rename_i hc
        rcases kk with e | e
        · rw [e]; exact fun h => nb h h
        rw [e] at k1 ⊢; exact fun h => hc ⟨k1, h⟩
      by_cases hl : less H[gI n H i]! x
      · rw [lm hl]
        have hm := h.move kn kne
        have cell : ∀ w, (H.set i H[gI n H i]!)[w]! = if w = i then H[gI n H i]! else H[w]! := by
          intro w
          rw [bg]
          by_cases e : w = i
          · rw [lm ⟨e, by omega⟩, lm e]
          rw [ls (fun k => e k.1), ls e]
        have o' : Ord n (H.set i H[gI n H i]!) (gI n H i) := by
          refine ⟨?_, ?_, ?_⟩
          · intro w hw
            rw [cell]
            split
            · exact o.den _ kn
            exact o.den _ hw
          · intro k k0 k1 k2 k3
            rw [cell, cell]
            by_cases e : k = i
            · rw [lm e, ls (by omega)]
              have := o.K0 (by omega) (gI n H i) (by omega) kn kp
              rwa [e]
            rw [ls e]
            by_cases e2 : (k - 1) / 2 = i
            · rw [lm e2]; exact kb k k0 k1 e2
            rw [ls e2]; exact o.ord k k0 k1 e e2
          intro _ k k0 k1 k2
          rw [cell, cell, lm kp, ls (by omega)]
          have := o.ord k k0 k1 (by omega) (by omega)
          rwa [k2] at this
        obtain ⟨j, H1, W1, e1, e3, e4, e5, e6, e7, e8, e9, e10⟩ := HJ dx d (gI n H i) _ _ (by omega) hm o' (by
          intro _
          rw [cell, lm kp]
          exact nb hl)
        rw [lw] at e5 e6
        refine ⟨j, H1, W1, e1, e3, e4, e5, e6, e7, ?_, ?_, e10⟩
        · intro k hk
          rw [e8 k hk, cell, ls (by omega)]
        intro k hk
        rw [e9 k ?_, bg, ls (fun c => hk (gI n H i) kn kne c.1.symm)]
        intro w hw IL
        rw [cell]
        split
        · exact hk (gI n H i) kn kne
        rename_i e; exact hk w hw e
      rw [ls hl]
      refine ⟨i, H, W, rfl, h, o, rfl, rfl, u, fun _ _ => rfl, fun _ _ => rfl, ?_⟩
      intro k k0 k1 k2
      exact vg dx (o.den _ kn) (o.den _ k1) hl (kb k k0 k1 k2)
    rw [dif_neg hk]
    refine ⟨i, H, W, rfl, h, o, rfl, rfl, u, fun _ _ => rfl, fun _ _ => rfl, ?_⟩
    intro k k0 k1 k2
    omega
structure ze (n:Nat) (x:Ev) (M:Ev->Prop) (K:Nat->Prop) (H:List Ev) (W:List Int) (H1:List Ev) (W1:List Int):Prop where
 hl:(ag8 H1)=ag8 H
 wl:(ag8 W1)=ag8 W
 ix: ∀w,w<n->0<=(H1[w]!).ix/\(H1[w]!).ix<ag8 W/\W1[(H1[w]!).n]! =(w:Int)
 mem: ∀e,(∃w,w<n/\H1[w]! =e)↔(e=x\/M e)
 ord: ∀k,0<k->k<n-> ¬less H1[k]! H1[(k-1) / 2]!
 out: ∀k,K k->W1[k]! =W[k]!
theorem I0 {n:Nat} {x:Ev} {M:Ev->Prop} {H H1:List Ev} {W W1:List Int} {i j:Nat} (h1:AQ n x M H1 W1 j) (o1:Ord n H1 j) (hl:(ag8 H1)=ag8 H) (wl:(ag8 W1)=ag8 W)
 (u:0<j-> ¬less x H1[(j-1) / 2]!) (kd: ∀k,0<k->k<n->(k-1) / 2=j-> ¬less H1[k]! x) (out: ∀k,(∀w,w<n->w≠i->(H[w]!).n≠k)->W1[k]! =W[k]!):
 ze n x M (fun k=>k≠x.n/\ ∀w,w<n->w≠i->(H[w]!).n≠k) H W (H1.set j x) (W1.set x.n (j:Int)):=by
 have hn:=h1.hn;have hj:=h1.lt;have f:=h1.fill;have cell: ∀w,(H1.set j x)[w]! =if w=j then x else H1[w]!:=by
  intro w;rw [bg]
  by_cases e:w=j
  · rw [lm ⟨e,by omega⟩,lm e]
  rw [ls (fun k=>e k.1),ls e]
 refine ⟨by rw [lw];exact hl,by rw [lw];exact wl,?_,f.2,?_,?_⟩
 · rw [<- wl];exact f.1
 · intro k k0 kn
   rw [cell,cell]
   by_cases e:k=j
   · rw [lm e,ls (by omega),e];exact u (by omega)
   rw [ls e]
   by_cases e2:(k-1) / 2=j
   · rw [lm e2];exact kd k k0 kn e2
   rw [ls e2];exact o1.ord k k0 kn e e2
 rintro k ⟨k1,k2⟩
 rw [bg,ls (fun c=>k1 c.1)];exact out k k2
noncomputable def bV (n:Nat) (x:Ev) (i:Nat) (H:List Ev) (W:List Int):List Ev×List Int:=
 let u:=iy x i H W
 let d:=dv n x u.1 u.2.1 u.2.2
 (d.2.1.set d.1 x,d.2.2.set x.n (d.1:Int))
theorem yx {n:Nat} {x:Ev} {M:Ev->Prop} (dx:1<=x.2.1) {i:Nat} {H:List Ev} {W:List Int} (h:AQ n x M H W i) (o:Ord n H i):
 ze n x M (fun k=>k≠x.n/\ ∀w,w<n->w≠i->(H[w]!).n≠k) H W (bV n x i H W).1 (bV n x i H W).2:=by
 obtain ⟨j,H1,W1,e1,e3,e4,e5,e6,e7,e8,e9,e10⟩:=D9 dx i H W h o;obtain ⟨k,H2,W2,f1,f3,f4,f5,f6,f7,f8,f9,f10⟩:=HJ dx n j H1 W1 (by omega) e3 e4 e7;have e:bV n x i H W=(H2.set k x,W2.set x.n (k:Int)):=by unfold bV;rw [e1];dsimp only;rw [f1]
 rw [e];refine I0 f3 f4 (by omega) (by omega) f7 f10 ?_;intro c hc;rw [f9 c ?_,e9 c hc];intro w hw hwj hcw;have hm:M H1[w]!:=(e3.mem _).1 ⟨w,hw,hwj,rfl⟩;obtain ⟨v,v1,v2,v3⟩:=(h.mem _).2 hm;exact hc v v1 v2 (by rw [v3];exact hcw)
theorem K1 {n:Nat} {x:Ev} {M:Ev->Prop} (dx:1<=x.2.1) {i:Nat} {H:List Ev} {W:List Int} (h:AQ n x M H W i) (o:Ord n H i) (hk: ∀k,0<k->k<n->(k-1) / 2=i-> ¬less H[k]! x):
 bV n x i H W=((iy x i H W).2.1.set (iy x i H W).1 x,(iy x i H W).2.2.set x.n ((iy x i H W).1:Int)):=by
 obtain ⟨j,H1,W1,e1,e3,e4,e5,e6,e7,e8,e9,e10⟩:=D9 dx i H W h o;unfold bV;rw [e1];dsimp only;rw [Qs (e10 hk)]
def pq (x:Ev):Prop:=aW (x.1,x.2.1)/\iI (x.1,x.2.1)/\0<=x.2.2.1/\x.2.2.1<=1000000
theorem pq.den {x:Ev} (h:pq x):1<=x.2.1:=h.1.1
noncomputable def F3 (x y:Ev):Int:=if dH (x.1,x.2.1) (y.1,y.2.1)≠0 then dH (x.1,x.2.1) (y.1,y.2.1) else iH x.2.2.1 y.2.2.1
theorem BK (x y:Ev):F3 x y<0↔less x y:=by
 unfold F3 less
 by_cases h:dH (x.1,x.2.1) (y.1,y.2.1)=0
 · rw [ls (by simpa using h),h]
   rcases cM x.2.2.1 y.2.2.1 with ⟨h1,e⟩|⟨h1,e⟩|⟨h1,e⟩<;>rw [e]<;>constructor<;>intro<;>omega
 rw [lm h];constructor<;>intro<;>omega
theorem cY {x y:Ev} (hx:pq x) (hy:pq y):bQ x y=agd (F3 x y):=by unfold bQ F3;rw [CU hx.2.1 hy.2.1,lm ⟨hx.1,hy.1⟩];simp only [ao,iw,zc]
theorem mT {x y:Ev} (hx:pq x) (hy:pq y):dR x y=agd (ah2 (less x y)):=by
 unfold dR less;rw [wQ hx.2.1 hy.2.1];simp only [ao];generalize dH (x.1,x.2.1) (y.1,y.2.1)=c
 by_cases h1:c<0
 · simp [h1]
 by_cases h2:c=0
 · subst h2;simp
 simp only [h1,dB h2,h2,decide_false,lc,false_or,false_and]
theorem CW {x y:Ev}:ah2 (F3 x y<0)=ah2 (less x y):=by simp only [BK]
theorem I1 {x y:Ev}:ah2 (0<=F3 x y)=!ah2 (less x y):=by
 have:=BK x y
 by_cases h:less x y
 · have h2:=this.2 h
   have: ¬0<=F3 x y:=by omega
   simp [h,this]
 have h2: ¬F3 x y<0:=fun k=>h (this.1 k)
 have:0<=F3 x y:=by omega
 simp [h,this]
structure lP (n:Nat) (H:List Ev) (W:List Int):Prop where
 hn:n<=ag8 H
 hb:(ag8 H)<=1000000
 ev: ∀w,w<n->pq H[w]!/\0<=(H[w]!).ix/\(H[w]!).ix<ag8 W
theorem lP.move {n:Nat} {H:List Ev} {W:List Int} (c:lP n H W) {i j:Nat} (_hi:i<n) (hj:j<n) (k:Nat) (v:Int):lP n (H.set i H[j]!) (W.set k v):=by
 have hn:=c.hn;refine ⟨by rw [lw];exact hn,by rw [lw];exact c.hb,?_⟩;intro w hw;rw [bg,lw];split
 · exact c.ev j hj
 exact c.ev w hw
theorem D' {H:List Ev} {W:List Int} {x:Ev} {u fr:List Int} {us:List Bool} {i:Nat} (hi:i<ag8 H) (h0:0<=x.ix) (h1:x.ix<ag8 W):
 bK (u,us,fr,(i:Int),x.1,x.2.1,x.2.2.1,x.2.2.2.1,x.2.2.2.2,H,W)=agd (H.set i x,W.set x.n (i:Int)):=by
 unfold bK;have e1:=aq H i hi;have e2:=de (l:=W) h0 h1;simp only [e1,e2,ao,x7,beq_self_eq_true,kw];rfl
theorem Ea {n cap:Nat} {H:List Ev} {W:List Int} {x:Ev} {u fr:List Int} {us:List Bool} {i:Nat} (hi:i<n) (hn:n<=ag8 H) (h0:0<=x.ix) (h1:x.ix<ag8 W):
 bJ (u,us,fr,n,cap,(i:Int),x.1,x.2.1,x.2.2.1,x.2.2.2.1,x.2.2.2.2,H,W)=agd (H.set i x,W.set x.n (i:Int)):=by
 unfold bJ;have e1:=aq (H.take n) i (by rw [aa5];omega);have e2:=de (l:=W) h0 h1;simp only [e1,e2,ao,x7,beq_self_eq_true,kw];rfl
theorem qO {i:Nat} (h:i<1000000000):ai .i64 (UV (ai .i64 (((i+1:Nat):Int) -1)) 2)=((i / 2:Nat):Int):=by
 have e:ai .i64 (((i+1:Nat):Int) -1)=(i:Int):=by rw [wi];omega
 rw [e,abc (by omega),wi];omega
theorem uA {i:Nat} (h:i<1000000000):ai .i64 ((ai .i64 (2*(i:Int)))+1)=((2*i+1:Nat):Int):=by
 have e:ai .i64 (2*(i:Int))=((2*i:Nat):Int):=by rw [wi];omega
 rw [e,wi];omega
theorem yz {n:Nat} {x:Ev}: ∀{i:Nat} {H:List Ev} {W:List Int} {j:Nat} {H1:List Ev} {W1:List Int},lP n H W->i<n->iy x i H W=(j,H1,W1)-> ∀w,w<n->pq H1[w]!/\0<=(H1[w]!).ix/\(H1[w]!).ix<ag8 W
 |0,H,W,j,H1,W1,c,hi,e=>by rw [iy] at e;injection e with e1 e;injection e with e2 e3;subst e2;exact c.ev
 |i+1,H,W,j,H1,W1,c,hi,e=>by
  rw [iy] at e;split at e
  · have:=yz (c.move hi (show i / 2<n by omega) (H[i / 2]!).n ((i+1:Nat):Int)) (by omega) e
    rw [lw] at this;exact this
  injection e with e1 e;injection e with e2 e3
  subst e2;exact c.ev
termination_by i=>i
decreasing_by omega
theorem Na {c0:List Int×List Bool×List Int×Int×Int×Int×Int×Int×Int×List Ev×List Int} {n i:Nat} {H:List Ev} {W:List Int} {u fr:List Int} {us:List Bool} {x:Ev}
 (c:lP n H W) (hn:(ag8 H)=n) (hi:i<n) (hx:pq x) (x0:0<=x.ix) (x1:x.ix<ag8 W) (l1:(ag8 c0.2.2.2.2.2.2.2.2.2.1)=n) (l2:(ag8 c0.2.2.2.2.2.2.2.2.2.2)=ag8 W):
 ft c0 ((i:Int),((2*i+1:Nat):Int),H,W,u,us,fr,x)=
  agd (if 2*i+1<n/\less H[gI n H i]! x then .next (((gI n H i:Nat):Int),((2*gI n H i+1:Nat):Int),H.set i H[gI n H i]!,W.set (H[gI n H i]!).n (i:Int),u,us,fr,x)
   else .done (.done (H.set i x,W.set x.n (i:Int)))):=by
 have hb:=c.hb;have fin:(bK (u,us,fr,(i:Int),x.1,x.2.1,x.2.2.1,x.2.2.2.1,x.2.2.2.2,H,W))=agd (H.set i x,W.set x.n (i:Int)):=D' (by omega) x0 x1;have ln1:(H.set i x).length=(ag8 c0.2.2.2.2.2.2.2.2.2.1):=by rw [lw];omega
 have ln2:(W.set x.n (i:Int)).length=(ag8 c0.2.2.2.2.2.2.2.2.2.2):=by rw [lw];omega
 unfold ft;simp only [ay,hn,fin,ao,ln1,ln2,beq_self_eq_true,kw]
 by_cases h1:2*i+1<n
 · have e1:ah2 (((2*i+1:Nat):Int)<(n:Int))=agN:=by simp;omega
   have e2:ai .i64 (((2*i+1:Nat):Int)+1)=((2*i+2:Nat):Int):=aT (by omega);obtain ⟨pX,a1,a2⟩:=c.ev (2*i+1) h1;have g1:=aq H (2*i+1) (by omega);have s1:(bK (u,us,fr,(i:Int),(H[2*i+1]!).1,(H[2*i+1]!).2.1,(H[2*i+1]!).2.2.1,(H[2*i+1]!).2.2.2.1,(H[2*i+1]!).2.2.2.2,H,W))=agd (H.set i H[2*i+1]!,W.set (H[2*i+1]!).n (i:Int)):=D' (by omega) a1 a2;simp only [e1,e2,kw,g1,ao,s1,cY pX hx,I1,uA (show 2*i+1<1000000000 by omega)]
   by_cases h2:2*i+2<n
   · have e3:ah2 (((2*i+2:Nat):Int)<(n:Int))=agN:=by simp;omega
     obtain ⟨TJ,b1,b2⟩:=c.ev (2*i+2) h2;have g2:=aq H (2*i+2) (by omega);have s2:(bK (u,us,fr,(i:Int),(H[2*i+2]!).1,(H[2*i+2]!).2.1,(H[2*i+2]!).2.2.1,(H[2*i+2]!).2.2.2.1,(H[2*i+2]!).2.2.2.2,H,W))=agd (H.set i H[2*i+2]!,W.set (H[2*i+2]!).n (i:Int)):=D' (by omega) b1 b2;simp only [e3,kw,g2,ao,s2,cY TJ hx,cY TJ pX,CW,I1,uA (show 2*i+2<1000000000 by omega)]
     by_cases h3:less H[2*i+2]! H[2*i+1]!
     · have k:gI n H i=2*i+2:=by unfold gI;rw [lm ⟨h2,h3⟩]
       rw [k]
       by_cases h4:less H[2*i+2]! x
       · simp only [h1,h3,h4,decide_true,kw,lc,If,and_self,if_true]
       simp only [h1,h3,h4,decide_true,decide_false,kw,Do,and_false,if_false]
     have k:gI n H i=2*i+1:=by unfold gI;rw [ls (fun h=>h3 h.2)]
     rw [k]
     by_cases h4:less H[2*i+1]! x
     · simp only [h1,h3,h4,decide_true,decide_false,lc,If,and_self,if_true]
     simp only [h1,h3,h4,decide_false,kw,lc,Do,and_false,if_false]
   have e3:ah2 (((2*i+2:Nat):Int)<(n:Int))=agY:=by simp;omega
   have k:gI n H i=2*i+1:=by unfold gI;rw [ls (fun h=>h2 h.1)]
   rw [k];simp only [e3,lc]
   by_cases h4:less H[2*i+1]! x
   · simp only [h1,h4,decide_true,lc,If,and_self,if_true]
   simp only [h1,h4,decide_false,kw,Do,and_false,if_false]
 have e1:ah2 (((2*i+1:Nat):Int)<(n:Int))=agY:=by simp;omega
 rw [ls (fun h=>h1 h.1),e1];rfl
theorem wS {c0 : List Int × List Bool × List Int × Int × Int × Int × Int × Int × Int × List Ev × List Int} {n : Nat} {u fr : List Int} {us : List Bool} {x : Ev} (hx : pq x) (x0 : 0 <= x.ix) (l1 : (ag8 c0.2.2.2.2.2.2.2.2.2.1) = n) :
    ∀ (d i : Nat) (H : List Ev) (W : List Int), n - i <= d -> lP n H W -> (ag8 H) = n -> i < n -> x.ix < (ag8 W) -> (ag8 c0.2.2.2.2.2.2.2.2.2.2) = (ag8 W) ->
      aB (ft c0) ((i : Int), ((2 * i + 1 : Nat) : Int), H, W, u, us, fr, x) = agd (.done ((dv n x i H W).2.1.set (dv n x i H W).1 x, (dv n x i H W).2.2.set x.n ((dv n x i H W).1 : Int)))
  | 0, i, H, W, hd, c, hn, hi, x1, l2 => by omega
  | d + 1, i, H, W, hd, c, hn, hi, x1, l2 => by
    have r := Na (u := u) (us := us) (fr := fr) c hn hi hx x0 x1 l1 l2
    by_cases h : 2 * i + 1 < n /\ less H[gI n H i]! x
    · rw [lm h] at r
      have kc := nF n H i
      have kn : gI n H i < n := by omega
      rw [aV r, wS hx x0 l1 d (gI n H i) _ _ (by omega) (c.move hi kn _ _) (by rw [lw]; exact hn) kn (by rw [lw]; exact x1) (by rw [lw]; exact l2)]
      have e : dv n x i H W = dv n x (gI n H i) (H.set i H[gI n H i]!) (W.set (H[gI n H i]!).n (i : Int)) := by
        rw [dv, dif_pos h.1, lm h.2]
      rw [e]
    rw [ls h] at r
    rw [aC r]
    have e : dv n x i H W = (i, H, W) := by
      rw [dv]
      split
      · rename_i h1; rw [ls (fun k => h ⟨h1, k⟩)]
      rfl
    rw [e]
theorem F4 {c0 : List Int × List Bool × List Int × Int × Int × Int × Int × Int × Int × List Ev × List Int} {n : Nat} {u fr : List Int} {us : List Bool} {x : Ev} (hx : pq x) (x0 : 0 <= x.ix) (l1 : (ag8 c0.2.2.2.2.2.2.2.2.2.1) = n) :
    ∀ (i : Nat) (H : List Ev) (W : List Int), lP n H W -> (ag8 H) = n -> i < n -> x.ix < (ag8 W) -> (ag8 c0.2.2.2.2.2.2.2.2.2.2) = (ag8 W) ->
      aB (dV c0) ((i : Int), H, W, u, us, fr, x) = agd (bV n x i H W)
  | 0, H, W, c, hn, hi, x1, l2 => by
    have hb := c.hb
    have dn := wS (u := u) (us := us) (fr := fr) hx x0 l1 n 0 H W (by omega) c hn hi x1 l2
    refine (aC (r := bV n x 0 H W) ?_)
    unfold dV
    have e1 : ah2 ((0 : Int) < ((0 : Nat) : Int)) = agY := by simp
    simp only [e1, lc, uA (show 0 < 1000000000 by omega)]
    rw [dn]
    unfold bV
    rw [iy]
  | i + 1, H, W, c, hn, hi, x1, l2 => by
    have hb := c.hb
    have e1 : ah2 ((0 : Int) < ((i + 1 : Nat) : Int)) = agN := decide_eq_true (by omega)
    have hp : i / 2 < n := by omega
    obtain ⟨pX, a1, a2⟩ := c.ev (i / 2) hp
    have g1 := aq H (i / 2) (by omega)
    have s1 : (bK (u, us, fr, ((i + 1 : Nat) : Int), (H[i / 2]!).1, (H[i / 2]!).2.1, (H[i / 2]!).2.2.1, (H[i / 2]!).2.2.2.1, (H[i / 2]!).2.2.2.2, H, W)) = agd (H.set (i + 1) H[i / 2]!, W.set (H[i / 2]!).n ((i + 1 : Nat) : Int)) := D' (by omega) a1 a2
    by_cases h : less x H[i / 2]!
    · have r : dV c0 (((i + 1 : Nat) : Int), H, W, u, us, fr, x) = agd (.next (((i / 2 : Nat) : Int), H.set (i + 1) H[i / 2]!, W.set (H[i / 2]!).n ((i + 1 : Nat) : Int), u, us, fr, x)) := by
        unfold dV
        simp only [e1, kw, qO (show i < 1000000000 by omega), g1, ao, cY hx pX, CW, h, decide_true, s1]
      rw [aV r, F4 hx x0 l1 (i / 2) _ _ (c.move hi hp _ _) (by rw [lw]; exact hn) hp (by rw [lw]; exact x1) (by rw [lw]; exact l2)]
      have e : iy x (i + 1) H W = iy x (i / 2) (H.set (i + 1) H[i / 2]!) (W.set (H[i / 2]!).n ((i + 1 : Nat) : Int)) := by
        rw [iy, lm h]
      unfold bV
      rw [e]
    have dn := wS (u := u) (us := us) (fr := fr) hx x0 l1 n (i + 1) H W (by omega) c hn hi x1 l2
    refine (aC (r := bV n x (i + 1) H W) ?_)
    unfold dV
    simp only [e1, kw, qO (show i < 1000000000 by omega), g1, ao, cY hx pX, CW, h, decide_false, lc, uA (show i + 1 < 1000000000 by omega)]
    rw [dn]
    unfold bV
    rw [iy, ls h]
termination_by i=>i
decreasing_by omega
theorem F5 {n:Nat} {u fr:List Int} {us:List Bool} {x:Ev} (hx:pq x) (x0:0<=x.ix) {i:Nat} {H:List Ev} {W:List Int} (c:lP n H W) (hn:(ag8 H)=n) (hi:i<n) (x1:x.ix<ag8 W):
 ec (u,us,fr,(i:Int),x.1,x.2.1,x.2.2.1,x.2.2.2.1,x.2.2.2.2,H,W)=agd (bV n x i H W):=by
 unfold ec;exact F4 hx x0 hn i H W c hn hi x1 rfl
theorem fx {l:List Ev} {n i:Nat} (h:i<n) (hn:n<=ag8 l):aG (l.take n) (i:Int)=agd l[i]!:=by rw [aq (l.take n) i (by rw [aa5];omega),kM h]
theorem Nb {c0:List Int×List Bool×List Int×Nat×Nat×Int×Int×Int×Int×Int×Int×List Ev×List Int} {n cap i:Nat} {H:List Ev} {W:List Int} {u fr:List Int} {us:List Bool} {x:Ev}
 (c:lP n H W) (hi:i<n) (hx:pq x) (x0:0<=x.ix) (x1:x.ix<ag8 W) (l1:(ag8 c0.2.2.2.2.2.2.2.2.2.2.2.1)=ag8 H) (l2:(ag8 c0.2.2.2.2.2.2.2.2.2.2.2.2)=ag8 W):
 fq c0 ((i:Int),((2*i+1:Nat):Int),H,W,u,us,fr,n,cap,x)=
  agd (if 2*i+1<n/\less H[gI n H i]! x then .next (((gI n H i:Nat):Int),((2*gI n H i+1:Nat):Int),H.set i H[gI n H i]!,W.set (H[gI n H i]!).n (i:Int),u,us,fr,n,cap,x)
   else .done (.done (H.set i x,W.set x.n (i:Int)))):=by
 have hb:=c.hb;have Qt:=c.hn;have fin:(bJ (u,us,fr,n,cap,(i:Int),x.1,x.2.1,x.2.2.1,x.2.2.2.1,x.2.2.2.2,H,W))=agd (H.set i x,W.set x.n (i:Int)):=Ea (cap:=cap) (by omega) c.hn x0 x1;have ln1:(H.set i x).length=(ag8 c0.2.2.2.2.2.2.2.2.2.2.2.1):=by rw [lw];omega
 have ln2:(W.set x.n (i:Int)).length=(ag8 c0.2.2.2.2.2.2.2.2.2.2.2.2):=by rw [lw];omega
 unfold fq;simp only [ay,fin,ao,ln1,ln2,beq_self_eq_true,kw]
 by_cases h1:2*i+1<n
 · have e1:ah2 (((2*i+1:Nat):Int)<(n:Int))=agN:=by simp;omega
   have e2:ai .i64 (((2*i+1:Nat):Int)+1)=((2*i+2:Nat):Int):=aT (by omega);obtain ⟨pX,a1,a2⟩:=c.ev (2*i+1) h1;have g1:=fx (l:=H) (n:=n) (i:=2*i+1) (by omega) c.hn;have s1:(bJ (u,us,fr,n,cap,(i:Int),(H[2*i+1]!).1,(H[2*i+1]!).2.1,(H[2*i+1]!).2.2.1,(H[2*i+1]!).2.2.2.1,(H[2*i+1]!).2.2.2.2,H,W))=agd (H.set i H[2*i+1]!,W.set (H[2*i+1]!).n (i:Int)):=Ea (cap:=cap) (by omega) c.hn a1 a2;simp only [e1,e2,kw,g1,ao,s1,cY pX hx,I1,uA (show 2*i+1<1000000000 by omega)]
   by_cases h2:2*i+2<n
   · have e3:ah2 (((2*i+2:Nat):Int)<(n:Int))=agN:=by simp;omega
     obtain ⟨TJ,b1,b2⟩:=c.ev (2*i+2) h2;have g2:=fx (l:=H) (n:=n) (i:=2*i+2) (by omega) c.hn;have s2:(bJ (u,us,fr,n,cap,(i:Int),(H[2*i+2]!).1,(H[2*i+2]!).2.1,(H[2*i+2]!).2.2.1,(H[2*i+2]!).2.2.2.1,(H[2*i+2]!).2.2.2.2,H,W))=agd (H.set i H[2*i+2]!,W.set (H[2*i+2]!).n (i:Int)):=Ea (cap:=cap) (by omega) c.hn b1 b2;simp only [e3,kw,g2,ao,s2,cY TJ hx,cY TJ pX,CW,I1,uA (show 2*i+2<1000000000 by omega)]
     by_cases h3:less H[2*i+2]! H[2*i+1]!
     · have k:gI n H i=2*i+2:=by unfold gI;rw [lm ⟨h2,h3⟩]
       rw [k]
       by_cases h4:less H[2*i+2]! x
       · simp only [h1,h3,h4,decide_true,kw,lc,If,and_self,if_true]
       simp only [h1,h3,h4,decide_true,decide_false,kw,Do,and_false,if_false]
     have k:gI n H i=2*i+1:=by unfold gI;rw [ls (fun h=>h3 h.2)]
     rw [k]
     by_cases h4:less H[2*i+1]! x
     · simp only [h1,h3,h4,decide_true,decide_false,lc,If,and_self,if_true]
     simp only [h1,h3,h4,decide_false,kw,lc,Do,and_false,if_false]
   have e3:ah2 (((2*i+2:Nat):Int)<(n:Int))=agY:=by simp;omega
   have k:gI n H i=2*i+1:=by unfold gI;rw [ls (fun h=>h2 h.1)]
   rw [k];simp only [e3,lc]
   by_cases h4:less H[2*i+1]! x
   · simp only [h1,h4,decide_true,lc,If,and_self,if_true]
   simp only [h1,h4,decide_false,kw,Do,and_false,if_false]
 have e1:ah2 (((2*i+1:Nat):Int)<(n:Int))=agY:=by simp;omega
 rw [ls (fun h=>h1 h.1),e1];rfl
theorem wT {c0 : List Int × List Bool × List Int × Nat × Nat × Int × Int × Int × Int × Int × Int × List Ev × List Int} {n cap : Nat} {u fr : List Int} {us : List Bool} {x : Ev} (hx : pq x) (x0 : 0 <= x.ix) :
    ∀ (d i : Nat) (H : List Ev) (W : List Int), n - i <= d -> lP n H W -> (ag8 c0.2.2.2.2.2.2.2.2.2.2.2.1) = (ag8 H) -> i < n -> x.ix < (ag8 W) -> (ag8 c0.2.2.2.2.2.2.2.2.2.2.2.2) = (ag8 W) ->
      aB (fq c0) ((i : Int), ((2 * i + 1 : Nat) : Int), H, W, u, us, fr, n, cap, x) = agd (.done ((dv n x i H W).2.1.set (dv n x i H W).1 x, (dv n x i H W).2.2.set x.n ((dv n x i H W).1 : Int)))
  | 0, i, H, W, hd, c, hn, hi, x1, l2 => by omega
  | d + 1, i, H, W, hd, c, hn, hi, x1, l2 => by
    have r := Nb (u := u) (us := us) (fr := fr) (cap := cap) c hi hx x0 x1 hn l2
    by_cases h : 2 * i + 1 < n /\ less H[gI n H i]! x
    · rw [lm h] at r
      have kc := nF n H i
      have kn : gI n H i < n := by omega
      rw [aV r, wT hx x0 d (gI n H i) _ _ (by omega) (c.move hi kn _ _) (by rw [lw]; exact hn) kn (by rw [lw]; exact x1) (by rw [lw]; exact l2)]
      have e : dv n x i H W = dv n x (gI n H i) (H.set i H[gI n H i]!) (W.set (H[gI n H i]!).n (i : Int)) := by
        rw [dv, dif_pos h.1, lm h.2]
      rw [e]
    rw [ls h] at r
    rw [aC r]
    have e : dv n x i H W = (i, H, W) := by
      rw [dv]
      split
      · rename_i h1; rw [ls (fun k => h ⟨h1, k⟩)]
      rfl
    rw [e]
theorem F6 {c0 : List Int × List Bool × List Int × Nat × Nat × Int × Int × Int × Int × Int × Int × List Ev × List Int} {n cap : Nat} {u fr : List Int} {us : List Bool} {x : Ev} (hx : pq x) (x0 : 0 <= x.ix) :
    ∀ (i : Nat) (H : List Ev) (W : List Int), lP n H W -> (ag8 c0.2.2.2.2.2.2.2.2.2.2.2.1) = (ag8 H) -> i < n -> x.ix < (ag8 W) -> (ag8 c0.2.2.2.2.2.2.2.2.2.2.2.2) = (ag8 W) ->
      aB (dU c0) ((i : Int), H, W, u, us, fr, n, cap, x) = agd (bV n x i H W)
  | 0, H, W, c, hn, hi, x1, l2 => by
    have hb := c.hb
    have Qt := c.hn
    have dn := wT (u := u) (us := us) (fr := fr) (cap := cap) hx x0 n 0 H W (by omega) c hn hi x1 l2
    refine (aC (r := bV n x 0 H W) ?_)
    unfold dU
    have e1 : ah2 ((0 : Int) < ((0 : Nat) : Int)) = agY := by simp
    simp only [e1, lc, uA (show 0 < 1000000000 by omega)]
    rw [dn]
    unfold bV
    rw [iy]
  | i + 1, H, W, c, hn, hi, x1, l2 => by
    have hb := c.hb
    have Qt := c.hn
    have e1 : ah2 ((0 : Int) < ((i + 1 : Nat) : Int)) = agN := decide_eq_true (by omega)
    have hp : i / 2 < n := by omega
    obtain ⟨pX, a1, a2⟩ := c.ev (i / 2) hp
    have g1 := fx (l := H) (n := n) (i := i / 2) (by omega) c.hn
    have s1 : (bJ (u, us, fr, n, cap, ((i + 1 : Nat) : Int), (H[i / 2]!).1, (H[i / 2]!).2.1, (H[i / 2]!).2.2.1, (H[i / 2]!).2.2.2.1, (H[i / 2]!).2.2.2.2, H, W)) = agd (H.set (i + 1) H[i / 2]!, W.set (H[i / 2]!).n ((i + 1 : Nat) : Int)) := Ea (cap := cap) (by omega) c.hn a1 a2
    by_cases h : less x H[i / 2]!
    · have r : dU c0 (((i + 1 : Nat) : Int), H, W, u, us, fr, n, cap, x) = agd (.next (((i / 2 : Nat) : Int), H.set (i + 1) H[i / 2]!, W.set (H[i / 2]!).n ((i + 1 : Nat) : Int), u, us, fr, n, cap, x)) := by
        unfold dU
        simp only [e1, kw, qO (show i < 1000000000 by omega), g1, ao, cY hx pX, CW, h, decide_true, s1]
      rw [aV r, F6 hx x0 (i / 2) _ _ (c.move hi hp _ _) (by rw [lw]; exact hn) hp (by rw [lw]; exact x1) (by rw [lw]; exact l2)]
      have e : iy x (i + 1) H W = iy x (i / 2) (H.set (i + 1) H[i / 2]!) (W.set (H[i / 2]!).n ((i + 1 : Nat) : Int)) := by
        rw [iy, lm h]
      unfold bV
      rw [e]
    have dn := wT (u := u) (us := us) (fr := fr) (cap := cap) hx x0 n (i + 1) H W (by omega) c hn hi x1 l2
    refine (aC (r := bV n x (i + 1) H W) ?_)
    unfold dU
    simp only [e1, kw, qO (show i < 1000000000 by omega), g1, ao, cY hx pX, CW, h, decide_false, lc, uA (show i + 1 < 1000000000 by omega)]
    rw [dn]
    unfold bV
    rw [iy, ls h]
termination_by i=>i
decreasing_by omega
theorem Nc {n cap:Nat} {u fr:List Int} {us:List Bool} {x:Ev} (hx:pq x) (x0:0<=x.ix) {i:Nat} {H:List Ev} {W:List Int} (c:lP n H W) (hi:i<n) (x1:x.ix<ag8 W):
 ju (u,us,fr,n,cap,(i:Int),x.1,x.2.1,x.2.2.1,x.2.2.2.1,x.2.2.2.2,H,W)=agd (bV n x i H W):=by
 unfold ju;exact F6 hx x0 i H W c rfl hi x1 rfl
theorem F7 {n cap:Nat} {H:List Ev} {W:List Int} {x:Ev} {u fr:List Int} {us:List Bool} {i k:Nat} (hi:i<n) (hk:k<n) (OP:k≠i) (hn:n<=ag8 H) (x0:0<=x.ix) (x1:x.ix<ag8 W) (k0:0<=(H[k]!).ix) (k1:(H[k]!).ix<ag8 W):
 gY (u,us,fr,n,cap,(i:Int),(k:Int),H.set i x,W.set x.n (i:Int))=agd ((H.set i H[k]!).set k x,(W.set (H[k]!).n (i:Int)).set x.n (k:Int)):=by
 have cell: ∀w,(H.set i x)[w]! =if w=i then x else H[w]!:=by
  intro w;rw [bg]
  by_cases e:w=i
  · rw [lm ⟨e,by omega⟩,lm e]
  rw [ls (fun k=>e k.1),ls e]
 have sh:((H.set i x).set i H[k]!).set k x=(H.set i H[k]!).set k x:=by rw [aa1]
 have sw:((W.set x.n (i:Int)).set (H[k]!).n (i:Int)).set x.n (k:Int)=(W.set (H[k]!).n (i:Int)).set x.n (k:Int):=by
  by_cases e:x.n=(H[k]!).n
  · simp only [e,aa1]
  rw [abU _ _ (fun h=>e h),aa1]
 have g1:aG ((H.set i x).take n) (k:Int)=agd H[k]!:=by rw [fx (by omega) (by rw [lw];omega),cell,ls OP]
 have g2:aG ((H.set i x).take n) (i:Int)=agd x:=by rw [fx (by omega) (by rw [lw];omega),cell,lm rfl]
 have g3:aG (((H.set i x).set i H[k]!).take n) (k:Int)=agd H[k]!:=by rw [fx (by omega) (by rw [lw,lw];omega),bg,ls (fun h=>OP h.1),cell,ls OP]
 have g4:aG (((H.set i H[k]!).set k x).take n) (i:Int)=agd H[k]!:=by rw [fx (by omega) (by rw [lw,lw];omega),bg,ls (fun h=>OP h.1.symm),bg,lm ⟨rfl,by omega⟩]
 have g5:aG (((H.set i H[k]!).set k x).take n) (k:Int)=agd x:=by rw [fx (by omega) (by rw [lw,lw];omega),bg,lm ⟨rfl,by rw [lw];omega⟩]
 have w6:=de (l:=W.set x.n (i:Int)) k0 (by rw [lw];exact k1);have w7:=de (l:=(W.set x.n (i:Int)).set (H[k]!).n (i:Int)) x0 (by rw [lw,lw];exact x1);have q1: ∀(l:List Int) (a:Int) (y:Ev),cj l y.2.2.2.1 a=l.set y.n a:=fun _ _ _=>rfl
 unfold gY;simp only [qC,g1,g2,g3,ao,sh,g4,g5,q1,w6,w7,sw,lw,beq_self_eq_true,kw]
theorem TK {c0:List Int×List Bool×List Int×Nat×Nat×Int×List Ev×List Int} {n cap:Nat} {u fr:List Int} {us:List Bool} {x:Ev} (hx:pq x) (x0:0<=x.ix):
 ∀(i:Nat) (H:List Ev) (W:List Int),lP n H W->i<n->x.ix<ag8 W->ag8 c0.2.2.2.2.2.2.1=ag8 H->ag8 c0.2.2.2.2.2.2.2=ag8 W->
  aB (gp c0) ((i:Int),H.set i x,W.set x.n (i:Int),u,us,fr,n,cap)=agd (((iy x i H W).1:Int),(iy x i H W).2.1.set (iy x i H W).1 x,(iy x i H W).2.2.set x.n ((iy x i H W).1:Int))
 |0,H,W,c,hi,x1,l1,l2=>by
  have Qt:=c.hn;refine aC ?_;unfold gp;have e1:ah2 ((0:Int)<((0:Nat):Int))=agY:=by simp
  rw [iy];simp only [e1,lc,lw,l1,l2,beq_self_eq_true,kw]
 |i+1,H,W,c,hi,x1,l1,l2=>by
  have hb:=c.hb;have Qt:=c.hn;have e1:ah2 ((0:Int)<((i+1:Nat):Int))=agN:=decide_eq_true (by omega);have hp:i / 2<n:=by omega
  have dM:i / 2≠i+1:=by omega
  obtain ⟨pX,a1,a2⟩:=c.ev (i / 2) hp;have cell: ∀w,(H.set (i+1) x)[w]! =if w=i+1 then x else H[w]!:=by
   intro w;rw [bg]
   by_cases e:w=i+1
   · rw [lm ⟨e,by omega⟩,lm e]
   rw [ls (fun k=>e k.1),ls e]
  have g0:aG ((H.set (i+1) x).take n) ((i+1:Nat):Int)=agd x:=by rw [fx (by omega) (by rw [lw];omega),cell,lm rfl]
  have g1:aG ((H.set (i+1) x).take n) ((i / 2:Nat):Int)=agd H[i / 2]!:=by rw [fx (by omega) (by rw [lw];omega),cell,ls dM]
  by_cases h:less x H[i / 2]!
  · have sw:=F7 (cap:=cap) (u:=u) (us:=us) (fr:=fr) (x:=x) hi hp dM Qt x0 x1 a1 a2
    have r:gp c0 (((i+1:Nat):Int),H.set (i+1) x,W.set x.n ((i+1:Nat):Int),u,us,fr,n,cap)=agd (.next (((i / 2:Nat):Int),(H.set (i+1) H[i / 2]!).set (i / 2) x,(W.set (H[i / 2]!).n ((i+1:Nat):Int)).set x.n ((i / 2:Nat):Int),u,us,fr,n,cap)):=by unfold gp;simp only [e1,kw,qO (show i<1000000000 by omega),g0,g1,ao,mT hx pX,h,decide_true,sw]
    rw [aV r,TK hx x0 (i / 2) _ _ (c.move hi hp _ _) hp (by rw [lw];exact x1) (by rw [lw];exact l1) (by rw [lw];exact l2)];have e:iy x (i+1) H W=iy x (i / 2) (H.set (i+1) H[i / 2]!) (W.set (H[i / 2]!).n ((i+1:Nat):Int)):=by rw [iy,lm h]
    rw [e]
  refine aC ?_
  unfold gp;have e:iy x (i+1) H W=(i+1,H,W):=by rw [iy,ls h]
  rw [e];simp only [e1,kw,qO (show i<1000000000 by omega),g0,g1,ao,mT hx pX,h,decide_false,lc,lw,l1,l2,beq_self_eq_true]
termination_by i=>i
decreasing_by omega
theorem K2 {c0:List Int×List Bool×List Int×Nat×Nat×Int×List Ev×List Int} {n cap:Nat} {u fr:List Int} {us:List Bool} {x:Ev} (hx:pq x) (x0:0<=x.ix):
 ∀(d i:Nat) (H:List Ev) (W:List Int),n-i<=d->lP n H W->i<n->x.ix<ag8 W->ag8 c0.2.2.2.2.2.2.1=ag8 H->ag8 c0.2.2.2.2.2.2.2=ag8 W->
  aB (jx c0) ((i:Int),H.set i x,W.set x.n (i:Int),u,us,fr,n,cap)=agd (((dv n x i H W).2.1.set (dv n x i H W).1 x,(dv n x i H W).2.2.set x.n ((dv n x i H W).1:Int)))
 |0,i,H,W,hd,c,hi,x1,l1,l2=>by omega
 |d+1,i,H,W,hd,c,hi,x1,l1,l2=>by
  have hb:=c.hb;have Qt:=c.hn;have cell: ∀w,(H.set i x)[w]! =if w=i then x else H[w]!:=by
   intro w;rw [bg]
   by_cases e:w=i
   · rw [lm ⟨e,by omega⟩,lm e]
   rw [ls (fun k=>e k.1),ls e]
  have TL:(H.set i x).length=(ag8 H):=lw;have body:jx c0 ((i:Int),H.set i x,W.set x.n (i:Int),u,us,fr,n,cap)=agd (if 2*i+1<n/\less H[gI n H i]! x then .next (((gI n H i:Nat):Int),(H.set i H[gI n H i]!).set (gI n H i) x,(W.set (H[gI n H i]!).n (i:Int)).set x.n ((gI n H i:Nat):Int),u,us,fr,n,cap) else .done ((H.set i x,W.set x.n (i:Int)))):=by
   have k1:=uA (show i<1000000000 by omega);unfold jx
   by_cases h1:2*i+1<n
   · have e1:ah2 ((n:Int)<=((2*i+1:Nat):Int))=agY:=decide_eq_false (by omega)
     have e2:ai .i64 (((2*i+1:Nat):Int)+1)=((2*i+2:Nat):Int):=aT (by omega);obtain ⟨pX,a1,a2⟩:=c.ev (2*i+1) h1;have g0:aG ((H.set i x).take n) (i:Int)=agd x:=by rw [fx (by omega) (by rw [lw];omega),cell,lm rfl]
     have g1:aG ((H.set i x).take n) ((2*i+1:Nat):Int)=agd H[2*i+1]!:=by rw [fx (by omega) (by rw [lw];omega),cell,ls (by omega)]
     have s1:=F7 (cap:=cap) (u:=u) (us:=us) (fr:=fr) (x:=x) hi h1 (by omega) Qt x0 x1 a1 a2;simp only [ay,k1,TL,e1,e2,lc,g0,g1,ao,mT pX hx,s1,lw,l1,l2,beq_self_eq_true,kw]
     by_cases h2:2*i+2<n
     · have e3:ah2 (((2*i+2:Nat):Int)<(n:Int))=agN:=decide_eq_true (by omega)
       obtain ⟨TJ,b1,b2⟩:=c.ev (2*i+2) h2;have g2:aG ((H.set i x).take n) ((2*i+2:Nat):Int)=agd H[2*i+2]!:=by rw [fx (by omega) (by rw [lw];omega),cell,ls (by omega)]
       have s2:=F7 (cap:=cap) (u:=u) (us:=us) (fr:=fr) (x:=x) hi h2 (by omega) Qt x0 x1 b1 b2;simp only [e3,kw,g2,ao,s2,mT TJ hx,mT TJ pX]
       by_cases h3:less H[2*i+2]! H[2*i+1]!
       · have k:gI n H i=2*i+2:=by unfold gI;rw [lm ⟨h2,h3⟩]
         rw [k]
         by_cases h4:less H[2*i+2]! x
         · simp only [h1,h3,h4,decide_true,kw,lc,If,and_self,if_true]
         simp only [h1,h3,h4,decide_true,decide_false,kw,Do,and_false,if_false]
       have k:gI n H i=2*i+1:=by unfold gI;rw [ls (fun h=>h3 h.2)]
       rw [k]
       by_cases h4:less H[2*i+1]! x
       · simp only [h1,h3,h4,decide_true,decide_false,lc,If,and_self,if_true]
       simp only [h1,h3,h4,decide_false,kw,lc,Do,and_false,if_false]
     have e3:ah2 (((2*i+2:Nat):Int)<(n:Int))=agY:=decide_eq_false (by omega)
     have k:gI n H i=2*i+1:=by unfold gI;rw [ls (fun h=>h2 h.1)]
     rw [k];simp only [e3,lc]
     by_cases h4:less H[2*i+1]! x
     · simp only [h1,h4,decide_true,lc,If,and_self,if_true]
     simp only [h1,h4,decide_false,kw,Do,and_false,if_false]
   have e1:ah2 ((n:Int)<=((2*i+1:Nat):Int))=agN:=decide_eq_true (by omega)
   rw [ls (fun h=>h1 h.1)];simp only [ay,k1,TL,e1,kw,lw,l1,l2,beq_self_eq_true]
  by_cases h:2*i+1<n/\less H[gI n H i]! x
  · rw [lm h] at body
    have kc:=nF n H i;have kn:gI n H i<n:=by omega
    rw [aV body,K2 hx x0 d (gI n H i) _ _ (by omega) (c.move hi kn _ _) kn (by rw [lw];exact x1) (by rw [lw];exact l1) (by rw [lw];exact l2)];have e:dv n x i H W=dv n x (gI n H i) (H.set i H[gI n H i]!) (W.set (H[gI n H i]!).n (i:Int)):=by rw [dv,dif_pos h.1,lm h.2]
    rw [e]
  rw [ls h] at body
  rw [aC body];have e:dv n x i H W=(i,H,W):=by
   rw [dv];split
   · rename_i h1;rw [ls (fun k=>h ⟨h1,k⟩)]
   rfl
  rw [e]
theorem BL {n:Nat} {H:List Ev} {W:List Int} {x:Ev} {u fr:List Int} {us:List Bool} {i k:Nat} (hi:i<n) (hk:k<n) (OP:k≠i) (hn:n=ag8 H) (x0:0<=x.ix) (x1:x.ix<ag8 W) (k0:0<=(H[k]!).ix) (k1:(H[k]!).ix<ag8 W):
 fM ((i:Int),(k:Int),u,us,fr,H.set i x,W.set x.n (i:Int))=agd (u,us,fr,(H.set i H[k]!).set k x,(W.set (H[k]!).n (i:Int)).set x.n (k:Int)):=by
 have cell: ∀w,(H.set i x)[w]! =if w=i then x else H[w]!:=by
  intro w;rw [bg]
  by_cases e:w=i
  · rw [lm ⟨e,by omega⟩,lm e]
  rw [ls (fun k=>e k.1),ls e]
 have sh:((H.set i x).set i H[k]!).set k x=(H.set i H[k]!).set k x:=by rw [aa1]
 have sw:((W.set x.n (i:Int)).set (H[k]!).n (i:Int)).set x.n (k:Int)=(W.set (H[k]!).n (i:Int)).set x.n (k:Int):=by
  by_cases e:x.n=(H[k]!).n
  · simp only [e,aa1]
  rw [abU _ _ (fun h=>e h),aa1]
 have g1:aG ((H.set i x)) (k:Int)=agd H[k]!:=by rw [aq _ _ (by rw [lw];omega),cell,ls OP]
 have g2:aG ((H.set i x)) (i:Int)=agd x:=by rw [aq _ _ (by rw [lw];omega),cell,lm rfl]
 have g3:aG (((H.set i x).set i H[k]!)) (k:Int)=agd H[k]!:=by rw [aq _ _ (by rw [lw,lw];omega),bg,ls (fun h=>OP h.1),cell,ls OP]
 have g4:aG (((H.set i H[k]!).set k x)) (i:Int)=agd H[k]!:=by rw [aq _ _ (by rw [lw,lw];omega),bg,ls (fun h=>OP h.1.symm),bg,lm ⟨rfl,by omega⟩]
 have g5:aG (((H.set i H[k]!).set k x)) (k:Int)=agd x:=by rw [aq _ _ (by rw [lw,lw];omega),bg,lm ⟨rfl,by rw [lw];omega⟩]
 have w6:=de (l:=W.set x.n (i:Int)) k0 (by rw [lw];exact k1);have w7:=de (l:=(W.set x.n (i:Int)).set (H[k]!).n (i:Int)) x0 (by rw [lw,lw];exact x1);have q1: ∀(l:List Int) (a:Int) (y:Ev),cj l y.2.2.2.1 a=l.set y.n a:=fun _ _ _=>rfl
 unfold fM;simp only [qC,g1,g2,g3,ao,sh,g4,g5,q1,w6,w7,sw,lw,beq_self_eq_true,kw]
theorem TM {c0:Int×List Int×List Bool×List Int×List Ev×List Int} {n:Nat} {u fr:List Int} {us:List Bool} {x:Ev} (hx:pq x) (x0:0<=x.ix) (l3:(ag8 c0.2.1)=ag8 u) (l4:(ag8 c0.2.2.1)=ag8 us) (l5:(ag8 c0.2.2.2.1)=ag8 fr):
 ∀(i:Nat) (H:List Ev) (W:List Int),lP n H W->i<n->ag8 H=n->x.ix<ag8 W->ag8 c0.2.2.2.2.1=ag8 H->ag8 c0.2.2.2.2.2=ag8 W->
  aB (gq c0) ((i:Int),u,us,fr,H.set i x,W.set x.n (i:Int))=agd (((iy x i H W).1:Int),u,us,fr,(iy x i H W).2.1.set (iy x i H W).1 x,(iy x i H W).2.2.set x.n ((iy x i H W).1:Int))
 |0,H,W,c,hi,OQ,x1,l1,l2=>by
  have Qt:=c.hn;refine aC ?_;unfold gq;have e1:ah2 ((0:Int)<((0:Nat):Int))=agY:=by simp
  rw [iy];simp only [e1,lc,lw,l1,l2,l3,l4,l5,beq_self_eq_true,kw]
 |i+1,H,W,c,hi,OQ,x1,l1,l2=>by
  have hb:=c.hb;have Qt:=c.hn;have e1:ah2 ((0:Int)<((i+1:Nat):Int))=agN:=decide_eq_true (by omega);have hp:i / 2<n:=by omega
  have dM:i / 2≠i+1:=by omega
  obtain ⟨pX,a1,a2⟩:=c.ev (i / 2) hp;have cell: ∀w,(H.set (i+1) x)[w]! =if w=i+1 then x else H[w]!:=by
   intro w;rw [bg]
   by_cases e:w=i+1
   · rw [lm ⟨e,by omega⟩,lm e]
   rw [ls (fun k=>e k.1),ls e]
  have g0:aG ((H.set (i+1) x)) ((i+1:Nat):Int)=agd x:=by rw [aq _ _ (by rw [lw];omega),cell,lm rfl]
  have g1:aG ((H.set (i+1) x)) ((i / 2:Nat):Int)=agd H[i / 2]!:=by rw [aq _ _ (by rw [lw];omega),cell,ls dM]
  by_cases h:less x H[i / 2]!
  · have sw:=BL (u:=u) (us:=us) (fr:=fr) (x:=x) hi hp dM OQ.symm x0 x1 a1 a2
    have r:gq c0 (((i+1:Nat):Int),u,us,fr,H.set (i+1) x,W.set x.n ((i+1:Nat):Int))=agd (.next (((i / 2:Nat):Int),u,us,fr,(H.set (i+1) H[i / 2]!).set (i / 2) x,(W.set (H[i / 2]!).n ((i+1:Nat):Int)).set x.n ((i / 2:Nat):Int))):=by unfold gq;simp only [e1,kw,qO (show i<1000000000 by omega),g0,g1,ao,mT hx pX,h,decide_true,sw]
    rw [aV r,TM hx x0 l3 l4 l5 (i / 2) _ _ (c.move hi hp _ _) hp (by rw [lw];exact OQ) (by rw [lw];exact x1) (by rw [lw];exact l1) (by rw [lw];exact l2)];have e:iy x (i+1) H W=iy x (i / 2) (H.set (i+1) H[i / 2]!) (W.set (H[i / 2]!).n ((i+1:Nat):Int)):=by rw [iy,lm h]
    rw [e]
  refine aC ?_
  unfold gq;have e:iy x (i+1) H W=(i+1,H,W):=by rw [iy,ls h]
  rw [e];simp only [e1,kw,qO (show i<1000000000 by omega),g0,g1,ao,mT hx pX,h,decide_false,lc,lw,l1,l2,l3,l4,l5,beq_self_eq_true]
termination_by i=>i
decreasing_by omega
theorem K3 {c0:Int×List Int×List Bool×List Int×List Ev×List Int} {n:Nat} {u fr:List Int} {us:List Bool} {x:Ev} (hx:pq x) (x0:0<=x.ix) (l3:(ag8 c0.2.1)=ag8 u) (l4:(ag8 c0.2.2.1)=ag8 us) (l5:(ag8 c0.2.2.2.1)=ag8 fr):
 ∀(d i:Nat) (H:List Ev) (W:List Int),n-i<=d->lP n H W->i<n->ag8 H=n->x.ix<ag8 W->ag8 c0.2.2.2.2.1=ag8 H->ag8 c0.2.2.2.2.2=ag8 W->
  aB (jy c0) ((i:Int),u,us,fr,H.set i x,W.set x.n (i:Int))=agd ((u,us,fr,(dv n x i H W).2.1.set (dv n x i H W).1 x,(dv n x i H W).2.2.set x.n ((dv n x i H W).1:Int)))
 |0,i,H,W,hd,c,hi,OQ,x1,l1,l2=>by omega
 |d+1,i,H,W,hd,c,hi,OQ,x1,l1,l2=>by
  have hb:=c.hb;have Qt:=c.hn;have cell: ∀w,(H.set i x)[w]! =if w=i then x else H[w]!:=by
   intro w;rw [bg]
   by_cases e:w=i
   · rw [lm ⟨e,by omega⟩,lm e]
   rw [ls (fun k=>e k.1),ls e]
  have TL:(H.set i x).length=(ag8 H):=lw;have body:jy c0 ((i:Int),u,us,fr,H.set i x,W.set x.n (i:Int))=agd (if 2*i+1<n/\less H[gI n H i]! x then .next (((gI n H i:Nat):Int),u,us,fr,(H.set i H[gI n H i]!).set (gI n H i) x,(W.set (H[gI n H i]!).n (i:Int)).set x.n ((gI n H i:Nat):Int)) else .done ((u,us,fr,H.set i x,W.set x.n (i:Int)))):=by
   have k1:=uA (show i<1000000000 by omega);unfold jy
   by_cases h1:2*i+1<n
   · have e1:ah2 ((n:Int)<=((2*i+1:Nat):Int))=agY:=decide_eq_false (by omega)
     have e2:ai .i64 (((2*i+1:Nat):Int)+1)=((2*i+2:Nat):Int):=aT (by omega);obtain ⟨pX,a1,a2⟩:=c.ev (2*i+1) h1;have g0:aG ((H.set i x)) (i:Int)=agd x:=by rw [aq _ _ (by rw [lw];omega),cell,lm rfl]
     have g1:aG ((H.set i x)) ((2*i+1:Nat):Int)=agd H[2*i+1]!:=by rw [aq _ _ (by rw [lw];omega),cell,ls (by omega)]
     have s1:=BL (u:=u) (us:=us) (fr:=fr) (x:=x) hi h1 (by omega) OQ.symm x0 x1 a1 a2;simp only [ay,k1,TL,OQ,e1,e2,lc,g0,g1,ao,mT pX hx,s1,lw,l1,l2,l3,l4,l5,beq_self_eq_true,kw]
     by_cases h2:2*i+2<n
     · have e3:ah2 (((2*i+2:Nat):Int)<(n:Int))=agN:=decide_eq_true (by omega)
       obtain ⟨TJ,b1,b2⟩:=c.ev (2*i+2) h2;have g2:aG ((H.set i x)) ((2*i+2:Nat):Int)=agd H[2*i+2]!:=by rw [aq _ _ (by rw [lw];omega),cell,ls (by omega)]
       have s2:=BL (u:=u) (us:=us) (fr:=fr) (x:=x) hi h2 (by omega) OQ.symm x0 x1 b1 b2;simp only [e3,kw,g2,ao,s2,mT TJ hx,mT TJ pX]
       by_cases h3:less H[2*i+2]! H[2*i+1]!
       · have k:gI n H i=2*i+2:=by unfold gI;rw [lm ⟨h2,h3⟩]
         rw [k]
         by_cases h4:less H[2*i+2]! x
         · simp only [h1,h3,h4,decide_true,kw,lc,If,and_self,if_true]
         simp only [h1,h3,h4,decide_true,decide_false,kw,Do,and_false,if_false]
       have k:gI n H i=2*i+1:=by unfold gI;rw [ls (fun h=>h3 h.2)]
       rw [k]
       by_cases h4:less H[2*i+1]! x
       · simp only [h1,h3,h4,decide_true,decide_false,lc,If,and_self,if_true]
       simp only [h1,h3,h4,decide_false,kw,lc,Do,and_false,if_false]
     have e3:ah2 (((2*i+2:Nat):Int)<(n:Int))=agY:=decide_eq_false (by omega)
     have k:gI n H i=2*i+1:=by unfold gI;rw [ls (fun h=>h2 h.1)]
     rw [k];simp only [e3,lc]
     by_cases h4:less H[2*i+1]! x
     · simp only [h1,h4,decide_true,lc,If,and_self,if_true]
     simp only [h1,h4,decide_false,kw,Do,and_false,if_false]
   have e1:ah2 ((n:Int)<=((2*i+1:Nat):Int))=agN:=decide_eq_true (by omega)
   rw [ls (fun h=>h1 h.1)];simp only [ay,k1,TL,OQ,e1,kw,lw,l1,l2,l3,l4,l5,beq_self_eq_true]
  by_cases h:2*i+1<n/\less H[gI n H i]! x
  · rw [lm h] at body
    have kc:=nF n H i;have kn:gI n H i<n:=by omega
    rw [aV body,K3 hx x0 l3 l4 l5 d (gI n H i) _ _ (by omega) (c.move hi kn _ _) kn (by rw [lw];exact OQ) (by rw [lw];exact x1) (by rw [lw];exact l1) (by rw [lw];exact l2)];have e:dv n x i H W=dv n x (gI n H i) (H.set i H[gI n H i]!) (W.set (H[gI n H i]!).n (i:Int)):=by rw [dv,dif_pos h.1,lm h.2]
    rw [e]
  rw [ls h] at body
  rw [aC body];have e:dv n x i H W=(i,H,W):=by
   rw [dv];split
   · rename_i h1;rw [ls (fun k=>h ⟨h1,k⟩)]
   rfl
  rw [e]
theorem TN {n:Nat} {H:List Ev} {W:List Int} {x:Ev} {u fr:List Int} {us:List Bool} {i k:Nat} (hi:i<n) (hk:k<n) (OP:k≠i) (hn:n=ag8 H) (x0:0<=x.ix) (x1:x.ix<ag8 W) (k0:0<=(H[k]!).ix) (k1:(H[k]!).ix<ag8 W):
 pg (u,us,fr,(i:Int),(k:Int),H.set i x,W.set x.n (i:Int))=agd ((H.set i H[k]!).set k x,(W.set (H[k]!).n (i:Int)).set x.n (k:Int)):=by
 have cell: ∀w,(H.set i x)[w]! =if w=i then x else H[w]!:=by
  intro w;rw [bg]
  by_cases e:w=i
  · rw [lm ⟨e,by omega⟩,lm e]
  rw [ls (fun k=>e k.1),ls e]
 have sh:((H.set i x).set i H[k]!).set k x=(H.set i H[k]!).set k x:=by rw [aa1]
 have sw:((W.set x.n (i:Int)).set (H[k]!).n (i:Int)).set x.n (k:Int)=(W.set (H[k]!).n (i:Int)).set x.n (k:Int):=by
  by_cases e:x.n=(H[k]!).n
  · simp only [e,aa1]
  rw [abU _ _ (fun h=>e h),aa1]
 have g1:aG ((H.set i x)) (k:Int)=agd H[k]!:=by rw [aq _ _ (by rw [lw];omega),cell,ls OP]
 have g2:aG ((H.set i x)) (i:Int)=agd x:=by rw [aq _ _ (by rw [lw];omega),cell,lm rfl]
 have g3:aG (((H.set i x).set i H[k]!)) (k:Int)=agd H[k]!:=by rw [aq _ _ (by rw [lw,lw];omega),bg,ls (fun h=>OP h.1),cell,ls OP]
 have g4:aG (((H.set i H[k]!).set k x)) (i:Int)=agd H[k]!:=by rw [aq _ _ (by rw [lw,lw];omega),bg,ls (fun h=>OP h.1.symm),bg,lm ⟨rfl,by omega⟩]
 have g5:aG (((H.set i H[k]!).set k x)) (k:Int)=agd x:=by rw [aq _ _ (by rw [lw,lw];omega),bg,lm ⟨rfl,by rw [lw];omega⟩]
 have w6:=de (l:=W.set x.n (i:Int)) k0 (by rw [lw];exact k1);have w7:=de (l:=(W.set x.n (i:Int)).set (H[k]!).n (i:Int)) x0 (by rw [lw,lw];exact x1);have q1: ∀(l:List Int) (a:Int) (y:Ev),cj l y.2.2.2.1 a=l.set y.n a:=fun _ _ _=>rfl
 unfold pg;simp only [qC,g1,g2,g3,ao,sh,g4,g5,q1,w6,w7,sw,lw,beq_self_eq_true,kw]
theorem TO {c0:List Int×List Bool×List Int×Int×List Ev×List Int} {n:Nat} {u fr:List Int} {us:List Bool} {x:Ev} (hx:pq x) (x0:0<=x.ix):
 ∀(i:Nat) (H:List Ev) (W:List Int),lP n H W->i<n->ag8 H=n->x.ix<ag8 W->ag8 c0.2.2.2.2.1=ag8 H->ag8 c0.2.2.2.2.2=ag8 W->
  aB (gr c0) ((i:Int),H.set i x,W.set x.n (i:Int),u,us,fr)=agd (((iy x i H W).1:Int),(iy x i H W).2.1.set (iy x i H W).1 x,(iy x i H W).2.2.set x.n ((iy x i H W).1:Int))
 |0,H,W,c,hi,OQ,x1,l1,l2=>by
  have Qt:=c.hn;refine aC ?_;unfold gr;have e1:ah2 ((0:Int)<((0:Nat):Int))=agY:=by simp
  rw [iy];simp only [e1,lc,lw,l1,l2,beq_self_eq_true,kw]
 |i+1,H,W,c,hi,OQ,x1,l1,l2=>by
  have hb:=c.hb;have Qt:=c.hn;have e1:ah2 ((0:Int)<((i+1:Nat):Int))=agN:=decide_eq_true (by omega);have hp:i / 2<n:=by omega
  have dM:i / 2≠i+1:=by omega
  obtain ⟨pX,a1,a2⟩:=c.ev (i / 2) hp;have cell: ∀w,(H.set (i+1) x)[w]! =if w=i+1 then x else H[w]!:=by
   intro w;rw [bg]
   by_cases e:w=i+1
   · rw [lm ⟨e,by omega⟩,lm e]
   rw [ls (fun k=>e k.1),ls e]
  have g0:aG ((H.set (i+1) x)) ((i+1:Nat):Int)=agd x:=by rw [aq _ _ (by rw [lw];omega),cell,lm rfl]
  have g1:aG ((H.set (i+1) x)) ((i / 2:Nat):Int)=agd H[i / 2]!:=by rw [aq _ _ (by rw [lw];omega),cell,ls dM]
  by_cases h:less x H[i / 2]!
  · have sw:=TN (u:=u) (us:=us) (fr:=fr) (x:=x) hi hp dM OQ.symm x0 x1 a1 a2
    have r:gr c0 (((i+1:Nat):Int),H.set (i+1) x,W.set x.n ((i+1:Nat):Int),u,us,fr)=agd (.next (((i / 2:Nat):Int),(H.set (i+1) H[i / 2]!).set (i / 2) x,(W.set (H[i / 2]!).n ((i+1:Nat):Int)).set x.n ((i / 2:Nat):Int),u,us,fr)):=by unfold gr;simp only [e1,kw,qO (show i<1000000000 by omega),g0,g1,ao,mT hx pX,h,decide_true,sw]
    rw [aV r,TO hx x0 (i / 2) _ _ (c.move hi hp _ _) hp (by rw [lw];exact OQ) (by rw [lw];exact x1) (by rw [lw];exact l1) (by rw [lw];exact l2)];have e:iy x (i+1) H W=iy x (i / 2) (H.set (i+1) H[i / 2]!) (W.set (H[i / 2]!).n ((i+1:Nat):Int)):=by rw [iy,lm h]
    rw [e]
  refine aC ?_
  unfold gr;have e:iy x (i+1) H W=(i+1,H,W):=by rw [iy,ls h]
  rw [e];simp only [e1,kw,qO (show i<1000000000 by omega),g0,g1,ao,mT hx pX,h,decide_false,lc,lw,l1,l2,beq_self_eq_true]
termination_by i=>i
decreasing_by omega
theorem aD {p:Prop} [Decidable p] (h: ¬p):decide p=agY:=decide_eq_false h
theorem aI {p:Prop} [Decidable p] (h:p):decide p=agN:=decide_eq_true h
theorem K4 (ar:List Int) (be:List Bool) (fr:List Int) (fl:List Bool) (h1:(ag8 ar)<=200) (h2:(ag8 be)=ag8 ar) (h3:(ag8 fl)=ag8 ar):
 ((∀i,i<ag8 ar->0<=ar[i]!/\ar[i]!<=1000000/\be[i]!≠fl[i]!/\(be[i]! =agN->1<=ar[i]!))->aB jG (((ag8 ar):Int),0,ar,be,fr,fl)=agd (.done 0))/\
 (¬(∀i,i<ag8 ar->0<=ar[i]!/\ar[i]!<=1000000/\be[i]!≠fl[i]!/\(be[i]! =agN->1<=ar[i]!))->aB jG (((ag8 ar):Int),0,ar,be,fr,fl)=agd (.done 8)):=by
 have key:=cN (body:=jG) (fun i=>(((ag8 ar):Int),(i:Int),ar,be,fr,fl)) (ag8 ar) (fun i=> ¬(0<=ar[i]!/\ar[i]!<=1000000/\be[i]!≠fl[i]!/\(be[i]! =agN->1<=ar[i]!))) (r:= .done 8) (e:= .done 0) (fun i hi=>by
  have e1:ah2 ((i:Int)<((ag8 ar):Int))=agN:=aI (by omega);unfold jG;simp only [e1,kw,aq ar i hi,aq be i (by omega),aq fl i (by omega),ao,aT (show i<1000000000 by omega)];generalize ar[i]! =u;generalize be[i]! =a;generalize fl[i]! =b
  by_cases a1:u<0
  · simp only [a1,decide_true,kw];exact ⟨fun _=>trivial,fun h=>absurd (ut.1 h).1 (by omega)⟩
  · by_cases a2:1000000<u
    · simp only [a1,a2,decide_true,decide_false,kw,lc];exact ⟨fun _=>trivial,fun h=>absurd (ut.1 h).2.1 (by omega)⟩
    simp only [a1,a2,decide_false,lc]
    by_cases a3:u<1
    · cases a<;>cases b<;>simp [a3]<;>omega
    cases a<;>cases b<;>simp [a3]<;>omega) (by
  unfold jG;have:ah2 (((ag8 ar):Int)<((ag8 ar):Int))=agY:=aD (by omega);simp only [this,lc])
 constructor
 · intro h
   exact key.2 fun i hi=>ut.2 (h i hi)
 intro h
 obtain ⟨i,h⟩:=EQ.1 h;obtain ⟨hi,hx⟩:=aaH.1 h;exact key.1 ⟨i,hi,hx⟩
theorem TP {α:Type} {n:Nat} (z:α) (h:n<=1048576):sd (n:Int) z=agd (v6 n z):=by unfold sd;rw [lm ⟨by omega,by omega⟩];simp
theorem F8 (s:aS) (hf:(ag8 s.bi)<=1000000):tH s=agd (if ek s then 0 else 8):=by
 obtain ⟨ar,be,fr⟩:=s;dsimp only at hf;unfold tH;simp only [ay]
 by_cases a1:(ag8 ar)<1
 · have e:ah2 (((ag8 ar):Int)<1)=agN:=aI (by omega)
   rw [e,ls (fun h=>by have:=h.n1;dsimp only at this;omega)];rfl
 have e1:ah2 (((ag8 ar):Int)<1)=agY:=aD (by omega)
 by_cases a2:200<ag8 ar
 · have e:ah2 (200<((ag8 ar):Int))=agN:=aI (by omega)
   rw [e1,e,ls (fun h=>by have:=h.n2;dsimp only at this;omega)];rfl
 have e2:ah2 (200<((ag8 ar):Int))=agY:=aD (by omega)
 by_cases a3:(ag8 be)=ag8 ar
 case neg=>have e:(((ag8 be):Int) !=((ag8 ar):Int))=agN:=dd (by omega);rw [e1,e2,e,ls (fun h=>a3 h.ul)];rfl
 have e3:(((ag8 be):Int) !=((ag8 ar):Int))=agY:=bL (by omega)
 by_cases a4:(ag8 ar)<ag8 fr
 · have e:ah2 (((ag8 ar):Int)<((ag8 fr):Int))=agN:=aI (by omega)
   rw [e1,e2,e3,e,ls (fun h=>by have:=h.fl;dsimp only at this;omega)];rfl
 have e4:ah2 (((ag8 ar):Int)<((ag8 fr):Int))=agY:=aD (by omega);simp only [e1,e2,e3,e4,lc,beq_self_eq_true,kw,TP agY (show (ag8 ar)<=1048576 by omega),ao];have ml: ∀k,(marks (v6 (ag8 ar) agY) (fr.take k)).length=(ag8 ar):=fun k=>by rw [mf,PP]
 have ml':(marks (v6 (ag8 ar) agY) fr).length=(ag8 ar):=by rw [mf,PP]
 have rep: ∀i:Nat,(v6 (ag8 ar) agY)[i]! =agY:=by
  intro i
  by_cases h:i<ag8 ar
  · rw [getElem!_pos _ i (by simpa using h),List.getElem_replicate]
  rw [getElem!_neg _ i (by simpa using h)];rfl
 have F0:=K4 ar be fr (marks (v6 (ag8 ar) agY) fr) (by omega) a3 ml';have key:=cN (body:=oq) (fun k=>(((ag8 ar):Int),(k:Int),ar,be,fr,marks (v6 (ag8 ar) agY) (fr.take k))) (ag8 fr)
  (fun k=>fr[k]!<0\/((ag8 ar):Int)<=fr[k]!\/(marks (v6 (ag8 ar) agY) (fr.take k))[(fr[k]!).toNat]! =agN) (r:=8)
  (e:=if (∀i,i<ag8 ar->0<=ar[i]!/\ar[i]!<=1000000/\be[i]!≠(marks (v6 (ag8 ar) agY) fr)[i]!/\(be[i]! =agN->1<=ar[i]!)) then 0 else 8) (fun k hk=>by
   have f1:ah2 ((k:Int)<((ag8 fr):Int))=agN:=aI (by omega);have f5:marks (v6 (ag8 ar) agY) (fr.take (k+1))=cj (marks (v6 (ag8 ar) agY) (fr.take k)) fr[k]! agN:=by rw [dp hk,AP]
   unfold oq;simp only [ay,f1,kw,aq fr k hk,ao,aT (show k<1000000000 by omega),f5];clear f5;generalize fr[k]! =x
   by_cases b1:x<0
   · simp [b1]
   · by_cases b2:((ag8 ar):Int)<=x
     · simp [b1,b2]
     simp only [b1,b2,decide_false,lc,false_or]
     rw [de (l:=marks (v6 (ag8 ar) agY) (fr.take k)) (i:=x) (by omega) (by rw [ml];omega)];simp only [ao];cases (marks (v6 (ag8 ar) agY) (fr.take k))[x.toNat]!<;>simp) (by
   have f1:ah2 (((ag8 fr):Int)<((ag8 fr):Int))=agY:=aD (by omega);unfold oq;simp only [ay,f1,lc,acl]
   by_cases hx:(∀i,i<ag8 ar->0<=ar[i]!/\ar[i]!<=1000000/\be[i]!≠(marks (v6 (ag8 ar) agY) fr)[i]!/\(be[i]! =agN->1<=ar[i]!))
   · rw [lm hx];exact F0.1 hx
   rw [ls hx];exact F0.2 hx)
 have h0:marks (v6 (ag8 ar) agY) (fr.take 0)=v6 (ag8 ar) agY:=rfl;rw [show ((0:Nat):Int)=0 from rfl,h0] at key
 by_cases bad: ∃k,k<ag8 fr/\(fr[k]!<0\/((ag8 ar):Int)<=fr[k]!\/(marks (v6 (ag8 ar) agY) (fr.take k))[(fr[k]!).toNat]! =agN)
 · rw [key.1 bad,ls]
   intro ok;obtain ⟨k,hk,hb⟩:=bad;have hr:=ok.fr fr[k]! (aQ hk);dsimp only at hr;rcases hb with hb|hb|hb
   · omega
   · omega
   rw [nE _ _ _ (fun x hx=>(ok.fr x (aa4 hx)).1) (by rw [PP];omega),rep,ac0] at hb
   have hi:((fr[k]!).toNat:Int)=fr[k]!:=by omega
   rw [hi] at hb;have hm:fr[k]!∈fr.take k:=of_decide_eq_true hb;obtain ⟨j,h1,h2,h3⟩:=bY.1 hm;exact ed.1 ok.fd j k h1 hk h3
 have M': ∀k,k<ag8 fr->0<=fr[k]!/\fr[k]!<ag8 ar/\(marks (v6 (ag8 ar) agY) (fr.take k))[(fr[k]!).toNat]! =agY:=by
  intro k hk;refine ⟨?_,?_,?_⟩
  · exact Int.not_lt.1 fun h=>bad ⟨k,hk,.inl h⟩
  · exact Int.not_le.1 fun h=>bad ⟨k,hk,.inr (.inl h)⟩
  exact abB _▸fun h=>bad ⟨k,hk,.inr (.inr h)⟩
 rw [key.2 fun k hk hb=>bad ⟨k,hk,hb⟩];have rng: ∀x∈fr,0<=x/\x<((ag8 ar):Int):=by intro x hx;obtain ⟨k,hk,rfl⟩:=aO.1 hx;exact ⟨(M' k hk).1,(M' k hk).2.1⟩
 have g2: ∀k,k<ag8 fr->fr[k]!∉fr.take k:=by intro k hk;obtain ⟨c1,c2,c3⟩:=M' k hk;rw [nE _ _ _ (fun x hx=>(rng x (aa4 hx)).1) (by rw [PP];omega),show ((fr[k]!).toNat:Int)=fr[k]! by omega,rep,ac0] at c3;exact of_decide_eq_false c3
 have nd:fr.Nodup:=ed.2 fun i j lS hj he=>g2 j hj (bY.2 ⟨i,lS,by omega,he⟩)
 have fl: ∀i,i<ag8 ar->(marks (v6 (ag8 ar) agY) fr)[i]! =ah2 ((i:Int)∈fr):=by intro i hi;rw [nE _ _ _ (fun x hx=>(rng x hx).1) (by rw [PP];omega),rep,ac0]
 by_cases hx:(∀i,i<ag8 ar->0<=ar[i]!/\ar[i]!<=1000000/\be[i]!≠(marks (v6 (ag8 ar) agY) fr)[i]!/\(be[i]! =agN->1<=ar[i]!))
 · rw [lm hx,lm]
   refine ⟨by show 1<=ag8 ar;omega,by show (ag8 ar)<=200;omega,a3,rng,nd,fun i hi=>?_,fun i hi=>?_⟩
   · have:=(hx i hi).2.2.1
     rw [fl i hi] at this;dsimp only;cases h:be[i]! with
     |true=>rw [h] at this;refine ⟨fun _ hm=>?_,fun _=>rfl⟩;rw [aI hm] at this;exact this rfl
     |false=>rw [h] at this;refine ⟨fun h=>(by cases h),fun hm=>?_⟩;rw [aD hm] at this;exact absurd rfl this
   have:=hx i hi
   exact ⟨this.1,this.2.1,this.2.2.2⟩
 rw [ls hx,ls]
 intro ok;refine hx fun i hi=>?_
 obtain ⟨u1,u2,u3⟩:=ok.us i hi;refine ⟨u1,u2,?_,u3⟩;rw [fl i hi];have:=ok.uf i hi;dsimp only at this;intro he
 by_cases hm:(i:Int)∈fr
 · rw [aI hm] at he;exact (this.1 he) hm
 rw [aD hm] at he
 have:=this.2 hm;rw [he] at this;cases this
structure yA (a:aJ):Prop where
 fr:(ag8 a.ae.bi)<=1000000
 hp:(ag8 a.bv)<=1000000
 wh:(ag8 a.aj)<=1000000
 Nf: ∀w,w<ag8 a.bv->iI ((a.bv[w]!).1,(a.bv[w]!).2.1)
structure dZ (a:aJ):Prop where
 so:ek a.ae
 wl:(ag8 a.aj)=ag8 a.ae.ar
 hl:(ag8 a.bv)+ag8 a.ae.bi=ag8 a.ae.ar
 fwd: ∀i,i<ag8 a.ae.ar->a.ae.be[i]! =agN->0<=a.aj[i]!/\a.aj[i]!<ag8 a.bv/\(Ev.ix a.bv[(a.aj[i]!).toNat]!)=i/\(a.bv[(a.aj[i]!).toNat]!).2.2.2.2=a.ae.ar[i]!
 un: ∀i,i<ag8 a.ae.ar->a.ae.be[i]! =agY->a.aj[i]! = -1
 ev: ∀w,w<ag8 a.bv->pq a.bv[w]!
 nd: ∀v w,v<w->w<ag8 a.bv->(Ev.num a.bv[v]!)≠(Ev.num a.bv[w]!)
 ord: ∀k,0<k->k<ag8 a.bv-> ¬less a.bv[k]! a.bv[(k-1) / 2]!
theorem cover: ∀(n:Nat) (l:List Nat),(∀x,x<n->x∈l)->n<=ag8 l
 |0,_,_=>Nat.zero_le _
 |n+1,l,h=>by have hn:=h n (by omega);have:=cover n (l.erase n) (fun x hx=>by rw [List.mem_erase_of_ne (by omega)];exact h x (by omega));rw [List.length_erase_of_mem hn] at this;have:=List.length_pos_of_mem hn;omega
def HK (s:aS):List Nat:=(List.range (ag8 s.ar)).filter fun i=>s.be[i]!
theorem zf {s:aS} {i:Nat}:i∈HK s↔i<ag8 s.ar/\s.be[i]! =agN:=by unfold HK;rw [acF,List.mem_range]
theorem zg {α β:Type} {f:α->β}: ∀{l:List α},l.Nodup->(∀x∈l,∀y∈l,f x=f y->x=y)->(l.map f).Nodup
 | [],_,_=>by simp
 |a::l,h,hf=>by rw [ab2] at h;rw [List.map_cons,ab2];refine ⟨?_,zg h.2 fun x hx y hy=>hf x (by simp [hx]) y (by simp [hy])⟩;intro hm;obtain ⟨b,hb,e⟩:=aa3.1 hm;have:=hf b (by simp [hb]) a (by simp) e;subst this;exact h.1 hb
theorem dZ.back {a:aJ} (ok:dZ a) {w:Nat} (hw:w<ag8 a.bv):0<=(Ev.ix a.bv[w]!)/\(Ev.ix a.bv[w]!)<ag8 a.ae.ar/\a.ae.be[(Ev.n a.bv[w]!)]! =agN/\a.ae.ar[(Ev.n a.bv[w]!)]! =(a.bv[w]!).2.2.2.2/\a.aj[(Ev.n a.bv[w]!)]! =(w:Int):=by
 have so:=ok.so;have len:(ag8 a.ae.ar)<=(HK a.ae).length+(ag8 a.ae.bi):=by
  have:=cover (ag8 a.ae.ar) (HK a.ae++a.ae.bi.map ag2) (fun x hx=>by
   rw [abD]
   by_cases hu:a.ae.be[x]! =agN
   · exact .inl (zf.2 ⟨hx,hu⟩)
   right
   have:=so.uf x hx;have hm:(x:Int)∈a.ae.bi:=IR fun hc=>hu (this.2 hc)
   exact aa3.2 ⟨_,hm,by omega⟩)
  rw [List.length_append,ab7] at this;exact this
 have f0: ∀i∈HK a.ae,0<=a.aj[i]!/\a.aj[i]!<ag8 a.bv/\(Ev.ix a.bv[(a.aj[i]!).toNat]!)=i/\(a.bv[(a.aj[i]!).toNat]!).2.2.2.2=a.ae.ar[i]!:=fun i hi=>ok.fwd i (zf.1 hi).1 (zf.1 hi).2
 have full:=Dt (n:=ag8 a.bv) (l:=(HK a.ae).map fun i=>(a.aj[i]!).toNat) (by
  refine zg ?_ ?_
  · exact List.Pairwise.filter _ List.nodup_range
  · intro x hx y hy he
    have h1:=(f0 x hx).2.2.1;have h2:=(f0 y hy).2.2.1;rw [he] at h1;omega) (by
  intro x hx;obtain ⟨i,hi,rfl⟩:=aa3.1 hx;have:=f0 i hi;omega) (by
  rw [ab7];have:=ok.hl;omega) w hw
 obtain ⟨i,hi,e⟩:=aa3.1 full;obtain ⟨c1,c2,c3,c4⟩:=f0 i hi;obtain ⟨d1,d2⟩:=zf.1 hi;rw [e] at c3 c4;have hn:(Ev.n a.bv[w]!)=i:=by show ((Ev.ix a.bv[w]!)).toNat=i;omega
 rw [hn];refine ⟨by omega,by omega,d2,c4.symm,by omega⟩
noncomputable def Ng (x y:Ev):Int:=if aW (x.1,x.2.1)/\aW (y.1,y.2.1) then F3 x y else iH x.2.2.1 y.2.2.1
theorem AR {x y:Ev} (hx:iI (x.1,x.2.1)) (hy:iI (y.1,y.2.1)):bQ x y=agd (Ng x y):=by
 unfold bQ Ng F3;rw [CU hx hy]
 by_cases h:aW (x.1,x.2.1)/\aW (y.1,y.2.1)
 · rw [lm h,lm h]
   simp only [ao,iw,zc]
 rw [ls h,ls h]
 simp only [ao,iw,zc];simp
def F9 (a:aJ) (i:Nat):Prop:=(a.ae.be[i]! =agN->0<=a.aj[i]!/\a.aj[i]!<ag8 a.bv/\(Ev.ix a.bv[(a.aj[i]!).toNat]!)=i/\(a.bv[(a.aj[i]!).toNat]!).2.2.2.2=a.ae.ar[i]!)/\(a.ae.be[i]! =agY->a.aj[i]! = -1)
def GW (H:List Ev) (k:Nat):Prop:=aW ((H[k]!).1,(H[k]!).2.1)/\0<=(H[k]!).2.2.1/\(H[k]!).2.2.1<=1000000/\(∀j,j<k->(H[j]!).2.2.1≠(H[k]!).2.2.1)/\(0<k-> ¬Ng H[k]! H[(k-1) / 2]!<0)
theorem dZ.of {a:aJ} (fit:yA a) (so:ek a.ae) (wl:(ag8 a.aj)=ag8 a.ae.ar) (hl:(ag8 a.bv)+ag8 a.ae.bi=ag8 a.ae.ar) (wh: ∀i,i<ag8 a.ae.ar->F9 a i) (hp: ∀k,k<ag8 a.bv->GW a.bv k):dZ a:=by
 have ev: ∀w,w<ag8 a.bv->pq a.bv[w]!:=fun w hw=>⟨(hp w hw).1,fit.Nf w hw,(hp w hw).2.1,(hp w hw).2.2.1⟩
 refine ⟨so,wl,hl,fun i hi=>(wh i hi).1,fun i hi=>(wh i hi).2,ev,fun v w hv hw=>(hp w hw).2.2.2.1 v hv,fun k k0 hk=>?_⟩;have:=(hp k hk).2.2.2.2 k0;unfold Ng at this;rw [lm ⟨(hp k hk).1,(hp ((k-1) / 2) (by omega)).1⟩,BK] at this;exact this
theorem dZ.to {a:aJ} (ok:dZ a):(∀i,i<ag8 a.ae.ar->F9 a i)/\(∀k,k<ag8 a.bv->GW a.bv k):=by refine ⟨fun i hi=>⟨ok.fwd i hi,ok.un i hi⟩,fun k hk=>?_⟩;have e:=ok.ev k hk;refine ⟨e.1,e.2.2.1,e.2.2.2,fun j hj=>ok.nd j k hj hk,fun k0=>?_⟩;unfold Ng;rw [lm ⟨e.1,(ok.ev ((k-1) / 2) (by omega)).1⟩,BK];exact ok.ord k k0 hk
theorem HL (H:List Ev) (k:Nat) (n:Int):nU [n] ((H.take k).map fun x=>[x.2.2.1])=agN:=by unfold nU;rw [List.all_eq_true];intro x hx;obtain ⟨y,hy,rfl⟩:=aa3.1 hx;rfl
theorem HM (H:List Ev) (k:Nat) (n:Int):DM ((H.take k).map fun x=>[x.2.2.1]) [n]=ah2 (∃j,j<k/\j<ag8 H/\(H[j]!).2.2.1=n):=by
 unfold DM;rw [Bool.eq_iff_iff,List.any_eq_true,decide_eq_true_iff];constructor
 · rintro ⟨x,hx,he⟩
   obtain ⟨y,hy,rfl⟩:=aa3.1 hx;obtain ⟨j,h1,h2,rfl⟩:=bY.1 hy;have:[n]=[(H[j]!).2.2.1]:=by simpa using he
   exact ⟨j,h1,h2,by injection this with h;exact h.symm⟩
 rintro ⟨j,h1,h2,h3⟩
 refine ⟨[(H[j]!).2.2.1],aa3.2 ⟨H[j]!,bY.2 ⟨j,h1,h2,rfl⟩,rfl⟩,?_⟩;rw [h3];simp
theorem I2 (H:List Ev) (u fr W:List Int) (us:List Bool) (hl:(ag8 H)<=1000000) (lg: ∀w,w<ag8 H->iI ((H[w]!).1,(H[w]!).2.1)):
 ((∀k,k<ag8 H->GW H k)->aB iM (H,((ag8 H):Int),0,u,us,fr,H,W,[])=agd (.done 0))/\(¬(∀k,k<ag8 H->GW H k)->aB iM (H,((ag8 H):Int),0,u,us,fr,H,W,[])=agd (.done 8)):=by
 have key:=cN (body:=iM) (fun k=>(H,((ag8 H):Int),(k:Int),u,us,fr,H,W,(H.take k).map fun x=>[x.2.2.1])) (ag8 H) (fun k=> ¬GW H k) (r:= .done 8) (e:= .done 0) (fun k hk=>by
  have e1:ah2 ((k:Int)<((ag8 H):Int))=agN:=aI (by omega);have ins: ∀n:Int,¬(∃j,j<k/\j<ag8 H/\(H[j]!).2.2.1=n)->Kg ((H.take k).map fun x=>[x.2.2.1]) [n]=agd (((H.take k).map fun x=>[x.2.2.1])++[[n]]):=by intro n hn;unfold Kg Mj;rw [HL,HM,aD hn];rfl
  have has: ∀n:Int,Kf ((H.take k).map fun x=>[x.2.2.1]) [n]=agd (ah2 (∃j,j<k/\j<ag8 H/\(H[j]!).2.2.1=n)):=by intro n;unfold Kf;rw [HL,HM];rfl
  have nx:(H.take (k+1)).map (fun x=>[x.2.2.1])=((H.take k).map fun x=>[x.2.2.1])++[[(H[k]!).2.2.1]]:=by rw [dp hk,List.map_append];rfl
  unfold iM;simp only [e1,kw,aq H k hk,ao,dm (lg k hk),aT (show k<1000000000 by omega),has,nx];unfold GW
  by_cases b1:aW ((H[k]!).1,(H[k]!).2.1)
  case neg=>rw [ls b1];exact ⟨fun _=>rfl,fun h=>absurd (ut.1 h).1 b1⟩
  rw [lm b1]
  by_cases b2:(H[k]!).2.2.1<0
  · rw [aI b2]
    exact ⟨fun _=>rfl,fun h=>absurd (ut.1 h).2.1 (by omega)⟩
  by_cases b3:1000000<(H[k]!).2.2.1
  · rw [aD b2,aI b3]
    exact ⟨fun _=>rfl,fun h=>absurd (ut.1 h).2.2.1 (by omega)⟩
  rw [aD b2,aD b3]
  by_cases b4: ∃j,j<k/\j<ag8 H/\(H[j]!).2.2.1=(H[k]!).2.2.1
  · rw [aI b4]
    refine ⟨fun _=>rfl,fun h=>?_⟩;obtain ⟨j,j1,j2,j3⟩:=b4;exact absurd j3 ((ut.1 h).2.2.2.1 j j1)
  rw [aD b4,ins _ b4];have b4': ∀j,j<k->(H[j]!).2.2.1≠(H[k]!).2.2.1:=fun j hj he=>b4 ⟨j,hj,by omega,he⟩
  simp only [show ((0:Int) !=0)=agY from rfl,lc,ao]
  by_cases b5:0<k
  · obtain ⟨m,rfl⟩: ∃m,k=m+1:=⟨k-1,by omega⟩
    have f1:ah2 ((0:Int)<((m+1:Nat):Int))=agN:=aI (by omega);simp only [f1,kw,qO (show m<1000000000 by omega),aq H (m / 2) (by omega),ao,AR (lg (m+1) hk) (lg (m / 2) (by omega)),show (m+1-1) / 2=m / 2 by omega]
    by_cases b6:Ng H[m+1]! H[m / 2]!<0
    · rw [aI b6]
      exact ⟨fun _=>rfl,fun h=>absurd b6 ((ut.1 h).2.2.2.2 (by omega))⟩
    rw [aD b6]
    exact ⟨fun h=>absurd ⟨b1,by omega,by omega,b4',fun _=>b6⟩ h,fun _=>rfl⟩
  · have f1:ah2 ((0:Int)<(k:Int))=agY:=aD (by omega)
    rw [f1];exact ⟨fun h=>absurd ⟨b1,by omega,by omega,b4',fun h=>absurd h b5⟩ h,fun _=>rfl⟩) (by
  unfold iM;have:ah2 (((ag8 H):Int)<((ag8 H):Int))=agY:=aD (by omega);simp only [this,lc])
 constructor
 · intro h
   exact key.2 fun i hi=>ut.2 (h i hi)
 intro h
 obtain ⟨i,h⟩:=EQ.1 h;obtain ⟨hi,hx⟩:=aaH.1 h;exact key.1 ⟨i,hi,hx⟩
end Go.Proofs.YtcljjehjppgijaaGreat
