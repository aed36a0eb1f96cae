/- Plain laws (1). -/
import Derived.Test.YtmikolhhnhndkaaGreatEVm3
import Derived.Test.YtmikolhhnhndkaaGreatEVm1
import Derived.Test.YtmikolhhnhndkaaGreatEQTB
open List renaming length_set->ut,replicate->AC,length_replicate->UV,set_set->acl,mem_map->ad1,mem_of_mem_take->ad2,length_take->ad3,nodup_cons->ad9,length_map->adc,mem_singleton->adD,getElem?_eq_getElem->adW,mem_append->adZ,set_comm->aec,length_cons->aeh,take_length->ael,mem_filter->aes,mem_cons->aeA,length->aeD
open Int renaming ofNat->v6,mul_le_mul_of_nonneg_right->PP,tdiv->ac6,mul_neg_of_neg_of_pos->ad4,eq_ofNat_of_zero_le->ad5,neg_mul->ad8,mul_comm->ads,mul_lt_mul_of_pos_right->adu,fdiv_eq_ediv_of_nonneg->adz,mul_le_mul->adA,tdiv_eq_ediv_of_nonneg->adB,lt_of_mul_lt_mul_right->adG,lt_trichotomy->adU,mul_nonneg->ae9,natCast_mul->aeo,ofNat_tmod->aev,ofNat_tdiv->aew,mul_assoc->aez,toNat->aeB
open Classical renaming not_not->ww,not_forall->IR,byContradiction->NE,not_imp->ad7
open Option.some renaming injEq->Do
open Nat renaming gcd->EQ,gcd_comm->ad6,gcd_dvd_right->adV,gcd_pos_of_pos_right->adX,le_refl->ae6,mul_div_cancel'->aeb,gcd_zero_right->aee,gcd_dvd_left->aeg,strongRecOn->aem,div_le_self->aen,le_trans->aeC
open Bool renaming not_false->If,not_true->M2,not_eq_true->adY,or_eq_false_iff->aea,false_or->aed,false_eq_true->aef,true->aeH,false->aeI
open Prod.mk renaming injEq->ad0
open Option renaming some->aeE,none->aeG
open Decidable renaming decide->aeJ
namespace Go.Vm
instance lpN:LP:=⟨aeG⟩
section
variable {σ ρ : Type}
theorem wP {body:σ->Option (Step σ ρ)} {x:σ} {r:ρ}:aD body x=aeE r↔ ∃n,mK body n x=aeE r:=BW
theorem aX {body:σ->Option (Step σ ρ)} {x y:σ} (h:body x=aeE (.next y)):aD body x=aD body y:=by
 apply Option.ext;intro r;rw [wP,wP];constructor
 · rintro ⟨n,hn⟩
   cases n with
   |zero=>cases hn
   |succ n=>simp only [mK,h] at hn;exact ⟨n,hn⟩
 rintro ⟨n,hn⟩
 exact ⟨n+1,by simp only [mK,h];exact hn⟩
theorem aJ {body:σ->Option (Step σ ρ)} {x:σ} {r:ρ} (h:body x=aeE (.done r)):aD body x=aeE r:=
 wP.2 ⟨1,by simp only [mK,h]⟩
end
end Go.Vm
namespace Go.Proofs.YtmikolhhnhndkaaGreat
open Go.Vm
noncomputable def uO (p0:Field):Option Field:=
 (cz p0.be).bind fun l0=>
 aeE (Field.mk l0)
noncomputable def uP (p0:bj):Option bj:=
 (cz p0.ci).bind fun l0=>
 aeE (bj.mk p0.aM l0)
noncomputable def qP (p0:aU):Option aU:=
 (cz p0.aq).bind fun l0=>
 (cz p0.bi).bind fun l1=>
 (cz p0.bv).bind fun l2=>
 aeE (aU.mk l0 l1 l2)
noncomputable def od (p0:aH):Option aH:=
 (qP p0.ai).bind fun r0=>
 (cz p0.ce).bind fun l1=>
 (cz p0.ao).bind fun l2=>
 aeE (aH.mk r0 l1 l2)
noncomputable def oe (p0:aI):Option aI:=
 (uO p0.io).bind fun r0=>
 (uP p0.af).bind fun r1=>
 (od p0.aa).bind fun r2=>
 (cz p0.jp).bind fun l3=>
 aeE (aI.mk p0.ii r0 r1 r2 l3)
noncomputable def iZ (s:(Int×Int×Int×(List (Int×Int×Int))×Int×Int×(List (Int×Int×Int)))):Option (Step (Int×Int×Int×(List (Int×Int×Int))×Int×Int×(List (Int×Int×Int))) bj):=
 bif aeJ (s.2.1<(v6 (aeD s.2.2.2.1))) then
  (aC s.2.2.2.1 s.2.1).bind fun a0=>
  bif a0.1 !=s.1 then
   (aC s.2.2.2.1 s.2.1).bind fun a1=>
   (bL s.2.2.2.2.2.2 [a1]).bind fun l2=>
   aeE (.next (s.1,aj .i64 (s.2.1+1),s.2.2.1,s.2.2.2.1,s.2.2.2.2.1,s.2.2.2.2.2.1,l2))
  else
   aeE (.next (s.1,aj .i64 (s.2.1+1),s.2.2))
 else
  aeE (.done (bj.mk s.2.2.2.2.2.1 s.2.2.2.2.2.2))
noncomputable def sK (p0:bj) (p1:Int):Option bj:=
 aD iZ (p1,0,p0.aM,p0.ci,0,p0.aM,[])
noncomputable def nm (s:(Int×Int×Int×Int×(List (Int×Int×Int))×Int×(List (Int×Int×Int))×(List Int)×(List Bool)×(List Int)×(List (Int×Int×Int×Int×Int))×(List Int)×(List (Int×Int×Int)))):Option (Step (Int×Int×Int×Int×(List (Int×Int×Int))×Int×(List (Int×Int×Int))×(List Int)×(List Bool)×(List Int)×(List (Int×Int×Int×Int×Int))×(List Int)×(List (Int×Int×Int))) Int):=
 bif aeJ (s.2.1<(v6 (aeD s.2.2.2.2.2.2.2.2.2.2.2.2))) then
  (aC s.2.2.2.2.2.2.2.2.2.2.2.2 s.2.1).bind fun a0=>
  bif a0.1==s.1 then
   aeE (.done s.2.1)
  else
   aeE (.next (s.1,aj .i64 (s.2.1+1),s.2.2))
 else
  aeE (.done (-1))
noncomputable def px (p0:aI) (p1:Int):Option Int:=
 aD nm (p1,0,p0.ii.1,p0.ii.2,p0.io.be,p0.af.aM,p0.af.ci,p0.aa.ai.aq,p0.aa.ai.bi,p0.aa.ai.bv,p0.aa.ce,p0.aa.ao,p0.jp)
noncomputable def py (p0:aU) (p1:Int×Int):Option aU:=
 (qP p0).bind fun r0=>
 (aC r0.bi p1.1).bind fun b1=>
 (bL r0.bv [p1.1]).bind fun l2=>
 aeE (aU.mk r0.aq (bP r0.bi p1.1 aeI) l2)
noncomputable def fo (a:(Int×Int×(List Int)×(List Bool)×(List Int)×(List (Int×Int×Int×Int×Int))×(List Int))):Option ((List Int)×(List Bool)×(List Int)×(List (Int×Int×Int×Int×Int))×(List Int)):=
 (aC a.2.2.2.2.2.1 a.2.1).bind fun a0=>
 (aC a.2.2.2.2.2.1 a.1).bind fun a1=>
 (aC a.2.2.2.2.2.1 a.1).bind fun a2=>
 (aC (bP a.2.2.2.2.2.1 a.1 a0) a.2.1).bind fun a3=>
 (aC (bP (bP a.2.2.2.2.2.1 a.1 a0) a.2.1 a1) a.1).bind fun a4=>
 (aC (bP (bP a.2.2.2.2.2.1 a.1 a0) a.2.1 a1) a.2.1).bind fun a5=>
 (aC a.2.2.2.2.2.2 a4.2.2.2.1).bind fun n6=>
 (aC (bP a.2.2.2.2.2.2 a4.2.2.2.1 a.1) a5.2.2.2.1).bind fun n7=>
 bif (aeD a.2.2.1)==(aeD a.2.2.1) then
  bif (aeD a.2.2.2.1)==(aeD a.2.2.2.1) then
   bif (aeD a.2.2.2.2.1)==(aeD a.2.2.2.2.1) then
    bif ((bP (bP a.2.2.2.2.2.1 a.1 a0) a.2.1 a1).length)==(aeD a.2.2.2.2.2.1) then
     bif ((bP (bP a.2.2.2.2.2.2 a4.2.2.2.1 a.1) a5.2.2.2.1 a.2.1).length)==(aeD a.2.2.2.2.2.2) then
      aeE (a.2.2.1,a.2.2.2.1,a.2.2.2.2.1,bP (bP a.2.2.2.2.2.1 a.1 a0) a.2.1 a1,bP (bP a.2.2.2.2.2.2 a4.2.2.2.1 a.1) a5.2.2.2.1 a.2.1)
     else
      aeG
    else
     aeG
   else
    aeG
  else
   aeG
 else
  aeG
noncomputable def gx (a:((List Int)×(List Bool)×(List Int)×Nat×Nat×Int×Int×(List (Int×Int×Int×Int×Int))×(List Int))):Option ((List (Int×Int×Int×Int×Int))×(List Int)):=
 (aC (a.2.2.2.2.2.2.2.1.take a.2.2.2.1) a.2.2.2.2.2.2.1).bind fun a0=>
 (aC (a.2.2.2.2.2.2.2.1.take a.2.2.2.1) a.2.2.2.2.2.1).bind fun a1=>
 (aC (a.2.2.2.2.2.2.2.1.take a.2.2.2.1) a.2.2.2.2.2.1).bind fun a2=>
 (aC ((bP a.2.2.2.2.2.2.2.1 a.2.2.2.2.2.1 a0).take a.2.2.2.1) a.2.2.2.2.2.2.1).bind fun a3=>
 (aC ((bP (bP a.2.2.2.2.2.2.2.1 a.2.2.2.2.2.1 a0) a.2.2.2.2.2.2.1 a1).take a.2.2.2.1) a.2.2.2.2.2.1).bind fun a4=>
 (aC ((bP (bP a.2.2.2.2.2.2.2.1 a.2.2.2.2.2.1 a0) a.2.2.2.2.2.2.1 a1).take a.2.2.2.1) a.2.2.2.2.2.2.1).bind fun a5=>
 (aC a.2.2.2.2.2.2.2.2 a4.2.2.2.1).bind fun n6=>
 (aC (bP a.2.2.2.2.2.2.2.2 a4.2.2.2.1 a.2.2.2.2.2.1) a5.2.2.2.1).bind fun n7=>
 bif ((bP (bP a.2.2.2.2.2.2.2.1 a.2.2.2.2.2.1 a0) a.2.2.2.2.2.2.1 a1).length)==(aeD a.2.2.2.2.2.2.2.1) then
  bif ((bP (bP a.2.2.2.2.2.2.2.2 a4.2.2.2.1 a.2.2.2.2.2.1) a5.2.2.2.1 a.2.2.2.2.2.2.1).length)==(aeD a.2.2.2.2.2.2.2.2) then
   aeE (bP (bP a.2.2.2.2.2.2.2.1 a.2.2.2.2.2.1 a0) a.2.2.2.2.2.2.1 a1,bP (bP a.2.2.2.2.2.2.2.2 a4.2.2.2.1 a.2.2.2.2.2.1) a5.2.2.2.1 a.2.2.2.2.2.2.1)
  else
   aeG
 else
  aeG
noncomputable def fI (c0:((List Int)×(List Bool)×(List Int)×Nat×Nat×Int×(List (Int×Int×Int×Int×Int))×(List Int))) (s:(Int×(List (Int×Int×Int×Int×Int))×(List Int)×(List Int)×(List Bool)×(List Int)×Nat×Nat)):Option (Step (Int×(List (Int×Int×Int×Int×Int))×(List Int)×(List Int)×(List Bool)×(List Int)×Nat×Nat) (Int×(List (Int×Int×Int×Int×Int))×(List Int))):=
 bif aeJ (0<s.1) then
  (aC (s.2.1.take s.2.2.2.2.2.2.1) s.1).bind fun a0=>
  (aC (s.2.1.take s.2.2.2.2.2.2.1) (aj .i64 (ac6 (aj .i64 (s.1-1)) 2))).bind fun a1=>
  (dH a0 a1).bind fun b2=>
  bif b2 then
   (gx (s.2.2.2.1,s.2.2.2.2.1,s.2.2.2.2.2.1,s.2.2.2.2.2.2.1,s.2.2.2.2.2.2.2,s.1,aj .i64 (ac6 (aj .i64 (s.1-1)) 2),s.2.1,s.2.2.1)).bind fun a3=>
   aeE (.next (aj .i64 (ac6 (aj .i64 (s.1-1)) 2),a3.1,a3.2,s.2.2.2))
  else
   bif (aeD s.2.1)==(aeD c0.2.2.2.2.2.2.1) then
    bif (aeD s.2.2.1)==(aeD c0.2.2.2.2.2.2.2) then
     aeE (.done (s.1,s.2.1,s.2.2.1))
    else
     aeG
   else
    aeG
 else
  bif (aeD s.2.1)==(aeD c0.2.2.2.2.2.2.1) then
   bif (aeD s.2.2.1)==(aeD c0.2.2.2.2.2.2.2) then
    aeE (.done (s.1,s.2.1,s.2.2.1))
   else
    aeG
  else
   aeG
noncomputable def np (a:((List Int)×(List Bool)×(List Int)×Nat×Nat×Int×(List (Int×Int×Int×Int×Int))×(List Int))):Option (Int×(List (Int×Int×Int×Int×Int))×(List Int)):=
 aD (fI a) (a.2.2.2.2.2.1,a.2.2.2.2.2.2.1,a.2.2.2.2.2.2.2,a.1,a.2.1,a.2.2.1,a.2.2.2.1,a.2.2.2.2.1)
noncomputable def iM (c0:((List Int)×(List Bool)×(List Int)×Nat×Nat×Int×(List (Int×Int×Int×Int×Int))×(List Int))) (s:(Int×(List (Int×Int×Int×Int×Int))×(List Int)×(List Int)×(List Bool)×(List Int)×Nat×Nat)):Option (Step (Int×(List (Int×Int×Int×Int×Int))×(List Int)×(List Int)×(List Bool)×(List Int)×Nat×Nat) ((List (Int×Int×Int×Int×Int))×(List Int))):=
 match s with
 |(a,b,d,e,f,g,h,i)=>
  bif aeJ ((v6 h)<=(aj .i64 ((aj .i64 (2*a))+1))) then
   bif (aeD b)==(aeD c0.2.2.2.2.2.2.1) then
    bif (aeD d)==(aeD c0.2.2.2.2.2.2.2) then
     aeE (.done (b,d))
    else
     aeG
   else
    aeG
  else
   bif aeJ ((aj .i64 ((aj .i64 ((aj .i64 (2*a))+1))+1))<(v6 h)) then
    (aC (b.take h) (aj .i64 ((aj .i64 ((aj .i64 (2*a))+1))+1))).bind fun a0=>
    (aC (b.take h) (aj .i64 ((aj .i64 (2*a))+1))).bind fun a1=>
    (dH a0 a1).bind fun b2=>
    bif b2 then
     (aC (b.take h) (aj .i64 ((aj .i64 ((aj .i64 (2*a))+1))+1))).bind fun a3=>
     (aC (b.take h) a).bind fun a4=>
     (dH a3 a4).bind fun b5=>
     bif !b5 then
      bif (aeD b)==(aeD c0.2.2.2.2.2.2.1) then
       bif (aeD d)==(aeD c0.2.2.2.2.2.2.2) then
        aeE (.done (b,d))
       else
        aeG
      else
       aeG
     else
      (gx (e,f,g,h,i,a,aj .i64 ((aj .i64 ((aj .i64 (2*a))+1))+1),b,d)).bind fun a6=>
      aeE (.next (aj .i64 ((aj .i64 ((aj .i64 (2*a))+1))+1),a6.1,a6.2,(e,f,g,h,i)))
    else
     (aC (b.take h) (aj .i64 ((aj .i64 (2*a))+1))).bind fun a7=>
     (aC (b.take h) a).bind fun a8=>
     (dH a7 a8).bind fun b9=>
     bif !b9 then
      bif (aeD b)==(aeD c0.2.2.2.2.2.2.1) then
       bif (aeD d)==(aeD c0.2.2.2.2.2.2.2) then
        aeE (.done (b,d))
       else
        aeG
      else
       aeG
     else
      (gx (e,f,g,h,i,a,aj .i64 ((aj .i64 (2*a))+1),b,d)).bind fun xy=>
      aeE (.next (aj .i64 ((aj .i64 (2*a))+1),xy.1,xy.2,(e,f,g,h,i)))
   else
    (aC (b.take h) (aj .i64 ((aj .i64 (2*a))+1))).bind fun AP=>
    (aC (b.take h) a).bind fun a12=>
    (dH AP a12).bind fun b13=>
    bif !b13 then
     bif (aeD b)==(aeD c0.2.2.2.2.2.2.1) then
      bif (aeD d)==(aeD c0.2.2.2.2.2.2.2) then
       aeE (.done (b,d))
      else
       aeG
     else
      aeG
    else
     (gx (e,f,g,h,i,a,aj .i64 ((aj .i64 (2*a))+1),b,d)).bind fun O5=>
     aeE (.next (aj .i64 ((aj .i64 (2*a))+1),O5.1,O5.2,(e,f,g,h,i)))
noncomputable def kO (a:((List Int)×(List Bool)×(List Int)×Nat×Nat×Int×(List (Int×Int×Int×Int×Int))×(List Int))):Option ((List (Int×Int×Int×Int×Int))×(List Int)):=
 aD (iM a) (a.2.2.2.2.2.1,a.2.2.2.2.2.2.1,a.2.2.2.2.2.2.2,a.1,a.2.1,a.2.2.1,a.2.2.2.1,a.2.2.2.2.1)
noncomputable def jJ (p0:aH) (p1:Int×Int):Option aH:=
 (od p0).bind fun r0=>
 (aC r0.ao p1.1).bind fun n1=>
 bif n1 !=(aj .i64 ((v6 (aeD r0.ce)) -1)) then
  (fo (n1,aj .i64 ((v6 (aeD r0.ce)) -1),r0.ai.aq,r0.ai.bi,r0.ai.bv,r0.ce,r0.ao)).bind fun a2=>
  (gD a2.2.2.2.1 0 (aj .i64 ((v6 (aeD r0.ce)) -1))).bind fun l3=>
  (aC a2.2.2.2.2 p1.1).bind fun n4=>
  (py (aU.mk a2.1 a2.2.1 a2.2.2.1) p1).bind fun r5=>
  bif n1 !=(aj .i64 ((v6 (aeD r0.ce)) -1)) then
   (np (r5.aq,r5.bi,r5.bv,(aj .i64 ((v6 (aeD r0.ce)) -1)).toNat,aeD a2.2.2.2.1,n1,a2.2.2.2.1,bP a2.2.2.2.2 p1.1 (-1))).bind fun a6=>
   (kO (r5.aq,r5.bi,r5.bv,(aj .i64 ((v6 (aeD r0.ce)) -1)).toNat,aeD a2.2.2.2.1,a6)).bind fun a7=>
   aeE (aH.mk r5 (a7.1.take ((aj .i64 ((v6 (aeD r0.ce)) -1)).toNat)) a7.2)
  else
   aeE (aH.mk r5 (a2.2.2.2.1.take ((aj .i64 ((v6 (aeD r0.ce)) -1)).toNat)) (bP a2.2.2.2.2 p1.1 (-1)))
 else
  (gD r0.ce 0 (aj .i64 ((v6 (aeD r0.ce)) -1))).bind fun l8=>
  (aC r0.ao p1.1).bind fun n9=>
  (py r0.ai p1).bind fun X5=>
  bif n1 !=(aj .i64 ((v6 (aeD r0.ce)) -1)) then
   (np (X5.aq,X5.bi,X5.bv,(aj .i64 ((v6 (aeD r0.ce)) -1)).toNat,aeD r0.ce,n1,r0.ce,bP r0.ao p1.1 (-1))).bind fun AP=>
   (kO (X5.aq,X5.bi,X5.bv,(aj .i64 ((v6 (aeD r0.ce)) -1)).toNat,aeD r0.ce,AP)).bind fun a12=>
   aeE (aH.mk X5 (a12.1.take ((aj .i64 ((v6 (aeD r0.ce)) -1)).toNat)) a12.2)
  else
   aeE (aH.mk X5 (r0.ce.take ((aj .i64 ((v6 (aeD r0.ce)) -1)).toNat)) (bP r0.ao p1.1 (-1)))
noncomputable def og (p0:aI) (p1:Int):Option aI:=
 (oe p0).bind fun r0=>
 (sK p0.af p1).bind fun r1=>
 (px p0 p1).bind fun n2=>
 bif aeJ (0<=n2) then
  (aC p0.jp n2).bind fun a3=>
  (jJ p0.aa a3.2).bind fun r4=>
  (gD p0.jp 0 n2).bind fun l5=>
  (cz l5).bind fun l6=>
  (gD p0.jp (aj .i64 (n2+1)) (v6 (aeD p0.jp))).bind fun l7=>
  bif l7.isEmpty then
   aeE (aI.mk r0.ii r0.io r1 r4 l6)
  else
   (bL l6 l7).bind fun l8=>
   aeE (aI.mk r0.ii r0.io r1 r4 l8)
 else
  aeE (aI.mk r0.ii r0.io r1 r0.aa r0.jp)
noncomputable def fJ (c0:(Int×(List Int)×(List Bool)×(List Int)×(List (Int×Int×Int×Int×Int))×(List Int))) (s:(Int×(List Int)×(List Bool)×(List Int)×(List (Int×Int×Int×Int×Int))×(List Int))):Option (Step (Int×(List Int)×(List Bool)×(List Int)×(List (Int×Int×Int×Int×Int))×(List Int)) (Int×(List Int)×(List Bool)×(List Int)×(List (Int×Int×Int×Int×Int))×(List Int))):=
 bif aeJ (0<s.1) then
  (aC s.2.2.2.2.1 s.1).bind fun a0=>
  (aC s.2.2.2.2.1 (aj .i64 (ac6 (aj .i64 (s.1-1)) 2))).bind fun a1=>
  (dH a0 a1).bind fun b2=>
  bif b2 then
   (fo (s.1,aj .i64 (ac6 (aj .i64 (s.1-1)) 2),s.2)).bind fun a3=>
   aeE (.next (aj .i64 (ac6 (aj .i64 (s.1-1)) 2),a3))
  else
   bif (aeD s.2.1)==(aeD c0.2.1) then
    bif (aeD s.2.2.1)==(aeD c0.2.2.1) then
     bif (aeD s.2.2.2.1)==(aeD c0.2.2.2.1) then
      bif (aeD s.2.2.2.2.1)==(aeD c0.2.2.2.2.1) then
       bif (aeD s.2.2.2.2.2)==(aeD c0.2.2.2.2.2) then
        aeE (.done s)
       else
        aeG
      else
       aeG
     else
      aeG
    else
     aeG
   else
    aeG
 else
  bif (aeD s.2.1)==(aeD c0.2.1) then
   bif (aeD s.2.2.1)==(aeD c0.2.2.1) then
    bif (aeD s.2.2.2.1)==(aeD c0.2.2.2.1) then
     bif (aeD s.2.2.2.2.1)==(aeD c0.2.2.2.2.1) then
      bif (aeD s.2.2.2.2.2)==(aeD c0.2.2.2.2.2) then
       aeE (.done s)
      else
       aeG
     else
      aeG
    else
     aeG
   else
    aeG
  else
   aeG
noncomputable def qQ (a:(Int×(List Int)×(List Bool)×(List Int)×(List (Int×Int×Int×Int×Int))×(List Int))):Option (Int×(List Int)×(List Bool)×(List Int)×(List (Int×Int×Int×Int×Int))×(List Int)):=
 aD (fJ a) a
noncomputable def iN (c0:(Int×(List Int)×(List Bool)×(List Int)×(List (Int×Int×Int×Int×Int))×(List Int))) (s:(Int×(List Int)×(List Bool)×(List Int)×(List (Int×Int×Int×Int×Int))×(List Int))):Option (Step (Int×(List Int)×(List Bool)×(List Int)×(List (Int×Int×Int×Int×Int))×(List Int)) ((List Int)×(List Bool)×(List Int)×(List (Int×Int×Int×Int×Int))×(List Int))):=
 bif aeJ ((v6 (aeD s.2.2.2.2.1))<=(aj .i64 ((aj .i64 (2*s.1))+1))) then
  bif (aeD s.2.1)==(aeD c0.2.1) then
   bif (aeD s.2.2.1)==(aeD c0.2.2.1) then
    bif (aeD s.2.2.2.1)==(aeD c0.2.2.2.1) then
     bif (aeD s.2.2.2.2.1)==(aeD c0.2.2.2.2.1) then
      bif (aeD s.2.2.2.2.2)==(aeD c0.2.2.2.2.2) then
       aeE (.done s.2)
      else
       aeG
     else
      aeG
    else
     aeG
   else
    aeG
  else
   aeG
 else
  bif aeJ ((aj .i64 ((aj .i64 ((aj .i64 (2*s.1))+1))+1))<(v6 (aeD s.2.2.2.2.1))) then
   (aC s.2.2.2.2.1 (aj .i64 ((aj .i64 ((aj .i64 (2*s.1))+1))+1))).bind fun a0=>
   (aC s.2.2.2.2.1 (aj .i64 ((aj .i64 (2*s.1))+1))).bind fun a1=>
   (dH a0 a1).bind fun b2=>
   bif b2 then
    (aC s.2.2.2.2.1 (aj .i64 ((aj .i64 ((aj .i64 (2*s.1))+1))+1))).bind fun a3=>
    (aC s.2.2.2.2.1 s.1).bind fun a4=>
    (dH a3 a4).bind fun b5=>
    bif !b5 then
     bif (aeD s.2.1)==(aeD c0.2.1) then
      bif (aeD s.2.2.1)==(aeD c0.2.2.1) then
       bif (aeD s.2.2.2.1)==(aeD c0.2.2.2.1) then
        bif (aeD s.2.2.2.2.1)==(aeD c0.2.2.2.2.1) then
         bif (aeD s.2.2.2.2.2)==(aeD c0.2.2.2.2.2) then
          aeE (.done s.2)
         else
          aeG
        else
         aeG
       else
        aeG
      else
       aeG
     else
      aeG
    else
     (fo (s.1,aj .i64 ((aj .i64 ((aj .i64 (2*s.1))+1))+1),s.2)).bind fun a6=>
     aeE (.next (aj .i64 ((aj .i64 ((aj .i64 (2*s.1))+1))+1),a6))
   else
    (aC s.2.2.2.2.1 (aj .i64 ((aj .i64 (2*s.1))+1))).bind fun a7=>
    (aC s.2.2.2.2.1 s.1).bind fun a8=>
    (dH a7 a8).bind fun b9=>
    bif !b9 then
     bif (aeD s.2.1)==(aeD c0.2.1) then
      bif (aeD s.2.2.1)==(aeD c0.2.2.1) then
       bif (aeD s.2.2.2.1)==(aeD c0.2.2.2.1) then
        bif (aeD s.2.2.2.2.1)==(aeD c0.2.2.2.2.1) then
         bif (aeD s.2.2.2.2.2)==(aeD c0.2.2.2.2.2) then
          aeE (.done s.2)
         else
          aeG
        else
         aeG
       else
        aeG
      else
       aeG
     else
      aeG
    else
     (fo (s.1,aj .i64 ((aj .i64 (2*s.1))+1),s.2)).bind fun xy=>
     aeE (.next (aj .i64 ((aj .i64 (2*s.1))+1),xy))
  else
   (aC s.2.2.2.2.1 (aj .i64 ((aj .i64 (2*s.1))+1))).bind fun AP=>
   (aC s.2.2.2.2.1 s.1).bind fun a12=>
   (dH AP a12).bind fun b13=>
   bif !b13 then
    bif (aeD s.2.1)==(aeD c0.2.1) then
     bif (aeD s.2.2.1)==(aeD c0.2.2.1) then
      bif (aeD s.2.2.2.1)==(aeD c0.2.2.2.1) then
       bif (aeD s.2.2.2.2.1)==(aeD c0.2.2.2.2.1) then
        bif (aeD s.2.2.2.2.2)==(aeD c0.2.2.2.2.2) then
         aeE (.done s.2)
        else
         aeG
       else
        aeG
      else
       aeG
     else
      aeG
    else
     aeG
   else
    (fo (s.1,aj .i64 ((aj .i64 (2*s.1))+1),s.2)).bind fun O5=>
    aeE (.next (aj .i64 ((aj .i64 (2*s.1))+1),O5))
noncomputable def oh (a:(Int×(List Int)×(List Bool)×(List Int)×(List (Int×Int×Int×Int×Int))×(List Int))):Option ((List Int)×(List Bool)×(List Int)×(List (Int×Int×Int×Int×Int))×(List Int)):=
 aD (iN a) a
noncomputable def sL (p0:aH) (p1:Int×Int) (p2:Int×Int):Option aH:=
 (od p0).bind fun r0=>
 (aC r0.ao p1.1).bind fun n1=>
 (aC r0.ce n1).bind fun a2=>
 (qQ (n1,r0.ai.aq,r0.ai.bi,r0.ai.bv,bP r0.ce n1 (p2.1,p2.2,a2.2.2),r0.ao)).bind fun a3=>
 (oh a3).bind fun a4=>
 aeE (aH.mk (aU.mk a4.1 a4.2.1 a4.2.2.1) a4.2.2.2.1 a4.2.2.2.2)
noncomputable def fQ (p0:aU):Option Bool:=
 bif aeJ (0<(v6 (aeD p0.bv))) then
  (aC p0.bv (aj .i64 ((v6 (aeD p0.bv)) -1))).bind fun n0=>
  (aC p0.aq n0).bind fun n1=>
  aeE (aeJ (n1<1000000))
 else
  aeE aeI
noncomputable def wQ (p0:aU):Option (aU×(Int×Int)):=
 (qP p0).bind fun r0=>
 (aC r0.bv (aj .i64 ((v6 (aeD r0.bv)) -1))).bind fun n1=>
 (gD r0.bv 0 (aj .i64 ((v6 (aeD r0.bv)) -1))).bind fun l2=>
 (aC r0.aq n1).bind fun n3=>
 (aC r0.aq n1).bind fun n4=>
 (aC r0.bi n1).bind fun b5=>
 (aC (bP r0.aq n1 (aj .i64 (n3+1))) n1).bind fun n6=>
 aeE (aU.mk (bP r0.aq n1 (aj .i64 (n3+1))) (bP r0.bi n1 aeH) (r0.bv.take ((aj .i64 ((v6 (aeD r0.bv)) -1)).toNat)),n1,n6)
noncomputable def oi (a:((List Int)×(List Bool)×(List Int)×Int×Int×(List (Int×Int×Int×Int×Int))×(List Int))):Option ((List (Int×Int×Int×Int×Int))×(List Int)):=
 (aC a.2.2.2.2.2.1 a.2.2.2.2.1).bind fun a0=>
 (aC a.2.2.2.2.2.1 a.2.2.2.1).bind fun a1=>
 (aC a.2.2.2.2.2.1 a.2.2.2.1).bind fun a2=>
 (aC (bP a.2.2.2.2.2.1 a.2.2.2.1 a0) a.2.2.2.2.1).bind fun a3=>
 (aC (bP (bP a.2.2.2.2.2.1 a.2.2.2.1 a0) a.2.2.2.2.1 a1) a.2.2.2.1).bind fun a4=>
 (aC (bP (bP a.2.2.2.2.2.1 a.2.2.2.1 a0) a.2.2.2.2.1 a1) a.2.2.2.2.1).bind fun a5=>
 (aC a.2.2.2.2.2.2 a4.2.2.2.1).bind fun n6=>
 (aC (bP a.2.2.2.2.2.2 a4.2.2.2.1 a.2.2.2.1) a5.2.2.2.1).bind fun n7=>
 bif ((bP (bP a.2.2.2.2.2.1 a.2.2.2.1 a0) a.2.2.2.2.1 a1).length)==(aeD a.2.2.2.2.2.1) then
  bif ((bP (bP a.2.2.2.2.2.2 a4.2.2.2.1 a.2.2.2.1) a5.2.2.2.1 a.2.2.2.2.1).length)==(aeD a.2.2.2.2.2.2) then
   aeE (bP (bP a.2.2.2.2.2.1 a.2.2.2.1 a0) a.2.2.2.2.1 a1,bP (bP a.2.2.2.2.2.2 a4.2.2.2.1 a.2.2.2.1) a5.2.2.2.1 a.2.2.2.2.1)
  else
   aeG
 else
  aeG
noncomputable def fK (c0:((List Int)×(List Bool)×(List Int)×Int×(List (Int×Int×Int×Int×Int))×(List Int))) (s:(Int×(List (Int×Int×Int×Int×Int))×(List Int)×(List Int)×(List Bool)×(List Int))):Option (Step (Int×(List (Int×Int×Int×Int×Int))×(List Int)×(List Int)×(List Bool)×(List Int)) (Int×(List (Int×Int×Int×Int×Int))×(List Int))):=
 bif aeJ (0<s.1) then
  (aC s.2.1 s.1).bind fun a0=>
  (aC s.2.1 (aj .i64 (ac6 (aj .i64 (s.1-1)) 2))).bind fun a1=>
  (dH a0 a1).bind fun b2=>
  bif b2 then
   (oi (s.2.2.2.1,s.2.2.2.2.1,s.2.2.2.2.2,s.1,aj .i64 (ac6 (aj .i64 (s.1-1)) 2),s.2.1,s.2.2.1)).bind fun a3=>
   aeE (.next (aj .i64 (ac6 (aj .i64 (s.1-1)) 2),a3.1,a3.2,s.2.2.2))
  else
   bif (aeD s.2.1)==(aeD c0.2.2.2.2.1) then
    bif (aeD s.2.2.1)==(aeD c0.2.2.2.2.2) then
     aeE (.done (s.1,s.2.1,s.2.2.1))
    else
     aeG
   else
    aeG
 else
  bif (aeD s.2.1)==(aeD c0.2.2.2.2.1) then
   bif (aeD s.2.2.1)==(aeD c0.2.2.2.2.2) then
    aeE (.done (s.1,s.2.1,s.2.2.1))
   else
    aeG
  else
   aeG
noncomputable def qR (a:((List Int)×(List Bool)×(List Int)×Int×(List (Int×Int×Int×Int×Int))×(List Int))):Option (Int×(List (Int×Int×Int×Int×Int))×(List Int)):=
 aD (fK a) (a.2.2.2.1,a.2.2.2.2.1,a.2.2.2.2.2,a.1,a.2.1,a.2.2.1)
noncomputable def eh (p0:aH) (p1:Int×Int) (p2:Int):Option (aH×(Int×Int)):=
 (od p0).bind fun r0=>
 (wQ r0.ai).bind fun a1=>
 (bL r0.ce [(p1.1,p1.2,p2,a1.2)]).bind fun l2=>
 (aC r0.ao a1.2.1).bind fun n3=>
 (qR (a1.1.aq,a1.1.bi,a1.1.bv,aj .i64 ((v6 (aeD l2)) -1),l2,bP r0.ao a1.2.1 (aj .i64 ((v6 (aeD l2)) -1)))).bind fun a4=>
 aeE (aH.mk a1.1 a4.2.1 a4.2.2,a1.2)
noncomputable def bZ (s:(Int×Int×Int×(List (Int×Int×Int))×Int×(List (Int×Int×Int))×(List Int)×(List Bool)×(List Int)×(List (Int×Int×Int×Int×Int))×(List Int)×(List (Int×Int×Int))×(List (Int×Int×Int))×Int×Int×Int×Int×Int×(List (Int×Int×Int))×Int×(List (Int×Int×Int))×(List Int)×(List Bool)×(List Int)×(List (Int×Int×Int×Int×Int))×(List Int)×(List (Int×Int×Int)))):Option (Step (Int×Int×Int×(List (Int×Int×Int))×Int×(List (Int×Int×Int))×(List Int)×(List Bool)×(List Int)×(List (Int×Int×Int×Int×Int))×(List Int)×(List (Int×Int×Int))×(List (Int×Int×Int))×Int×Int×Int×Int×Int×(List (Int×Int×Int))×Int×(List (Int×Int×Int))×(List Int)×(List Bool)×(List Int)×(List (Int×Int×Int×Int×Int))×(List Int)×(List (Int×Int×Int))) (aI×Int)):=
 match s with
 |(a,b,d,e,f,g,h,i,j,k,l,m,n,o,q,r,t,u,v,w,x,y,z,A,B,C,D)=>
  bif aeJ (a<(v6 (aeD g))) then
   (aC g a).bind fun a0=>
   (px (aI.mk (b,d) (Field.mk e) (bj.mk f g) (aH.mk (aU.mk h i j) k l) m) a0.1).bind fun n1=>
   (oc (Field.mk n) a0.2 (b,d)).bind fun a2=>
   bif a2.2 then
    bif aeJ (0<=n1) then
     (aC m n1).bind fun a3=>
     (sL (aH.mk (aU.mk y z A) B C) a3.2 a2.1).bind fun r4=>
     (aC m n1).bind fun a5=>
     (bL D [a5]).bind fun l6=>
     bif !a2.2 then
      bif aeJ (0<=n1) then
       (aC m n1).bind fun a7=>
       (jJ r4 a7.2).bind fun r8=>
       bif !a2.2 then
        aeE (.next (aj .i64 (a+1),b,d,e,f,g,h,i,j,k,l,m,n,o,q,r,t,u,v,w,x,r8.ai.aq,r8.ai.bi,r8.ai.bv,r8.ce,r8.ao,l6))
       else
        bif aeJ (0<=n1) then
         aeE (.next (aj .i64 (a+1),b,d,e,f,g,h,i,j,k,l,m,n,o,q,r,t,u,v,w,x,r8.ai.aq,r8.ai.bi,r8.ai.bv,r8.ce,r8.ao,l6))
        else
         (fQ r8.ai).bind fun b9=>
         bif !b9 then
          aeE (.done (aI.mk (0,0) (Field.mk []) (bj.mk 0 []) (aH.mk (aU.mk [] [] []) [] []) [],18))
         else
          (eh r8 a2.1 a0.1).bind fun xy=>
          (bL l6 [(a0.1,xy.2)]).bind fun l11=>
          aeE (.next (aj .i64 (a+1),b,d,e,f,g,h,i,j,k,l,m,n,o,q,r,t,u,v,w,x,xy.1.ai.aq,xy.1.ai.bi,xy.1.ai.bv,xy.1.ce,xy.1.ao,l11))
      else
       bif !a2.2 then
        aeE (.next (aj .i64 (a+1),b,d,e,f,g,h,i,j,k,l,m,n,o,q,r,t,u,v,w,x,r4.ai.aq,r4.ai.bi,r4.ai.bv,r4.ce,r4.ao,l6))
       else
        bif aeJ (0<=n1) then
         aeE (.next (aj .i64 (a+1),b,d,e,f,g,h,i,j,k,l,m,n,o,q,r,t,u,v,w,x,r4.ai.aq,r4.ai.bi,r4.ai.bv,r4.ce,r4.ao,l6))
        else
         (fQ r4.ai).bind fun b12=>
         bif !b12 then
          aeE (.done (aI.mk (0,0) (Field.mk []) (bj.mk 0 []) (aH.mk (aU.mk [] [] []) [] []) [],18))
         else
          (eh r4 a2.1 a0.1).bind fun Km=>
          (bL l6 [(a0.1,Km.2)]).bind fun l14=>
          aeE (.next (aj .i64 (a+1),b,d,e,f,g,h,i,j,k,l,m,n,o,q,r,t,u,v,w,x,Km.1.ai.aq,Km.1.ai.bi,Km.1.ai.bv,Km.1.ce,Km.1.ao,l14))
     else
      bif !a2.2 then
       aeE (.next (aj .i64 (a+1),b,d,e,f,g,h,i,j,k,l,m,n,o,q,r,t,u,v,w,x,r4.ai.aq,r4.ai.bi,r4.ai.bv,r4.ce,r4.ao,l6))
      else
       bif aeJ (0<=n1) then
        aeE (.next (aj .i64 (a+1),b,d,e,f,g,h,i,j,k,l,m,n,o,q,r,t,u,v,w,x,r4.ai.aq,r4.ai.bi,r4.ai.bv,r4.ce,r4.ao,l6))
       else
        (fQ r4.ai).bind fun b15=>
        bif !b15 then
         aeE (.done (aI.mk (0,0) (Field.mk []) (bj.mk 0 []) (aH.mk (aU.mk [] [] []) [] []) [],18))
        else
         (eh r4 a2.1 a0.1).bind fun Ga=>
         (bL l6 [(a0.1,Ga.2)]).bind fun l17=>
         aeE (.next (aj .i64 (a+1),b,d,e,f,g,h,i,j,k,l,m,n,o,q,r,t,u,v,w,x,Ga.1.ai.aq,Ga.1.ai.bi,Ga.1.ai.bv,Ga.1.ce,Ga.1.ao,l17))
    else
     bif !a2.2 then
      bif aeJ (0<=n1) then
       (aC m n1).bind fun Ri=>
       (jJ (aH.mk (aU.mk y z A) B C) Ri.2).bind fun O6=>
       bif !a2.2 then
        aeE (.next (aj .i64 (a+1),b,d,e,f,g,h,i,j,k,l,m,n,o,q,r,t,u,v,w,x,O6.ai.aq,O6.ai.bi,O6.ai.bv,O6.ce,O6.ao,D))
       else
        bif aeJ (0<=n1) then
         aeE (.next (aj .i64 (a+1),b,d,e,f,g,h,i,j,k,l,m,n,o,q,r,t,u,v,w,x,O6.ai.aq,O6.ai.bi,O6.ai.bv,O6.ce,O6.ao,D))
        else
         (fQ O6.ai).bind fun b20=>
         bif !b20 then
          aeE (.done (aI.mk (0,0) (Field.mk []) (bj.mk 0 []) (aH.mk (aU.mk [] [] []) [] []) [],18))
         else
          (eh O6 a2.1 a0.1).bind fun a21=>
          (bL D [(a0.1,a21.2)]).bind fun l22=>
          aeE (.next (aj .i64 (a+1),b,d,e,f,g,h,i,j,k,l,m,n,o,q,r,t,u,v,w,x,a21.1.ai.aq,a21.1.ai.bi,a21.1.ai.bv,a21.1.ce,a21.1.ao,l22))
      else
       bif !a2.2 then
        aeE (.next (aj .i64 (a+1),(b,d,e,f,g,h,i,j,k,l,m,n,o,q,r,t,u,v,w,x,y,z,A,B,C,D)))
       else
        bif aeJ (0<=n1) then
         aeE (.next (aj .i64 (a+1),(b,d,e,f,g,h,i,j,k,l,m,n,o,q,r,t,u,v,w,x,y,z,A,B,C,D)))
        else
         (fQ (aU.mk y z A)).bind fun b23=>
         bif !b23 then
          aeE (.done (aI.mk (0,0) (Field.mk []) (bj.mk 0 []) (aH.mk (aU.mk [] [] []) [] []) [],18))
         else
          (eh (aH.mk (aU.mk y z A) B C) a2.1 a0.1).bind fun a24=>
          (bL D [(a0.1,a24.2)]).bind fun l25=>
          aeE (.next (aj .i64 (a+1),b,d,e,f,g,h,i,j,k,l,m,n,o,q,r,t,u,v,w,x,a24.1.ai.aq,a24.1.ai.bi,a24.1.ai.bv,a24.1.ce,a24.1.ao,l25))
     else
      bif !a2.2 then
       aeE (.next (aj .i64 (a+1),(b,d,e,f,g,h,i,j,k,l,m,n,o,q,r,t,u,v,w,x,y,z,A,B,C,D)))
      else
       bif aeJ (0<=n1) then
        aeE (.next (aj .i64 (a+1),(b,d,e,f,g,h,i,j,k,l,m,n,o,q,r,t,u,v,w,x,y,z,A,B,C,D)))
       else
        (fQ (aU.mk y z A)).bind fun b26=>
        bif !b26 then
         aeE (.done (aI.mk (0,0) (Field.mk []) (bj.mk 0 []) (aH.mk (aU.mk [] [] []) [] []) [],18))
        else
         (eh (aH.mk (aU.mk y z A) B C) a2.1 a0.1).bind fun a27=>
         (bL D [(a0.1,a27.2)]).bind fun l28=>
         aeE (.next (aj .i64 (a+1),b,d,e,f,g,h,i,j,k,l,m,n,o,q,r,t,u,v,w,x,a27.1.ai.aq,a27.1.ai.bi,a27.1.ai.bv,a27.1.ce,a27.1.ao,l28))
   else
    bif !a2.2 then
     bif aeJ (0<=n1) then
      (aC m n1).bind fun a29=>
      (jJ (aH.mk (aU.mk y z A) B C) a29.2).bind fun O7=>
      bif !a2.2 then
       aeE (.next (aj .i64 (a+1),b,d,e,f,g,h,i,j,k,l,m,n,o,q,r,t,u,v,w,x,O7.ai.aq,O7.ai.bi,O7.ai.bv,O7.ce,O7.ao,D))
      else
       bif aeJ (0<=n1) then
        aeE (.next (aj .i64 (a+1),b,d,e,f,g,h,i,j,k,l,m,n,o,q,r,t,u,v,w,x,O7.ai.aq,O7.ai.bi,O7.ai.bv,O7.ce,O7.ao,D))
       else
        (fQ O7.ai).bind fun b31=>
        bif !b31 then
         aeE (.done (aI.mk (0,0) (Field.mk []) (bj.mk 0 []) (aH.mk (aU.mk [] [] []) [] []) [],18))
        else
         (eh O7 a2.1 a0.1).bind fun a32=>
         (bL D [(a0.1,a32.2)]).bind fun l33=>
         aeE (.next (aj .i64 (a+1),b,d,e,f,g,h,i,j,k,l,m,n,o,q,r,t,u,v,w,x,a32.1.ai.aq,a32.1.ai.bi,a32.1.ai.bv,a32.1.ce,a32.1.ao,l33))
     else
      bif !a2.2 then
       aeE (.next (aj .i64 (a+1),(b,d,e,f,g,h,i,j,k,l,m,n,o,q,r,t,u,v,w,x,y,z,A,B,C,D)))
      else
       bif aeJ (0<=n1) then
        aeE (.next (aj .i64 (a+1),(b,d,e,f,g,h,i,j,k,l,m,n,o,q,r,t,u,v,w,x,y,z,A,B,C,D)))
       else
        (fQ (aU.mk y z A)).bind fun b34=>
        bif !b34 then
         aeE (.done (aI.mk (0,0) (Field.mk []) (bj.mk 0 []) (aH.mk (aU.mk [] [] []) [] []) [],18))
        else
         (eh (aH.mk (aU.mk y z A) B C) a2.1 a0.1).bind fun a35=>
         (bL D [(a0.1,a35.2)]).bind fun l36=>
         aeE (.next (aj .i64 (a+1),b,d,e,f,g,h,i,j,k,l,m,n,o,q,r,t,u,v,w,x,a35.1.ai.aq,a35.1.ai.bi,a35.1.ai.bv,a35.1.ce,a35.1.ao,l36))
    else
     bif !a2.2 then
      aeE (.next (aj .i64 (a+1),(b,d,e,f,g,h,i,j,k,l,m,n,o,q,r,t,u,v,w,x,y,z,A,B,C,D)))
     else
      bif aeJ (0<=n1) then
       aeE (.next (aj .i64 (a+1),(b,d,e,f,g,h,i,j,k,l,m,n,o,q,r,t,u,v,w,x,y,z,A,B,C,D)))
      else
       (fQ (aU.mk y z A)).bind fun b37=>
       bif !b37 then
        aeE (.done (aI.mk (0,0) (Field.mk []) (bj.mk 0 []) (aH.mk (aU.mk [] [] []) [] []) [],18))
       else
        (eh (aH.mk (aU.mk y z A) B C) a2.1 a0.1).bind fun a38=>
        (bL D [(a0.1,a38.2)]).bind fun l39=>
        aeE (.next (aj .i64 (a+1),b,d,e,f,g,h,i,j,k,l,m,n,o,q,r,t,u,v,w,x,a38.1.ai.aq,a38.1.ai.bi,a38.1.ai.bv,a38.1.ce,a38.1.ao,l39))
  else
   aeE (.done (aI.mk (t,u) (Field.mk v) (bj.mk w x) (aH.mk (aU.mk y z A) B C) D,0))
noncomputable def lh (p0:aI) (p1:Field):Option (aI×Int):=
 (oe p0).bind fun r0=>
 (uO p1).bind fun r1=>
 aD bZ (0,p0.ii.1,p0.ii.2,p0.io.be,p0.af.aM,p0.af.ci,p0.aa.ai.aq,p0.aa.ai.bi,p0.aa.ai.bv,p0.aa.ce,p0.aa.ao,p0.jp,p1.be,0,0,0,r0.ii.1,r0.ii.2,r1.be,r0.af.aM,r0.af.ci,r0.aa.ai.aq,r0.aa.ai.bi,r0.aa.ai.bv,r0.aa.ce,r0.aa.ao,[])
noncomputable def Bx (p0:bj) (p1:Int×Int):Option (bj×Int×Int):=
 (pf p0).bind fun n0=>
 bif n0 !=0 then
  aeE (bj.mk 0 [],0,8)
 else
  (qM p1).bind fun b1=>
  bif !b1 then
   aeE (bj.mk 0 [],0,8)
  else
   (qx p0 p1).bind fun b2=>
   bif b2 then
    aeE (bj.mk 0 [],0,14)
   else
    bif (v6 (aeD p0.ci))==200 then
     aeE (bj.mk 0 [],0,18)
    else
     bif p0.aM==1000000 then
      aeE (bj.mk 0 [],0,18)
     else
      (uP p0).bind fun r3=>
      (bL r3.ci [(p0.aM,p1)]).bind fun l4=>
      aeE (bj.mk (aj .i64 (r3.aM+1)) l4,p0.aM,0)
noncomputable def kC (p0:aI) (p1:Int×Int):Option (aI×Int×Int):=
 (Bx p0.af p1).bind fun a0=>
 bif a0.2.2 !=0 then
  aeE (aI.mk (0,0) (Field.mk []) (bj.mk 0 []) (aH.mk (aU.mk [] [] []) [] []) [],0,a0.2.2)
 else
  (oe p0).bind fun r1=>
  (oc p0.io p1 p0.ii).bind fun a2=>
  bif !a2.2 then
   aeE (aI.mk r1.ii r1.io a0.1 r1.aa r1.jp,a0.2.1,0)
  else
   (fQ p0.aa.ai).bind fun b3=>
   bif !b3 then
    aeE (aI.mk (0,0) (Field.mk []) (bj.mk 0 []) (aH.mk (aU.mk [] [] []) [] []) [],0,18)
   else
    (eh p0.aa a2.1 a0.2.1).bind fun a4=>
    (bL r1.jp [(a0.2.1,a4.2)]).bind fun l5=>
    aeE (aI.mk r1.ii r1.io a0.1 a4.1 l5,a0.2.1,0)
noncomputable def dm (s:((List (Int×Int))×Int×Int×Int×Int×Int×Int×(List (Int×Int×Int))×Int×(List (Int×Int×Int))×(List Int)×(List Bool)×(List Int)×(List (Int×Int×Int×Int×Int))×(List Int)×(List (Int×Int×Int)))):Option (Step ((List (Int×Int))×Int×Int×Int×Int×Int×Int×(List (Int×Int×Int))×Int×(List (Int×Int×Int))×(List Int)×(List Bool)×(List Int)×(List (Int×Int×Int×Int×Int))×(List Int)×(List (Int×Int×Int))) (Step ((List (Int×Int))×Int×Int×Int×(List (Int×Int×Int))×Int×(List (Int×Int×Int))×(List Int)×(List Bool)×(List Int)×(List (Int×Int×Int×Int×Int))×(List Int)×(List (Int×Int×Int))×(List (Int×Int×Int))×Int×Int×Int×Int×Int×(List (Int×Int×Int))×Int×(List (Int×Int×Int))×(List Int)×(List Bool)×(List Int)×(List (Int×Int×Int×Int×Int))×(List Int)×(List (Int×Int×Int))) (aI×Int))):=
 match s with
 |(a,b,d,e,f,g,h,i,j,k,l,m,n,o,q,r)=>
  bif aeJ (b<(v6 (aeD a))) then
   (aC a b).bind fun a0=>
   (qx (bj.mk j k) a0).bind fun b1=>
   bif b1 then
    aeE (.next (a,aj .i64 (b+1),(d,e,f,g,h,i,j,k,l,m,n,o,q,r)))
   else
    (aC a b).bind fun a2=>
    (kC (aI.mk (g,h) (Field.mk i) (bj.mk j k) (aH.mk (aU.mk l m n) o q) r) a2).bind fun a3=>
    bif a3.2.2 !=0 then
     aeE (.done (.done (aI.mk (0,0) (Field.mk []) (bj.mk 0 []) (aH.mk (aU.mk [] [] []) [] []) [],a3.2.2)))
    else
     aeE (.next (a,aj .i64 (b+1),d,e,f,a3.1.ii.1,a3.1.ii.2,a3.1.io.be,a3.1.af.aM,a3.1.af.ci,a3.1.aa.ai.aq,a3.1.aa.ai.bi,a3.1.aa.ai.bv,a3.1.aa.ce,a3.1.aa.ao,a3.1.jp))
  else
   aeE (.done (.done (aI.mk (g,h) (Field.mk i) (bj.mk j k) (aH.mk (aU.mk l m n) o q) r,0)))
noncomputable def cT (s:((List (Int×Int))×Int×Int×Int×(List (Int×Int×Int))×Int×(List (Int×Int×Int))×(List Int)×(List Bool)×(List Int)×(List (Int×Int×Int×Int×Int))×(List Int)×(List (Int×Int×Int))×(List (Int×Int×Int))×Int×Int×Int×Int×Int×(List (Int×Int×Int))×Int×(List (Int×Int×Int))×(List Int)×(List Bool)×(List Int)×(List (Int×Int×Int×Int×Int))×(List Int)×(List (Int×Int×Int)))):Option (Step ((List (Int×Int))×Int×Int×Int×(List (Int×Int×Int))×Int×(List (Int×Int×Int))×(List Int)×(List Bool)×(List Int)×(List (Int×Int×Int×Int×Int))×(List Int)×(List (Int×Int×Int))×(List (Int×Int×Int))×Int×Int×Int×Int×Int×(List (Int×Int×Int))×Int×(List (Int×Int×Int))×(List Int)×(List Bool)×(List Int)×(List (Int×Int×Int×Int×Int))×(List Int)×(List (Int×Int×Int))) (aI×Int)):=
 match s with
 |(a,b,d,e,f,g,h,i,j,k,l,m,n,o,q,r,t,u,v,w,x,y,z,A,B,C,D,E)=>
  bif aeJ (b<(v6 (aeD h))) then
   (aC h b).bind fun a0=>
   (nj a a0.2).bind fun b1=>
   bif !b1 then
    (aC h b).bind fun a2=>
    (og (aI.mk (u,v) (Field.mk w) (bj.mk x y) (aH.mk (aU.mk z A B) C D) E) a2.1).bind fun r3=>
    aeE (.next (a,aj .i64 (b+1),d,e,f,g,h,i,j,k,l,m,n,o,q,r,t,r3.ii.1,r3.ii.2,r3.io.be,r3.af.aM,r3.af.ci,r3.aa.ai.aq,r3.aa.ai.bi,r3.aa.ai.bv,r3.aa.ce,r3.aa.ao,r3.jp))
   else
    aeE (.next (a,aj .i64 (b+1),(d,e,f,g,h,i,j,k,l,m,n,o,q,r,t,u,v,w,x,y,z,A,B,C,D,E)))
  else
   (lO (Field.mk w) (Field.mk o)).bind fun b4=>
   bif !b4 then
    (lh (aI.mk (u,v) (Field.mk w) (bj.mk x y) (aH.mk (aU.mk z A B) C D) E) (Field.mk o)).bind fun a5=>
    bif a5.2 !=0 then
     aeE (.done (aI.mk (0,0) (Field.mk []) (bj.mk 0 []) (aH.mk (aU.mk [] [] []) [] []) [],a5.2))
    else
     aD dm (a,0,q,r,t,a5.1.ii.1,a5.1.ii.2,a5.1.io.be,a5.1.af.aM,a5.1.af.ci,a5.1.aa.ai.aq,a5.1.aa.ai.bi,a5.1.aa.ai.bv,a5.1.aa.ce,a5.1.aa.ao,a5.1.jp)
   else
    aD dm (a,0,(q,r,t,u,v,w,x,y,z,A,B,C,D,E))
noncomputable def sM (p0:aI) (p1:Field) (p2:List (Int×Int)):Option (aI×Int):=
 (oe p0).bind fun r0=>
 aD cT (p2,0,p0.ii.1,p0.ii.2,p0.io.be,p0.af.aM,p0.af.ci,p0.aa.ai.aq,p0.aa.ai.bi,p0.aa.ai.bv,p0.aa.ce,p0.aa.ao,p0.jp,p1.be,0,0,0,r0.ii.1,r0.ii.2,r0.io.be,r0.af.aM,r0.af.ci,r0.aa.ai.aq,r0.aa.ai.bi,r0.aa.ai.bv,r0.aa.ce,r0.aa.ao,r0.jp)
noncomputable def sd (s:(Int×Int×Int×(List (Int×Int×Int)))):Option (Step (Int×Int×Int×(List (Int×Int×Int))) Int):=
 bif aeJ (s.2.1<(v6 (aeD s.2.2.2))) then
  (aC s.2.2.2 s.2.1).bind fun a0=>
  bif a0.1==s.1 then
   aeE (.done s.2.1)
  else
   aeE (.next (s.1,aj .i64 (s.2.1+1),s.2.2))
 else
  aeE (.done (-1))
noncomputable def Jl (p0:bj) (p1:Int):Option Int:=
 aD sd (p1,0,p0.aM,p0.ci)
noncomputable def Ap (p0:aI):Option (aI×(Int×Int×Int×Int×Int)×(Int×Int)):=
 (aC p0.aa.ce 0).bind fun a0=>
 (Jl p0.af a0.2.2.1).bind fun n1=>
 (aC p0.af.ci n1).bind fun a2=>
 (og p0 a0.2.2.1).bind fun r3=>
 aeE (aI.mk (a0.1,a0.2.1) r3.io r3.af r3.aa r3.jp,a0,a2.2)
noncomputable def nq (s:((List Int)×Int×Int)):Option (Step ((List Int)×Int×Int) Int):=
 bif aeJ (s.2.2<(v6 (aeD s.1))) then
  (aC s.1 s.2.2).bind fun n0=>
  bif n0==s.2.1 then
   aeE (.done s.2.2)
  else
   aeE (.next (s.1,s.2.1,aj .i64 (s.2.2+1)))
 else
  aeE (.done (-1))
noncomputable def Jm (p0:List Int) (p1:Int):Option Int:=
 aD nq (p0,p1,0)
structure alG where
 lc:Int
 lm:List (Int×Int×Int)
structure Hj where
 kw:aI
 ls:alG
abbrev uQ (n:Int):Prop:= -9223372036854775808<=n/\n<9223372036854775808
abbrev Rt (n:Int):Prop:=0<=n/\n<18446744073709551616
theorem wi (n:Int):aj .i64 n=(n+9223372036854775808)%18446744073709551616-9223372036854775808:=by
 rw [qE];simp only [IntKind.wrap,IntKind.bits,IntKind.signed,Bool.true_and];have e1:(2:Int)^64=18446744073709551616:=by decide
 have e2:(2:Int)^(64-1)=9223372036854775808:=by decide
 simp only [e1,e2,decide_eq_true_eq];split<;>omega
theorem wu (n:Int):aj .u64 n=n%18446744073709551616:=by
 rw [qE];simp only [IntKind.wrap,IntKind.bits,IntKind.signed,Bool.false_and];have e1:(2:Int)^64=18446744073709551616:=by decide
 simp only [e1];simp
theorem B' {n:Int} (h:uQ n):aj .i64 n=n:=by rw [wi];omega
theorem dS {a b:Int} (h:a≠b):(a !=b)=aeH:=by simpa using h
theorem cK {a b:Int} (h:a=b):(a !=b)=aeI:=by simpa using h
theorem dB {a b:Int} (h:a=b):(a==b)=aeH:=by simpa using h
theorem dL {a b:Int} (h:a≠b):(a==b)=aeI:=by simpa using h
theorem MX (a b:Int):(a==b)=aeJ (a=b):=by
 by_cases h:a=b
 · rw [dB h,decide_eq_true h]
 rw [dL h,decide_eq_false h]
theorem lt_or_ge (a b:Int):a<b\/b<=a:=by omega
theorem ado (a:Int):my .u64 a 32=a / 4294967296:=by unfold my;rw [show (min (32:Int).toNat (IntKind.bits .u64))=32 from by decide,show (2:Int)^32=4294967296 from by decide];exact adz _ (by decide)
theorem Lw {a:Int} (h:Rt a):Cs .u64 a 4294967295=a%4294967296:=by
 obtain ⟨n,rfl⟩:=ad5 h.1;unfold Cs;have e:(BitVec.ofInt (IntKind.bits .u64) (n:Int)&&&BitVec.ofInt (IntKind.bits .u64) 4294967295).toNat=n%4294967296:=by
  rw [BitVec.toNat_and];have e1:(BitVec.ofInt (IntKind.bits .u64) (n:Int)).toNat=n:=by
   rw [BitVec.toNat_ofInt];have:((2^(IntKind.bits .u64):Nat):Int)=18446744073709551616:=by decide
   rw [this];omega
  have e2:(BitVec.ofInt (IntKind.bits .u64) (4294967295:Int)).toNat=2^32-1:=by decide
  rw [e1,e2,Nat.and_two_pow_sub_one_eq_mod]
 rw [e];have:=wu ((n%4294967296:Nat):Int);rw [qE] at this;rw [this];omega
theorem MY {a b:Nat} (ha:a<1000000000) (hb:b<1000000000):aj .i64 (my .u64 (aj .u64 (aj .i64 ((a:Int)+(b:Int)))) 1)=(((a+b) / 2:Nat):Int):=by unfold my;rw [show (min (1:Int).toNat (IntKind.bits .u64))=1 from by decide,show (2:Int)^1=2 from by decide,adz _ (by decide),wi (_+_),wu,wi];omega
section
variable {σ ρ : Type} {body : σ -> Option (Step σ ρ)}
theorem gr (st:Nat->σ) (n:Nat) (h: ∀i,i<n->body (st i)=aeE (.next (st (i+1)))):aD body (st 0)=aD body (st n):=by
 induction n with
 |zero=>rfl
 |succ n ih=>rw [ih fun i hi=>h i (by omega)];exact aX (h n (by omega))
theorem cJ (st:Nat->σ) (n:Nat) (c:Nat->Prop) {r e:ρ} (h: ∀i,i<n->(c i->body (st i)=aeE (.done r))/\(¬c i->body (st i)=aeE (.next (st (i+1)))))
 (Ru:body (st n)=aeE (.done e)):((∃i,i<n/\c i)->aD body (st 0)=aeE r)/\((∀i,i<n-> ¬c i)->aD body (st 0)=aeE e):=by
 constructor
 · rintro ⟨i,hi,hc⟩
   have key: ∀k,k<=n->(∃i,i<n/\n-k<=i/\c i)->aD body (st (n-k))=aeE r:=by
    intro k
    induction k with
    |zero=>rintro _ ⟨i,h1,h2,_⟩;omega
    |succ k ih=>
     rintro hk ⟨i,h1,h2,h3⟩
     by_cases hc:c (n- (k+1))
     · exact aJ ((h _ (by omega)).1 hc)
     rw [aX ((h _ (by omega)).2 hc),show n- (k+1)+1=n-k by omega]
     refine ih (by omega) ⟨i,h1,?_,h3⟩
     by_cases he:i=n- (k+1)
     · subst he;exact absurd h3 hc
     omega
   have:=key n (ae6 n) ⟨i,hi,by omega,hc⟩
   rwa [Nat.sub_self] at this
 intro hn
 rw [gr st n fun i hi=>(h i hi).2 (hn i hi)];exact aJ Ru
theorem least {c:Nat->Prop}: ∀{n:Nat},(∃i,i<n/\c i)-> ∃k,k<n/\c k/\ ∀j,j<k-> ¬c j
 |0,h=>by obtain ⟨i,hi,_⟩:=h;omega
 |n+1,h=>by
  by_cases hx: ∃i,i<n/\c i
  · obtain ⟨k,h1,h2,h3⟩:=least hx
    exact ⟨k,by omega,h2,h3⟩
  obtain ⟨i,hi,hc⟩:=h
  refine ⟨i,hi,hc,fun j hj hcj=>hx ⟨j,by omega,hcj⟩⟩
theorem ik (st:Nat->σ) (n:Nat) (c:Nat->Prop) (r:Nat->ρ) {e:ρ} (h: ∀i,i<n->(c i->body (st i)=aeE (.done (r i)))/\(¬c i->body (st i)=aeE (.next (st (i+1)))))
 (Ru:body (st n)=aeE (.done e)):(∀k,k<n->c k->(∀j,j<k-> ¬c j)->aD body (st 0)=aeE (r k))/\((∀i,i<n-> ¬c i)->aD body (st 0)=aeE e):=by
 constructor
 · intro k hk hc hj
   rw [gr st k fun i hi=>(h i (by omega)).2 (hj i hi)];exact aJ ((h k hk).1 hc)
 intro hn
 rw [gr st n fun i hi=>(h i hi).2 (hn i hi)];exact aJ Ru
theorem xC (st:Nat->Nat->σ) (n m:Nat) (c:Nat->Prop)
 (h: ∀lo hi,lo<hi->hi<=n->(c ((lo+hi) / 2)->body (st lo hi)=aeE (.next (st ((lo+hi) / 2+1) hi)))/\(¬c ((lo+hi) / 2)->body (st lo hi)=aeE (.next (st lo ((lo+hi) / 2)))))
 (h1: ∀i,i<m->c i) (h2: ∀i,m<=i->i<n-> ¬c i): ∀d lo hi,hi-lo<=d->lo<=m->m<=hi->hi<=n->aD body (st lo hi)=aD body (st m m)
 |0,lo,hi,hd,a,b,_=>by
  have e1:lo=m:=by omega
  have e2:hi=m:=by omega
  rw [e1,e2]
 |d+1,lo,hi,hd,a,b,e=>by
  by_cases hl:lo<hi
  · by_cases hc:c ((lo+hi) / 2)
    · rw [aX ((h lo hi hl e).1 hc)]
      refine xC st n m c h h1 h2 d _ _ (by omega) ?_ b e;refine NE fun hx=>?_
      exact h2 ((lo+hi) / 2) (by omega) (by omega) hc
    rw [aX ((h lo hi hl e).2 hc)]
    refine xC st n m c h h1 h2 d _ _ (by omega) a ?_ (by omega);refine NE fun hx=>?_
    exact hc (h1 ((lo+hi) / 2) (by omega))
  have e1:lo=m:=by omega
  have e2:hi=m:=by omega
  rw [e1,e2]
end
section
variable {α : Type} [Inhabited α]
theorem au (l:List α) (n:Nat) (h:n<aeD l):aC l (n:Int)=aeE l[n]!:=by show l[n]? =aeE l[n]!;rw [adW h,getElem!_pos l n h]
theorem cZ {l:List α} {i:Int} (h0:0<=i) (h:i<aeD l):aC l i=aeE l[i.toNat]!:=by obtain ⟨n,rfl⟩:=ad5 h0;exact au l n (by omega)
theorem lq {β:Type} (l:List β) (n:Nat) (a:β):bP l (n:Int) a=l.set n a:=rfl
theorem bc (l:List α) (n m:Nat) (a:α):(l.set n a)[m]! =if m=n/\n<(aeD l) then a else l[m]!:=by
 by_cases hm:m<aeD l
 · rw [getElem!_pos (l.set n a) m (by simpa using hm),getElem!_pos l m hm,List.getElem_set]
   split
   · rw [rc (by omega)]
   rw [sp (by omega)]
 rw [getElem!_neg (l.set n a) m (by simpa using hm),getElem!_neg l m hm]
 split
 · omega
 rfl
theorem aN {l:List α} {x:α}:x∈l↔ ∃i,i<aeD l/\l[i]! =x:=by
 rw [List.mem_iff_getElem];constructor
 · rintro ⟨i,h,rfl⟩;exact ⟨i,h,getElem!_pos l i h⟩
 rintro ⟨i,h,rfl⟩;exact ⟨i,h,(getElem!_pos l i h).symm⟩
theorem aR {l:List α} {i:Nat} (h:i<aeD l):l[i]!∈l:=aN.2 ⟨i,h,rfl⟩
theorem eM {l m:List α} {i:Nat} (h:i<aeD l):(l++m)[i]! =l[i]!:=by rw [getElem!_pos (l++m) i (by simp;omega),getElem!_pos l i h,List.getElem_append_left h]
theorem fC {l m:List α} {i:Nat} (h:(aeD l)<=i):(l++m)[i]! =m[i-(aeD l)]!:=by
 by_cases hi:i<aeD l+aeD m
 · rw [getElem!_pos (l++m) i (by simp;omega),getElem!_pos m (i-(aeD l)) (by omega),List.getElem_append_right h]
 rw [getElem!_neg (l++m) i (by simp;omega),getElem!_neg m (i-(aeD l)) (by omega)]
theorem jK {l:List α} {n i:Nat} (h:i<n):(l.take n)[i]! =l[i]!:=by
 by_cases hi:i<aeD l
 · rw [getElem!_pos (l.take n) i (by simp;omega),getElem!_pos l i hi,List.getElem_take]
 rw [getElem!_neg (l.take n) i (by simp;omega),getElem!_neg l i hi]
theorem qy {l:List α} {n i:Nat}:(l.drop n)[i]! =l[n+i]!:=by
 by_cases hi:n+i<aeD l
 · rw [getElem!_pos (l.drop n) i (by simp;omega),getElem!_pos l (n+i) hi,List.getElem_drop]
 rw [getElem!_neg (l.drop n) i (by simp;omega),getElem!_neg l (n+i) hi]
theorem Aq {l m:List α} (hl:(aeD l)=aeD m) (h: ∀i,i<aeD l->l[i]! =m[i]!):l=m:=by
 apply List.ext_getElem hl;intro i h1 h2;have:=h i h1
 rwa [getElem!_pos l i h1,getElem!_pos m i h2] at this
theorem Rv {l:List α} {i:Nat} (h:i<aeD l):l=l.take i++l[i]!::l.drop (i+1):=by rw [getElem!_pos l i h,List.getElem_cons_drop,List.take_append_drop]
end
theorem bo {α:Type} {l:List α} (h:(aeD l)<=1048576):cz l=aeE l:=by unfold cz;rw [rc h]
theorem eW {α:Type} {l m:List α} (h:(aeD l)+aeD m<=1048576):bL l m=aeE (l++m):=by unfold bL;rw [rc h]
@[simp] theorem ar {α β:Type} (a:α) (f:α->Option β):(aeE a).bind f=f a:=rfl
end Go.Proofs.YtmikolhhnhndkaaGreat
namespace Go.Proofs.YtmikolhhnhndkaaGreat
open Go.Vm Classical
theorem iC {n:Int} (h:uQ n):fP n=aeE (n.natAbs:Int):=by
 unfold fP;simp only [wi,wu]
 by_cases hn:n<0
 · simp only [hn,decide_true,lw,Do];omega
 simp only [hn,decide_false,pp,Do];omega
theorem nu {n:Int} (h:uQ n):jG n=aeE (n.natAbs:Int):=by
 unfold jG;simp only [wu]
 by_cases hn:n<0
 · simp only [hn,decide_true,lw,Do];omega
 simp only [hn,decide_false,pp,Do];omega
theorem oj (m n:Nat):mY m n=aeE (EQ m n:Int):=by
 unfold mY
 induction n using aem generalizing m with
 |ind n ih=>
  by_cases h0:n=0
  · subst h0
    rw [aee];exact aJ (by simp [lB])
  have e:lB ((m:Int),(n:Int))=aeE (.next ((n:Int),((m%n:Nat):Int))):=by
   have h1:((n:Int) !=0)=aeH:=by simp;omega
   have h2:((n:Int)==0)=aeI:=by simp;omega
   simp only [lB,h1,h2,lw,pp,aev]
  rw [aX e,ih (m%n) (Nat.mod_lt _ (by omega)) n,ad6 m n,Nat.gcd_rec n m,ad6]
theorem ym (m n:Nat):tq m n=aeE (EQ m n:Int):=by
 unfold tq
 induction n using aem generalizing m with
 |ind n ih=>
  by_cases h0:n=0
  · subst h0
    rw [aee];exact aJ (by simp [qg])
  have e:qg ((m:Int),(n:Int))=aeE (.next ((n:Int),((m%n:Nat):Int))):=by
   have h1:aeJ (0<(n:Int))=aeH:=by simp;omega
   have h2:((n:Int)==0)=aeI:=by simp;omega
   simp only [qg,h1,h2,lw,pp,aev]
  rw [aX e,ih (m%n) (Nat.mod_lt _ (by omega)) n,ad6 m n,Nat.gcd_rec n m,ad6]
def aZ (r:Int×Int):Prop:=1<=r.2/\r.1≠ -9223372036854775808/\EQ r.2.natAbs r.1.natAbs=1
abbrev jP (r:Int×Int):Prop:=uQ r.1/\uQ r.2
theorem df {r:Int×Int} (h:jP r):dV r=aeE (if aZ r then 0 else 8):=by
 obtain ⟨a,b⟩:=r;obtain ⟨ha,hb⟩:=h;unfold dV aZ;dsimp only at ha hb ⊢
 by_cases h1:b<1
 · rw [sp (by omega)];simp [h1]
 by_cases h2:a= -9223372036854775808
 · rw [sp (by omega)];simp [h1,h2]
 have e2:(a== -9223372036854775808)=aeI:=by simpa using h2
 have e3:aj .u64 b=(b.natAbs:Int):=by rw [wu];omega
 simp only [h1,decide_false,pp,e2,nu ha,ar,e3,ym];have hp:0<EQ b.natAbs a.natAbs:=Nat.gcd_pos_of_pos_left _ (by omega)
 by_cases h3:EQ b.natAbs a.natAbs=1
 · rw [rc ⟨by omega,h2,h3⟩,h3];rfl
 rw [sp (fun h=>h3 h.2.2)]
 have:aeJ (1<(EQ b.natAbs a.natAbs:Int))=aeH:=by simp;omega
 rw [this];rfl
theorem qS {r:Int×Int} (h:jP r):mi r=aeE (if aZ r then 0 else 8):=by
 obtain ⟨a,b⟩:=r;obtain ⟨ha,hb⟩:=h;unfold mi aZ;dsimp only at ha hb ⊢
 by_cases h1:b<1
 · rw [sp (by omega)];simp [h1]
 by_cases h2:a= -9223372036854775808
 · rw [sp (by omega)];simp [h1,h2]
 have e2:(a== -9223372036854775808)=aeI:=by simpa using h2
 have e3:aj .u64 b=(b.natAbs:Int):=by rw [wu];omega
 simp only [h1,decide_false,pp,e2,iC ha,ar,e3,oj];rw [ad6]
 by_cases h3:EQ b.natAbs a.natAbs=1
 · rw [rc ⟨by omega,h2,h3⟩,h3];rfl
 rw [sp (fun h=>h3 h.2.2)]
 have:((EQ b.natAbs a.natAbs:Int) !=1)=aeH:=by simp;omega
 rw [this];rfl
theorem Rw (x y:Int) (hx:Rt x) (hy:Rt y): ∃p q r s:Int,0<=p/\p<=18446744065119617025/\0<=q/\q<=18446744065119617025/\0<=r/\r<=18446744065119617025/\0<=s/\s<=18446744065119617025/\
 x / 4294967296*(y / 4294967296)=p/\x / 4294967296*(y%4294967296)=q/\x%4294967296*(y / 4294967296)=r/\x%4294967296*(y%4294967296)=s/\
 x*y=p*18446744073709551616+(q+r)*4294967296+s:=by
 have O2:0<=x / 4294967296/\x / 4294967296<=4294967295:=by omega
 have IE:0<=x%4294967296/\x%4294967296<=4294967295:=by omega
 have hy1:0<=y / 4294967296/\y / 4294967296<=4294967295:=by omega
 have Oe:0<=y%4294967296/\y%4294967296<=4294967295:=by omega
 have ex:x=x / 4294967296*4294967296+x%4294967296:=by omega
 have ey:y=y / 4294967296*4294967296+y%4294967296:=by omega
 generalize x / 4294967296=a at*;generalize x%4294967296=b at*;generalize y / 4294967296=c at*;generalize y%4294967296=d at*;have bd: ∀{u v:Int},0<=u/\u<=4294967295->0<=v/\v<=4294967295->0<=u*v/\u*v<=18446744065119617025:=by
  intro u v hu hv;refine ⟨ae9 hu.1 hv.1,?_⟩
  calc u*v<=4294967295*4294967295:=adA hu.2 hv.2 hv.1 (by decide)
   _=_:=by decide
 refine ⟨a*c,a*d,b*c,b*d,(bd O2 hy1).1,(bd O2 hy1).2,(bd O2 Oe).1,(bd O2 Oe).2,(bd IE hy1).1,(bd IE hy1).2,(bd IE Oe).1,(bd IE Oe).2,rfl,rfl,rfl,rfl,?_⟩;rw [ex,ey]
 grind
theorem Ep {x y:Int} (hx:Rt x) (hy:Rt y):fO x y=aeE (x*y / 18446744073709551616,x*y%18446744073709551616):=by
 unfold fO;obtain ⟨p,q,r,s,p0,p1,q0,q1,r0,r1,s0,s1,ep,eq,er,es,exy⟩:=Rw x y hx hy;have key: ∀z:Int,Cs .u64 (z%18446744073709551616) 4294967295=z%18446744073709551616%4294967296:=fun z=>Lw (by constructor<;>omega)
 simp only [ado,Lw hx,Lw hy,wu,key,ep,eq,er,es,exy,Do,ad0,and_true];clear ep eq er es exy key hx hy;have e1:s%18446744073709551616=s:=by omega
 have e2:(q+s / 4294967296)%18446744073709551616=q+s / 4294967296:=by omega
 have ep:p%18446744073709551616=p:=by omega
 have eq:q%18446744073709551616=q:=by omega
 have er:r%18446744073709551616=r:=by omega
 rw [e1,ep,eq,er,e2];have e3:s=s / 4294967296*4294967296+s%4294967296:=by omega
 have e4:q+s / 4294967296=(q+s / 4294967296) / 4294967296*4294967296+(q+s / 4294967296)%4294967296:=by omega
 have b1:0<=s%4294967296/\s%4294967296<4294967296:=by omega
 have b2:0<=(q+s / 4294967296)%4294967296/\(q+s / 4294967296)%4294967296<4294967296:=by omega
 have b3:0<=(q+s / 4294967296) / 4294967296/\(q+s / 4294967296) / 4294967296<=4294967295:=by omega
 have b4:0<=s / 4294967296/\s / 4294967296<=4294967295:=by omega
 generalize (q+s / 4294967296) / 4294967296=t1 at*;generalize (q+s / 4294967296)%4294967296=t0 at*;generalize s / 4294967296=c1 at*;generalize s%4294967296=c0 at*;clear e1 e2;have e5:(t0+r)%18446744073709551616=t0+r:=by omega
 rw [e5];have e6:t0+r=(t0+r) / 4294967296*4294967296+(t0+r)%4294967296:=by omega
 have b5:0<=(t0+r)%4294967296/\(t0+r)%4294967296<4294967296:=by omega
 have b6:0<=(t0+r) / 4294967296/\(t0+r) / 4294967296<=4294967295:=by omega
 generalize (t0+r) / 4294967296=u1 at*;generalize (t0+r)%4294967296=u0 at*;omega
theorem Lx {x y:Int} (hx:Rt x) (hy:Rt y):oH x y=aeE (aeI,x*y / 18446744073709551616,x*y%18446744073709551616):=by
 unfold oH;obtain ⟨p,q,r,s,p0,p1,q0,q1,r0,r1,s0,s1,ep,eq,er,es,exy⟩:=Rw x y hx hy;have t1: ∀a:Int,0<=a->ac6 a 4294967296=a / 4294967296:=fun a h=>adB h
 have t2: ∀a:Int,0<=a->Int.tmod a 4294967296=a%4294967296:=fun a h=>Int.tmod_eq_emod_of_nonneg h
 simp only [wu];rw [t1 x hx.1,t1 y hy.1,t2 x hx.1,t2 y hy.1];have f1:x / 4294967296%18446744073709551616=x / 4294967296:=by omega
 have f2:y / 4294967296%18446744073709551616=y / 4294967296:=by omega
 simp only [f1,f2,ep,eq,er,es];have g: ∀a:Int,ac6 (a%18446744073709551616) 4294967296=a%18446744073709551616 / 4294967296:=fun a=>t1 _ (by omega)
 have g2: ∀a:Int,Int.tmod (a%18446744073709551616) 4294967296=a%18446744073709551616%4294967296:=fun a=>t2 _ (by omega)
 simp only [g,g2,exy,Do,ad0,true_and];constructor<;>omega
abbrev B64 (a:Bool×Int×Int):Prop:=Rt a.2.1/\Rt a.2.2
theorem xD {n:Int} (h:uQ n):Rt (n.natAbs:Int):=by constructor<;>omega
theorem xE {n:Int} (h:uQ n):(n.natAbs:Int)<=9223372036854775808:=by omega
theorem Ar (a b:Int):((a.natAbs:Int)*(b.natAbs:Int))=((a*b).natAbs:Int):=by rw [Int.natAbs_mul];rfl
theorem qT {a b:Int} (ha:uQ a) (hb:uQ b):((a*b).natAbs:Int)<=85070591730234615865843651857942052864:=by
 rw [<- Ar]
 calc (a.natAbs:Int)*(b.natAbs:Int)<=9223372036854775808*9223372036854775808:=adA (xE ha) (xE hb) (by omega) (by decide)
  _=_:=by decide
theorem uR {a b:Int} (ha:uQ a) (hb:uQ b):
 iA a b=aeE (aeJ (a*b<0),((a*b).natAbs:Int) / 18446744073709551616,((a*b).natAbs:Int)%18446744073709551616):=by
 unfold iA;simp only [iC ha,iC hb,ar,Lx (xD ha) (xD hb),Ar];have hs:(a*b<0)↔((a<0/\0<b)\/(0<a/\b<0)):=by
  constructor
  · intro h
    rcases adU a 0 with h1|h1|h1
    · rcases adU b 0 with h2|h2|h2
      · have:=Int.mul_pos_of_neg_of_neg h1 h2;omega
      · subst h2;simp at h
      exact .inl ⟨h1,h2⟩
    · subst h1;simp at h
    rcases adU b 0 with h2|h2|h2
    · exact .inr ⟨h1,h2⟩
    · subst h2;simp at h
    have:=Int.mul_pos h1 h2;omega
  rintro (⟨h1,h2⟩|⟨h1,h2⟩)
  · exact ad4 h1 h2
  exact Int.mul_neg_of_pos_of_neg h1 h2
 have hd:aeJ (a*b<0)=aeJ ((a<0/\0<b)\/(0<a/\b<0)):=by simp only [hs]
 rw [hd];clear hd hs;generalize ((a*b).natAbs:Int)=z
 by_cases h1:a<0
 · have O3: ¬0<a:=by omega
   have agP:(a !=0)=aeH:=dS (by omega)
   by_cases h2:b<0
   · have YW: ¬0<b:=by omega
     simp [h1,h2,O3,YW]
   by_cases h3:b=0
   · simp [h1,h3,agP]
   have h3':0<b:=by omega
   simp [h1,h2,h3',agP,dS h3]
 by_cases h0:a=0
 · subst h0
   by_cases h2:b<0<;>simp [h2]
 have O3:0<a:=by omega
 by_cases h2:b<0
 · have YW:(b !=0)=aeH:=dS (by omega)
   simp [h1,h2,O3,dS h0,YW]
 simp [h1,h2,O3]
theorem Jn {a b:Int} (ha:uQ a) (hb:uQ b):
 oY a b=aeE (!(aeJ (a<0)==aeJ (b<0)),((a*b).natAbs:Int) / 18446744073709551616,((a*b).natAbs:Int)%18446744073709551616):=by
 unfold oY;simp only [nu ha,nu hb,ar,Ep (xD ha) (xD hb),Ar]
def gU (a b:Int):Int:=if a<b then -1 else if b<a then 1 else 0
theorem yn (a b:Int):hZ a b=aeE (gU a b):=by
 unfold hZ lA gU
 by_cases h1:a<b<;>by_cases h2:b<a<;>simp [h1,h2]
theorem Fm (a b:Int):gF a b=aeE (gU a b):=by
 unfold gF kN gU
 by_cases h1:a<b<;>by_cases h2:b<a<;>simp [h1,h2]
theorem gM (a b:Int):de a b=aeE (gU a b):=by
 unfold de cmp_isNaN_int gU
 by_cases h1:a<b<;>by_cases h2:b<a<;>simp [h1,h2]
theorem cH (a b:Int):(a<b/\gU a b= -1)\/(a=b/\gU a b=0)\/(b<a/\gU a b=1):=by
 unfold gU
 by_cases h1:a<b
 · exact .inl ⟨h1,by rw [rc h1]⟩
 by_cases h2:b<a
 · exact .inr (.inr ⟨h2,by rw [sp h1,rc h2]⟩)
 exact .inr (.inl ⟨by omega,by rw [sp h1,sp h2]⟩)
theorem Hk (a b:Bool×Int×Int) (ha:B64 a) (hb:B64 b):nY a b=aeE (gU (a.2.1*18446744073709551616+a.2.2) (b.2.1*18446744073709551616+b.2.2)):=by
 obtain ⟨s,ah,al⟩:=a;obtain ⟨t,bh,bl⟩:=b;obtain ⟨⟨a1,a2⟩,a3,a4⟩:=ha;obtain ⟨⟨b1,b2⟩,b3,b4⟩:=hb;dsimp only at*;unfold nY gU;dsimp only
 by_cases h1:ah=bh
 · subst h1
   by_cases h2:al=bl
   · subst h2;simp
   by_cases h3:al<bl
   · simp [dS h2,h3]
   rw [sp (by omega),rc (by omega)];simp [dS h2,h3]
 by_cases h3:ah<bh
 · rw [rc (by omega)];simp [dS h1,h3]
 rw [sp (by omega),rc (by omega)];simp [dS h1,h3]
theorem Ly (a b:Bool×Int×Int) (ha:B64 a) (hb:B64 b):oC a b=aeE (gU (a.2.1*18446744073709551616+a.2.2) (b.2.1*18446744073709551616+b.2.2)):=by
 obtain ⟨s,ah,al⟩:=a;obtain ⟨t,bh,bl⟩:=b;obtain ⟨⟨a1,a2⟩,a3,a4⟩:=ha;obtain ⟨⟨b1,b2⟩,b3,b4⟩:=hb;dsimp only at*;unfold oC;simp only [Fm,ar];unfold gU
 by_cases h1:ah=bh
 · subst h1
   by_cases h3:al<bl
   · simp [h3]
   by_cases h2:bl<al
   · rw [sp (show¬(ah*18446744073709551616+al<ah*18446744073709551616+bl) by omega),rc (show ah*18446744073709551616+bl<ah*18446744073709551616+al by omega)];simp [h2,h3]
   have:al=bl:=by omega
   subst this;simp
 by_cases h3:ah<bh
 · rw [rc (show ah*18446744073709551616+al<bh*18446744073709551616+bl by omega)];simp [h3]
 rw [sp (show¬(ah*18446744073709551616+al<bh*18446744073709551616+bl) by omega),rc (show bh*18446744073709551616+bl<ah*18446744073709551616+al by omega)];simp [h3,show bh<ah by omega]
theorem sf (a:Bool) {n:Int} (h0:0<=n) (h:n<=85070591730234615865843651857942052864):B64 (a,n / 18446744073709551616,n%18446744073709551616):=by constructor<;>constructor<;>dsimp only<;>omega
theorem Hl {n:Int} (h:(n.natAbs:Int)<=85070591730234615865843651857942052864):jo (aeJ (n<0),(n.natAbs:Int) / 18446744073709551616,(n.natAbs:Int)%18446744073709551616)=aeE (gU n 0):=by
 unfold jo gU;dsimp only
 by_cases h0:n=0
 · subst h0;simp
 by_cases h1:n<0
 · rw [rc h1]
   by_cases h2:(n.natAbs:Int) / 18446744073709551616=0
   · have h3: ¬((n.natAbs:Int)%18446744073709551616=0):=by omega
     simp [h1,h2,dL h3]
   simp [h1,dL h2]
 rw [sp h1,rc (by omega)]
 by_cases h2:(n.natAbs:Int) / 18446744073709551616=0
 · have h3: ¬((n.natAbs:Int)%18446744073709551616=0):=by omega
   simp [h1,h2,dL h3]
 simp [h1,dL h2]
def eK (a b:Int×Int):Int:=gU (a.1*b.2) (b.1*a.2)
theorem ze {a b:Int×Int} (ha:jP a) (hb:jP b):lf a b=aeE (eK a b):=by
 unfold lf eK;have n1:=qT ha.1 hb.2;have n2:=qT hb.1 ha.2;simp only [uR ha.1 hb.2,uR hb.1 ha.2,ar,Hl n1,Hl n2];generalize a.1*b.2=x at*;generalize b.1*a.2=y at*;rw [Hk _ _ (sf _ (by omega) n1) (sf _ (by omega) n2),Hk _ _ (sf _ (by omega) n2) (sf _ (by omega) n1)];have ex:((x.natAbs:Int) / 18446744073709551616)*18446744073709551616+(x.natAbs:Int)%18446744073709551616=(x.natAbs:Int):=by omega
 have ey:((y.natAbs:Int) / 18446744073709551616)*18446744073709551616+(y.natAbs:Int)%18446744073709551616=(y.natAbs:Int):=by omega
 simp only [ex,ey,ar];rcases cH x 0 with ⟨h1,e1⟩|⟨h1,e1⟩|⟨h1,e1⟩<;>rcases cH y 0 with ⟨h2,e2⟩|⟨h2,e2⟩|⟨h2,e2⟩<;>rw [e1,e2]<;>simp<;>
  unfold gU<;>(repeat' split)<;>first|rfl|omega
theorem WB {a b:Int×Int} (ha:jP a) (hb:jP b):uH a b=aeE (if aZ a/\aZ b then 0 else 8):=by
 unfold uH;simp only [df ha,df hb,ar]
 by_cases h1:aZ a<;>by_cases h2:aZ b<;>simp [h1,h2]
theorem By {a b:Int×Int} (ha:jP a) (hb:jP b):mf a b=aeE (if aZ a/\aZ b then (eK a b,0) else (0,8)):=by
 unfold mf;rw [WB ha hb]
 by_cases h:aZ a/\aZ b
 · rw [rc h,rc h]
   obtain ⟨⟨a1,a2,a3⟩,b1,b2,b3⟩:=h;have n1:=qT ha.1 hb.2;have n2:=qT hb.1 ha.2;simp only [ar,yn,Jn ha.1 hb.2,Jn hb.1 ha.2];rw [Ly _ _ (sf _ (by omega) n1) (sf _ (by omega) n2)];have ex:((a.1*b.2).natAbs:Int) / 18446744073709551616*18446744073709551616+((a.1*b.2).natAbs:Int)%18446744073709551616=((a.1*b.2).natAbs:Int):=by omega
   have ey:((b.1*a.2).natAbs:Int) / 18446744073709551616*18446744073709551616+((b.1*a.2).natAbs:Int)%18446744073709551616=((b.1*a.2).natAbs:Int):=by omega
   simp only [ex,ey,ar];unfold eK;have s1:(a.1<0↔a.1*b.2<0):=by
    constructor
    · intro h;exact ad4 h (by omega)
    intro h;rcases lt_or_ge a.1 0 with h1|h1
    · exact h1
    have:=ae9 h1 (show 0<=b.2 by omega);omega
   have s2:(b.1<0↔b.1*a.2<0):=by
    constructor
    · intro h;exact ad4 h (by omega)
    intro h;rcases lt_or_ge b.1 0 with h1|h1
    · exact h1
    have:=ae9 h1 (show 0<=a.2 by omega);omega
   generalize a.1*b.2=x at*;generalize b.1*a.2=y at*
   by_cases h1:a.1<0<;>by_cases h2:b.1<0
   · have h3:=s1.1 h1;have h4:=s2.1 h2
     have:aj .i64 (-gU (x.natAbs:Int) (y.natAbs:Int))=gU x y:=by rw [wi];unfold gU;(repeat' split)<;>omega
     simp [h1,h2,this]
   · have h3:=s1.1 h1;have h4: ¬y<0:=fun h=>h2 (s2.2 h)
     have:gU a.1 b.1=gU x y:=by unfold gU;(repeat' split)<;>omega
     simp [h1,h2,this]
   · have h3: ¬x<0:=fun h=>h1 (s1.2 h);have h4:=s2.1 h2
     have:gU a.1 b.1=gU x y:=by unfold gU;(repeat' split)<;>omega
     simp [h1,h2,this]
   have h3: ¬x<0:=fun h=>h1 (s1.2 h);have h4: ¬y<0:=fun h=>h2 (s2.2 h)
   have:gU (x.natAbs:Int) (y.natAbs:Int)=gU x y:=by unfold gU;(repeat' split)<;>omega
   simp [h1,h2,this]
 rw [sp h,sp h];rfl
abbrev Pt:=Int×Int×Int
def ek (p:Pt):Prop:=0<=p.1/\p.1<=65535/\ -1048576<=p.2.1/\p.2.1<=1048576/\ -1048576<=p.2.2/\p.2.2<=1048576
theorem vo (p:Pt):kM p=aeE (if ek p then 0 else 8):=by
 obtain ⟨i,a,b⟩:=p;unfold kM mP ek;dsimp only
 by_cases h1:i<0
 · rw [sp (by omega)];simp [h1]
 by_cases h2:65535<i
 · rw [sp (by omega)];simp [h1,h2]
 by_cases h3:a< -1048576
 · rw [sp (by omega)];simp [h1,h2,h3]
 by_cases h4:1048576<a
 · rw [sp (by omega)];simp [h1,h2,h3,h4]
 by_cases h5:b< -1048576
 · rw [sp (by omega)];simp [h1,h2,h3,h4,h5]
 by_cases h6:1048576<b
 · rw [sp (by omega)];simp [h1,h2,h3,h4,h5,h6]
 rw [rc (by omega)];simp [h1,h2,h3,h4,h5,h6]
theorem Er (p:Pt):rU p=aeE (if ek p then 0 else 8):=by
 obtain ⟨i,a,b⟩:=p;unfold rU ek;dsimp only
 by_cases h1:i<0
 · rw [sp (by omega)];simp [h1]
 by_cases h2:65535<i
 · rw [sp (by omega)];simp [h1,h2]
 by_cases h3:a< -1048576
 · rw [sp (by omega)];simp [h1,h2,h3]
 by_cases h4:1048576<a
 · rw [sp (by omega)];simp [h1,h2,h3,h4]
 by_cases h5:b< -1048576
 · rw [sp (by omega)];simp [h1,h2,h3,h4,h5]
 by_cases h6:1048576<b
 · rw [sp (by omega)];simp [h1,h2,h3,h4,h5,h6]
 rw [rc (by omega)];simp [h1,h2,h3,h4,h5,h6]
theorem tz {x y:Int} (hx:uQ x) (hy:uQ y): -85070591730234615865843651857942052864<=x*y/\x*y<=85070591730234615865843651857942052864:=by have:=qT hx hy;omega
theorem X6 {x y:Int} (hx:uQ x) (hy:uQ y):(x%18446744073709551616)*(y%18446744073709551616)=x*y+(if x<0 then y else 0)*18446744073709551616+(if y<0 then x else 0)*18446744073709551616+(if x<0/\y<0 then 340282366920938463463374607431768211456 else 0):=by
 by_cases h1:x<0<;>by_cases h2:y<0
 · have e1:x%18446744073709551616=x+18446744073709551616:=by omega
   have e2:y%18446744073709551616=y+18446744073709551616:=by omega
   rw [e1,e2,rc h1,rc h2,rc ⟨h1,h2⟩];grind
 · have e1:x%18446744073709551616=x+18446744073709551616:=by omega
   have e2:y%18446744073709551616=y:=by omega
   rw [e1,e2,rc h1,sp h2,sp (fun h=>h2 h.2)];grind
 · have e1:x%18446744073709551616=x:=by omega
   have e2:y%18446744073709551616=y+18446744073709551616:=by omega
   rw [e1,e2,sp h1,rc h2,sp (fun h=>h1 h.1)];grind
 have e1:x%18446744073709551616=x:=by omega
 have e2:y%18446744073709551616=y:=by omega
 rw [e1,e2,sp h1,sp h2,sp (fun h=>h1 h.1)];grind
theorem Jo {a b:Int} (ha:0<=a) (hb:0<=b):nR a b 0=aeE ((a+b)%18446744073709551616,(a+b) / 18446744073709551616):=by unfold nR;simp [ha,hb]
theorem Rx {a b c d u v:Int} (ha:uQ a) (hb:uQ b):la (a,b,c,d,0,u,v,0,0)=aeE (.next (a,b,c,d,1,u,v,a*b / 18446744073709551616,a*b%18446744073709551616)):=by
 unfold la;have hm:=Ep (x:=aj .u64 a) (y:=aj .u64 b) (by rw [wu];constructor<;>omega) (by rw [wu];constructor<;>omega);have Sz:=tz ha hb;have hu:=X6 ha hb;simp only [hm,ar];simp only [wu,hu];generalize a*b=x at*
 by_cases h1:a<0<;>by_cases h2:b<0
 all_goals
  simp only [h1,h2,decide_true,decide_false,lw,pp,if_true,if_false,and_self,and_false,false_and];rw [Jo (by omega) (by omega)];simp only [wi,ar,show aeJ ((0:Int)<2)=aeH from rfl,lw,show ((0:Int)==0)=aeH from rfl,Do,Step.next.injEq,ad0,true_and];refine ⟨by omega,?_,?_⟩<;>omega
theorem Ry {a b c d u v h l:Int} (hc:uQ c) (hd:uQ d) (hl:Rt l)
 (_hh: -9223372036854775808<=h/\h<9223372036854775808) (hs: -170141183460469231731687303715884105728<=h*18446744073709551616+l+c*d/\h*18446744073709551616+l+c*d<170141183460469231731687303715884105728):
 la (a,b,c,d,1,u,v,h,l)=aeE (.next (a,b,c,d,2,u,v,(h*18446744073709551616+l+c*d) / 18446744073709551616,(h*18446744073709551616+l+c*d)%18446744073709551616)):=by
 unfold la;have hm:=Ep (x:=aj .u64 c) (y:=aj .u64 d) (by rw [wu];constructor<;>omega) (by rw [wu];constructor<;>omega);have Sz:=tz hc hd;have hu:=X6 hc hd;simp only [hm,ar];simp only [wu,hu];generalize c*d=x at*
 by_cases h1:c<0<;>by_cases h2:d<0
 all_goals
  simp only [h1,h2,decide_true,decide_false,lw,pp,if_true,if_false,and_self,and_false,false_and];rw [Jo (by omega) (by omega)];simp only [wi,ar,show aeJ ((1:Int)<2)=aeH from rfl,lw,pp,show ((1:Int)==0)=aeI from rfl,show ((1:Int)==1)=aeH from rfl,Do,Step.next.injEq,ad0,true_and];refine ⟨by omega,?_,?_⟩<;>omega
theorem Fo {a b c d:Int} (ha:uQ a) (hb:uQ b) (hc:uQ c) (hd:uQ d) (hs: -170141183460469231731687303715884105728<=a*b+c*d/\a*b+c*d<170141183460469231731687303715884105728):
 uI (a,b,c,d)=aeE ((a*b+c*d) / 18446744073709551616,(a*b+c*d)%18446744073709551616):=by
 unfold uI;dsimp only;have Sz:=tz ha hb;have e:a*b / 18446744073709551616*18446744073709551616+a*b%18446744073709551616+c*d=a*b+c*d:=by omega
 rw [aX (Rx ha hb),aX (Ry hc hd (by constructor<;>omega) (by constructor<;>omega) (by rw [e];exact hs)),e];exact aJ rfl
def rf (p q:Pt) (t:Int×Int):Int:=(p.2.1-q.2.1)*t.2+(p.2.2-q.2.2)*t.1
def leads (p q:Pt) (t:Int×Int):Prop:=0<rf p q t\/(rf p q t=0/\(q.2.2<p.2.2\/(p.2.2=q.2.2/\p.1<q.1)))
def Lz (p q:Pt) (t:Int×Int):Int:=if rf p q t<0 then -1 else if 0<rf p q t then 1 else if p.2.2<q.2.2 then -1 else if q.2.2<p.2.2 then 1 else gU q.1 p.1
theorem Es (p q:Pt) (t:Int×Int):0<Lz p q t↔leads p q t:=by
 unfold Lz leads
 by_cases h1:rf p q t<0
 · rw [rc h1];omega
 by_cases h2:0<rf p q t
 · rw [sp h1,rc h2];simp [h2]
 rw [sp h1,sp h2]
 by_cases h3:p.2.2<q.2.2
 · rw [rc h3];omega
 by_cases h4:q.2.2<p.2.2
 · rw [sp h3,rc h4];omega
 rw [sp h3,sp h4]
 rcases cH q.1 p.1 with ⟨h,e⟩|⟨h,e⟩|⟨h,e⟩<;>rw [e]<;>omega
theorem xF (a b:Int):kg [a,b]=aeE (if a≠0 then a else b):=by
 unfold kg
 by_cases h1:a=0
 · subst h1
   rw [aX (y:=(0,[0,b],2,1)) (by rfl)]
   by_cases h2:b=0
   · subst h2
     rw [aX (y:=(0,[0,0],2,2)) (by rfl)];exact aJ rfl
   refine (aJ (r:=b) ?_).trans (by simp)
   have e:sG (0,[0,b],2,1)=(bif b !=0 then aeE (.done b) else aeE (.next (0,[0,b],2,aj .i64 (1+1)))):=rfl;rw [e,dS h2];rfl
 refine (aJ (r:=a) ?_).trans (by simp [h1])
 have e:sG (0,[a,b],v6 [a,b].length,0)=(bif a !=0 then aeE (.done a) else aeE (.next (0,[a,b],v6 [a,b].length,aj .i64 (0+1)))):=rfl;rw [e,dS h1];rfl
theorem Rz {p q:Pt} {t:Int×Int} (hp:ek p) (hq:ek q) (ht:jP t):uQ (p.2.1-q.2.1)/\uQ (p.2.2-q.2.2)/\ -170141183460469231731687303715884105728<=rf p q t/\rf p q t<170141183460469231731687303715884105728:=by
 obtain ⟨a1,a2,a3,a4,a5,a6⟩:=hp;obtain ⟨b1,b2,b3,b4,b5,b6⟩:=hq;have h1:uQ (p.2.1-q.2.1):=by constructor<;>omega
 have h2:uQ (p.2.2-q.2.2):=by constructor<;>omega
 refine ⟨h1,h2,?_⟩;have k: ∀{x y:Int},-2097152<=x/\x<=2097152->uQ y-> -19342813113834066795298816<=x*y/\x*y<=19342813113834066795298816:=by
  intro x y hx hy;have:((x*y).natAbs:Int)<=2097152*9223372036854775808:=by rw [<- Ar];exact adA (by omega) (xE hy) (by omega) (by decide)
  omega
 have k1:=k (x:=p.2.1-q.2.1) (by omega) ht.2;have k2:=k (x:=p.2.2-q.2.2) (by omega) ht.1;unfold rf;omega
theorem sg {p q:Pt} {t:Int×Int} (hp:ek p) (hq:ek q) (ht:jP t):kr p q t=aeE (Lz p q t):=by
 obtain ⟨g1,g2,g3⟩:=Rz hp hq ht;unfold kr;rw [B' g1,B' g2,Fo g1 ht.2 g2 ht.1 g3];simp only [ar,yn,gM,xF];rw [show (p.2.1-q.2.1)*t.2+(p.2.2-q.2.2)*t.1=rf p q t from rfl];unfold Lz;generalize rf p q t=n at*
 by_cases h1:n<0
 · have e1:(n / 18446744073709551616==0)=aeI:=by simp;omega
   have e2:aeJ (n / 18446744073709551616<0)=aeH:=by simp;omega
   rw [rc h1];simp [e1,e2]
 by_cases h2:0<n
 · have e1:((n / 18446744073709551616==0)&&(n%18446744073709551616==0))=aeI:=by simp;omega
   have e2:aeJ (n / 18446744073709551616<0)=aeI:=by simp;omega
   rw [sp h1,rc h2];simp only [e1,e2,If,lw,pp]
 have:n=0:=by omega
 subst this;rw [sp h1,sp h2];unfold gU
 by_cases h3:p.2.2<q.2.2
 · simp [h3]
 by_cases h4:q.2.2<p.2.2
 · simp [h3,h4]
 simp [h3,h4]
theorem WC {x y:Int} (hx: -85070591730234615865843651857942052864<=x/\x<=85070591730234615865843651857942052864) (hy: -85070591730234615865843651857942052864<=y/\y<=85070591730234615865843651857942052864):
 uL (aeJ (x<0),(x.natAbs:Int) / 18446744073709551616,(x.natAbs:Int)%18446744073709551616) (aeJ (y<0),(y.natAbs:Int) / 18446744073709551616,(y.natAbs:Int)%18446744073709551616)=
  aeE (aeJ (x+y<0),((x+y).natAbs:Int) / 18446744073709551616,((x+y).natAbs:Int)%18446744073709551616):=by
 have n1:(x.natAbs:Int)<=85070591730234615865843651857942052864:=by omega
 have n2:(y.natAbs:Int)<=85070591730234615865843651857942052864:=by omega
 unfold uL;rw [Hk _ _ (sf _ (by omega) n1) (sf _ (by omega) n2)];have ex:((x.natAbs:Int) / 18446744073709551616)*18446744073709551616+(x.natAbs:Int)%18446744073709551616=(x.natAbs:Int):=by omega
 have ey:((y.natAbs:Int) / 18446744073709551616)*18446744073709551616+(y.natAbs:Int)%18446744073709551616=(y.natAbs:Int):=by omega
 simp only [ex,ey,ar];have same: ∀{X Y Z:Int},0<=X->0<=Y->X<=85070591730234615865843651857942052864->Y<=85070591730234615865843651857942052864->Z=X+Y-> ∀b:Bool,
  (bif aeJ (aj .u64 (X%18446744073709551616+Y%18446744073709551616)<X%18446744073709551616) then aeE (b,aj .u64 (aj .u64 (X / 18446744073709551616+Y / 18446744073709551616)+1),aj .u64 (X%18446744073709551616+Y%18446744073709551616))
   else aeE (b,aj .u64 (X / 18446744073709551616+Y / 18446744073709551616),aj .u64 (X%18446744073709551616+Y%18446744073709551616)))=aeE (b,Z / 18446744073709551616,Z%18446744073709551616):=by
  intro X Y Z h1 h2 h3 h4 h5 b;subst h5;simp only [wu]
  by_cases h:(X%18446744073709551616+Y%18446744073709551616)%18446744073709551616<X%18446744073709551616
  · simp only [h,decide_true,lw,Do,ad0,true_and];constructor<;>omega
  simp only [h,decide_false,pp,Do,ad0,true_and];constructor<;>omega
 have minus: ∀{X Y Z:Int} (b c:Bool),0<=X->0<=Y->X<=85070591730234615865843651857942052864->Y<=X->Z=X-Y->pj (b,X / 18446744073709551616,X%18446744073709551616) (c,Y / 18446744073709551616,Y%18446744073709551616)=aeE (aeI,Z / 18446744073709551616,Z%18446744073709551616):=by
  intro X Y Z b c h1 h2 h3 h4 h5;subst h5;unfold pj;simp only [wu]
  by_cases h:X%18446744073709551616<Y%18446744073709551616
  · simp only [h,decide_true,lw,Do,ad0,true_and];constructor<;>omega
  simp only [h,decide_false,pp,Do,ad0,true_and];constructor<;>omega
 by_cases h1:x<0<;>by_cases h2:y<0
 · have h3:x+y<0:=by omega
   simp only [h1,h2,h3,decide_true,beq_self_eq_true,lw];exact same (by omega) (by omega) n1 n2 (by omega) aeH
 · simp only [h1,h2,decide_true,decide_false,show (aeH==aeI)=aeI from rfl,pp,lw]
   by_cases h3:(y.natAbs:Int)<=(x.natAbs:Int)
   · have e:aeJ (0<=gU (x.natAbs:Int) (y.natAbs:Int))=aeH:=by
      rcases cH (x.natAbs:Int) (y.natAbs:Int) with ⟨h,e⟩|⟨h,e⟩|⟨h,e⟩<;>rw [e]<;>first|rfl|omega
     rw [e,minus (Z:=((x+y).natAbs:Int)) _ _ (by omega) (by omega) n1 h3 (by omega)];simp only [lw,ar]
     by_cases h4:x+y=0
     · rw [h4];rfl
     have h5:x+y<0:=by omega
     by_cases h6:0<((x+y).natAbs:Int) / 18446744073709551616
     · simp [h5,h6]
     have h7:0<((x+y).natAbs:Int)%18446744073709551616:=by omega
     simp only [h5,h6,h7,decide_true,decide_false,pp]
   have e:aeJ (0<=gU (x.natAbs:Int) (y.natAbs:Int))=aeI:=by
    rcases cH (x.natAbs:Int) (y.natAbs:Int) with ⟨h,e⟩|⟨h,e⟩|⟨h,e⟩<;>rw [e]<;>first|rfl|omega
   rw [e,minus (Z:=((x+y).natAbs:Int)) _ _ (by omega) (by omega) n2 (by omega) (by omega)];have h5: ¬(x+y<0):=by omega
   simp [h5]
 · simp only [h1,h2,decide_true,decide_false,show (aeI==aeH)=aeI from rfl,pp]
   by_cases h3:(y.natAbs:Int)<=(x.natAbs:Int)
   · have e:aeJ (0<=gU (x.natAbs:Int) (y.natAbs:Int))=aeH:=by
      rcases cH (x.natAbs:Int) (y.natAbs:Int) with ⟨h,e⟩|⟨h,e⟩|⟨h,e⟩<;>rw [e]<;>first|rfl|omega
     rw [e,minus (Z:=((x+y).natAbs:Int)) _ _ (by omega) (by omega) n1 h3 (by omega)];have h5: ¬(x+y<0):=by omega
     simp [h5]
   have e:aeJ (0<=gU (x.natAbs:Int) (y.natAbs:Int))=aeI:=by
    rcases cH (x.natAbs:Int) (y.natAbs:Int) with ⟨h,e⟩|⟨h,e⟩|⟨h,e⟩<;>rw [e]<;>first|rfl|omega
   rw [e,minus (Z:=((x+y).natAbs:Int)) _ _ (by omega) (by omega) n2 (by omega) (by omega)];have h5:x+y<0:=by omega
   simp [h5]
 have h3: ¬(x+y<0):=by omega
 simp only [h1,h2,h3,decide_false,beq_self_eq_true,lw];exact same (by omega) (by omega) n1 n2 (by omega) aeI
theorem adp {p q:Pt} {t:Int×Int} (hp:ek p) (hq:ek q) (ht:jP t):xA p q t=aeE (gU (rf p q t) 0):=by
 obtain ⟨g1,g2,g3⟩:=Rz hp hq ht;unfold xA;rw [B' g1,B' g2,uR g1 ht.2,uR g2 ht.1];simp only [ar];rw [WC (tz g1 ht.2) (tz g2 ht.1)];simp only [ar];rw [show (p.2.1-q.2.1)*t.2+(p.2.2-q.2.2)*t.1=rf p q t from rfl];obtain ⟨a1,a2,a3,a4,a5,a6⟩:=hp;obtain ⟨b1,b2,b3,b4,b5,b6⟩:=hq;have k: ∀{x y:Int},-2097152<=x/\x<=2097152->uQ y-> -19342813113834066795298816<=x*y/\x*y<=19342813113834066795298816:=by
  intro x y hx hy;have:((x*y).natAbs:Int)<=2097152*9223372036854775808:=by rw [<- Ar];exact adA (by omega) (xE hy) (by omega) (by decide)
  omega
 have k1:=k (x:=p.2.1-q.2.1) (by omega) ht.2;have k2:=k (x:=p.2.2-q.2.2) (by omega) ht.1;have:((rf p q t).natAbs:Int)<=85070591730234615865843651857942052864:=by unfold rf;omega
 rw [Hl this];rfl
theorem Jp {p q:Pt} {t:Int×Int} (hp:ek p) (hq:ek q) (ht:jP t):pk p q t=aeE (aeJ (leads p q t)):=by
 unfold pk leads;rw [adp hp hq ht];simp only [ar];rcases cH (rf p q t) 0 with ⟨h,e⟩|⟨h,e⟩|⟨h,e⟩<;>rw [e]
 · have h1: ¬(0<rf p q t):=by omega
   have h2: ¬(rf p q t=0):=by omega
   simp [h1,h2]
 · rw [h]
   by_cases h3:p.2.2=q.2.2
   · simp [h3]
   simp [h3,dS h3]
 simp [h]
theorem oL {p q:Pt} {t:Int×Int} (ht:jP t):nU p q t=aeE (if ek p/\ek q/\aZ t then (if p.1=q.1 then 2 else 0) else 8):=by
 unfold nU;simp only [vo,df ht,ar]
 by_cases h4:p.1=q.1
 · by_cases h1:ek p<;>by_cases h2:ek q<;>by_cases h3:aZ t<;>simp [h1,h2,h3,h4]
 have h5:=dL h4
 by_cases h1:ek p<;>by_cases h2:ek q<;>by_cases h3:aZ t<;>simp [h1,h2,h3,h4,h5]
theorem MZ {n d:Int} (hn:uQ n) (hd:uQ d):uG n d=ky n d:=by
 unfold uG ky
 by_cases h0:d=0
 · subst h0;rfl
 have e0:(d==0)=aeI:=by simpa using h0
 simp only [e0,pp,nu hn,nu hd,iC hn,iC hd,ar,ym,oj];have hp:0<EQ n.natAbs d.natAbs:=adX _ (by omega);have e1:((EQ n.natAbs d.natAbs:Int)==0)=aeI:=by simp;omega
 simp only [e1,pp];unfold wJ nZ;simp only [show aeJ ((0:Int)<0)=aeI from rfl,pp]
 by_cases h3:n=0
 · subst h3
   have z: ∀k:Int,aj .u64 (ac6 (((0:Int).natAbs:Nat):Int) k)=0:=fun k=>by rw [show (((0:Int).natAbs:Nat):Int)=0 from rfl,Int.zero_tdiv];rfl
   have z2:aj .i64 0=0:=rfl;have z3:aj .i64 (0-0)=0:=rfl;simp only [z,z2,z3,show ((0:Int) !=0)=aeI from rfl,pp,show aeJ ((0:Int)<0)=aeI from rfl];cases (!(aeI==aeJ (d<0)))<;>simp
 simp only [dS h3]
 cases (!(aeJ (n<0)==aeJ (d<0)))<;>rfl
noncomputable def met (p q:Pt):Int×Int:=((ky (p.2.1-q.2.1) (q.2.2-p.2.2)).getD ((0,0),0)).1
theorem LA {n d:Int} (hn: -2097152<=n/\n<=2097152) (hd: -2097152<=d/\d<=2097152) (h0:d≠0): ∃r,ky n d=aeE (r,0)/\aZ r/\jP r/\r.1*d=n*r.2:=by
 have hn':uQ n:=by constructor<;>omega
 have hd':uQ d:=by constructor<;>omega
 unfold ky;have e0:(d==0)=aeI:=by simpa using h0
 have hp:0<EQ n.natAbs d.natAbs:=adX _ (by omega);have e1:((EQ n.natAbs d.natAbs:Int)==0)=aeI:=by simp;omega
 simp only [e0,pp,iC hn',iC hd',ar,oj,e1];have q1:ac6 (n.natAbs:Int) (EQ n.natAbs d.natAbs:Int)=((n.natAbs / EQ n.natAbs d.natAbs:Nat):Int):=by rw [aew]
 have q2:ac6 (d.natAbs:Int) (EQ n.natAbs d.natAbs:Int)=((d.natAbs / EQ n.natAbs d.natAbs:Nat):Int):=by rw [aew]
 rw [q1,q2];have l1:n.natAbs / EQ n.natAbs d.natAbs<=2097152:=aeC (aen _ _) (by omega);have l2:d.natAbs / EQ n.natAbs d.natAbs<=2097152:=aeC (aen _ _) (by omega);have l3:1<=d.natAbs / EQ n.natAbs d.natAbs:=Nat.div_pos (Nat.le_of_dvd (by omega) (adV _ _)) hp;have co:EQ (d.natAbs / EQ n.natAbs d.natAbs) (n.natAbs / EQ n.natAbs d.natAbs)=1:=by rw [ad6,Nat.gcd_div (aeg _ _) (adV _ _)];exact Nat.div_self hp
 have v1:n.natAbs=EQ n.natAbs d.natAbs*(n.natAbs / EQ n.natAbs d.natAbs):=(aeb (aeg _ _)).symm;have v2:d.natAbs=EQ n.natAbs d.natAbs*(d.natAbs / EQ n.natAbs d.natAbs):=(aeb (adV _ _)).symm;have val:(n.natAbs:Int)*((d.natAbs / EQ n.natAbs d.natAbs:Nat):Int)=(d.natAbs:Int)*((n.natAbs / EQ n.natAbs d.natAbs:Nat):Int):=by
  generalize n.natAbs / EQ n.natAbs d.natAbs=a at*;generalize d.natAbs / EQ n.natAbs d.natAbs=b at*;generalize EQ n.natAbs d.natAbs=g at*;rw [v1,v2,aeo,aeo,aez,aez,ads (a:Int) (b:Int)]
 clear v1 v2;generalize n.natAbs / EQ n.natAbs d.natAbs=a at*;generalize d.natAbs / EQ n.natAbs d.natAbs=b at*;have w1:aj .u64 (a:Int)=a:=by rw [wu];omega
 have w2:aj .u64 (b:Int)=b:=by rw [wu];omega
 have made: ∀s:Bool,nZ s (aeI,0,(a:Int)) (aeI,0,(b:Int))=aeE ((if s=aeH then -(a:Int) else a,(b:Int)),0):=by
  intro s;unfold nZ;have d1:aeJ (9223372036854775807<(a:Int))=aeI:=by simp;omega
  have d2:aeJ (9223372036854775807<(b:Int))=aeI:=by simp;omega
  have v1:aj .i64 (a:Int)=a:=by rw [wi];omega
  have v2:aj .i64 (b:Int)=b:=by rw [wi];omega
  have v3:aj .i64 (0- (a:Int))= -(a:Int):=by rw [wi];omega
  simp only [show aeJ ((0:Int)<0)=aeI from rfl,pp,d1,d2,v1,v2,v3];cases s<;>simp
 have fin: ∀s:Bool,(if s=aeH then -(a:Int) else a)*d=n*b-> ∃r,(aeE ((if s=aeH then -(a:Int) else a,(b:Int)),(0:Int)):Option ((Int×Int)×Int))=aeE (r,0)/\aZ r/\jP r/\r.1*d=n*r.2:=by
  intro s hv;refine ⟨_,rfl,?_,?_,hv⟩
  · unfold aZ
    dsimp only;refine ⟨by omega,?_,?_⟩
    · cases s
      · simp only [aef,if_false];omega
      simp only [if_true];omega
    rw [show (if s=aeH then -(a:Int) else (a:Int)).natAbs=a by cases s<;>simp,show ((b:Int)).natAbs=b by omega];exact co
  constructor
  · dsimp only;cases s
    · simp only [aef,if_false];constructor<;>omega
    simp only [if_true];constructor<;>omega
  dsimp only;constructor<;>omega
 simp only [w1,w2,made,ar]
 by_cases h1:(!(aeJ (n<0)==aeJ (d<0)))=aeH
 · rw [h1]
   refine fin (n !=0) ?_
   by_cases OZ:n=0
   · subst OZ
     have a0:(a:Int)=0:=by
      have:((d.natAbs:Nat):Int)*(a:Int)=0:=by rw [<- val];simp
      rcases Int.mul_eq_zero.1 this with h|h
      · omega
      exact h
     simp [a0]
   have e:(n !=0)=aeH:=by simpa using OZ
   rw [e,rc rfl]
   by_cases RA:n<0
   · have hd0: ¬d<0:=fun k=>by simp [RA,k] at h1
     have x1:(n.natAbs:Int)= -n:=by omega
     have x2:(d.natAbs:Int)=d:=by omega
     rw [x1,x2,ad8] at val;rw [ad8,ads];omega
   have hd0:d<0:=by
    by_cases k:d<0
    · exact k
    simp [RA,k] at h1
   have x1:(n.natAbs:Int)=n:=by omega
   have x2:(d.natAbs:Int)= -d:=by omega
   rw [x1,x2,ad8] at val;rw [ad8,ads];omega
 rw [adY] at h1;rw [h1]
 refine fin aeI ?_;rw [sp (by simp)]
 by_cases RA:n<0
 · have hd0:d<0:=by
    by_cases k:d<0
    · exact k
    simp [RA,k] at h1
   have x1:(n.natAbs:Int)= -n:=by omega
   have x2:(d.natAbs:Int)= -d:=by omega
   rw [x1,x2,ad8,ad8] at val;rw [ads];omega
 have hd0: ¬d<0:=fun k=>by simp [RA,k] at h1
 have x1:(n.natAbs:Int)=n:=by omega
 have x2:(d.natAbs:Int)=d:=by omega
 rw [x1,x2] at val;rw [ads];omega
theorem sN {p q:Pt} (hp:ek p) (hq:ek q) (h:p.2.2≠q.2.2):ky (p.2.1-q.2.1) (q.2.2-p.2.2)=aeE (met p q,0)/\aZ (met p q)/\jP (met p q)/\(met p q).1*(q.2.2-p.2.2)=(p.2.1-q.2.1)*(met p q).2:=by
 obtain ⟨a1,a2,a3,a4,a5,a6⟩:=hp;obtain ⟨b1,b2,b3,b4,b5,b6⟩:=hq;obtain ⟨r,h1,h2,h3⟩:=LA (n:=p.2.1-q.2.1) (d:=q.2.2-p.2.2) (by omega) (by omega) (by omega);have:met p q=r:=by unfold met;rw [h1];rfl
 rw [this];exact ⟨h1,h2,h3⟩
theorem Bz {p q:Pt} (hp:ek p) (hq:ek q):aj .i64 (p.2.1-q.2.1)=p.2.1-q.2.1/\aj .i64 (q.2.2-p.2.2)=q.2.2-p.2.2/\uQ (p.2.1-q.2.1)/\uQ (q.2.2-p.2.2):=by
 obtain ⟨a1,a2,a3,a4,a5,a6⟩:=hp;obtain ⟨b1,b2,b3,b4,b5,b6⟩:=hq;have h1:uQ (p.2.1-q.2.1):=by constructor<;>omega
 have h2:uQ (q.2.2-p.2.2):=by constructor<;>omega
 exact ⟨B' h1,B' h2,h1,h2⟩
noncomputable def fu (h l:Pt) (t:Int×Int):(Int×Int)×Bool:=if leads l h t then (t,aeH) else if h.2.2<l.2.2 then (met h l,aeH) else ((0,0),aeI)
theorem adq {p q:Pt} (hp:ek p) (hq:ek q) (h:p.2.2≠q.2.2):xB p q=aeE (met p q):=by obtain ⟨w1,w2,_,_⟩:=Bz hp hq;unfold xB;rw [w1,w2,(sN hp hq h).1];rfl
theorem LB {h l:Pt} {t:Int×Int} (hh:ek h) (hl:ek l) (ht:jP t):oI h l t=aeE (fu h l t):=by
 unfold oI fu;rw [Jp hl hh ht];simp only [ar]
 by_cases h1:leads l h t
 · simp [h1]
 simp only [h1,decide_false,pp,if_false]
 by_cases h2:h.2.2<l.2.2
 · simp [h2,adq hh hl (by omega)]
 simp [h2]
theorem Jq:aZ (0,1):=by unfold aZ;decide
theorem Cz {h l:Pt} {t:Int×Int} (ht:jP t):
 qh h l t=aeE (if ek h/\ek l/\aZ t/\h.1≠l.1 then ((fu h l t).1,(fu h l t).2,0) else ((0,0),aeI,if ek h/\ek l/\aZ t then 2 else 8)):=by
 unfold qh;rw [oL ht]
 by_cases h1:ek h/\ek l/\aZ t
 · rw [rc h1]
   by_cases h2:h.1=l.1
   · simp [h1,h2]
   obtain ⟨hh,hl,hr⟩:=h1
   rw [sp h2,rc ⟨hh,hl,hr,h2⟩];simp only [ar,show ((0:Int) !=0)=aeI from rfl,pp,sg hl hh ht];unfold fu
   by_cases h3:leads l h t
   · have:aeJ (0<Lz l h t)=aeH:=by simpa using (Es l h t).2 h3
     rw [this];simp [h3]
   have:aeJ (0<Lz l h t)=aeI:=decide_eq_false fun k=>h3 ((Es l h t).1 k)
   rw [this,sp h3];simp only [pp]
   by_cases h4:h.2.2<l.2.2
   · have e:aeJ (l.2.2<=h.2.2)=aeI:=by simp;omega
     rw [e,rc h4];unfold dW;obtain ⟨w1,w2,i1,i2⟩:=Bz hh hl;have e2:(h.2.2==l.2.2)=aeI:=by simp;omega
     rw [oL (by constructor<;>constructor<;>decide),rc ⟨hh,hl,Jq⟩,sp h2];simp only [ar,show ((0:Int) !=0)=aeI from rfl,pp,e2,w1,w2,MZ i1 i2,(sN hh hl (by omega)).1];rfl
   have e:aeJ (l.2.2<=h.2.2)=aeH:=by simp;omega
   rw [e,sp h4];rfl
 rw [sp h1,sp (fun h=>h1 ⟨h.1,h.2.1,h.2.2.1⟩),sp h1];rfl
theorem As {h l:Pt} {t:Int×Int} (hh:ek h) (hl:ek l) (ht:jP t) (hr:aZ t) (h2:(fu h l t).2=aeH):aZ (fu h l t).1/\jP (fu h l t).1:=by
 unfold fu at*
 by_cases h3:leads l h t
 · rw [rc h3];exact ⟨hr,ht⟩
 rw [sp h3] at h2 ⊢
 by_cases h4:h.2.2<l.2.2
 · rw [rc h4];have:=(sN hh hl (by omega)).2;exact ⟨this.1,this.2.1⟩
 rw [sp h4] at h2;cases h2
theorem LC: ∀(n:Nat) (l:List Nat),l.Nodup->(∀x∈l,x<n)->aeD l<=n
 |0,l,_,h=>by
  cases l with
  |nil=>simp
  |cons a l=>exact absurd (h a (by simp)) (by omega)
 |n+1,l,hd,h=>by
  have h1:=LC n (l.filter (fun x=>x≠n)) (hd.filter _) (by
   intro x hx;rw [aes] at hx;have:=h x hx.1;have h2:x≠n:=by simpa using hx.2
   omega)
  have h2:(aeD l)<=(l.filter (fun x=>x≠n)).length+1:=by
   clear h1 h
   induction l with
   |nil=>simp
   |cons a l ih=>
    rw [ad9] at hd;have:=ih hd.2
    by_cases ha:a=n
    · subst ha
      have e:l.filter (fun x=>decide (x≠a))=l:=by rw [List.filter_eq_self];intro x hx;simp only [ne_eq,decide_eq_true_eq];rintro rfl;exact hd.1 hx
      rw [List.filter_cons_of_neg (by simp),e];simp
    rw [List.filter_cons_of_pos (by simpa using ha)]
    simp only [aeh];omega
  omega
theorem Ca {n:Nat} {l:List Nat} (hd:l.Nodup) (h: ∀x∈l,x<n) (hn:n<=aeD l): ∀x,x<n->x∈l:=by
 intro x hx;refine NE fun hc=>?_
 have:=LC n (x::l) (by rw [ad9];exact ⟨hc,hd⟩) (by
  intro y hy;rcases aeA.1 hy with rfl|hy
  · exact hx
  exact h y hy)
 simp only [aeh] at this;omega
def gb (l:List Pt):Prop:= ∀i,i+1<aeD l->(l[i]!).1<(l[i+1]!).1
def cV (l:List Pt):Prop:=aeD l<=64/\(∀p∈l,ek p)/\gb l
noncomputable def qU (l:List Pt):Int:=if 64<(aeD l) then 4 else if¬(∀p∈l,ek p) then 8 else if¬gb l then 32 else 0
theorem mj {l:List Pt}:qU l=0↔cV l:=by
 unfold qU cV
 by_cases h1:64<aeD l
 · rw [rc h1];simp;omega
 rw [sp h1]
 by_cases h2: ∀p∈l,ek p
 · rw [sp (ww.2 h2)]
   by_cases h3:gb l
   · rw [sp (ww.2 h3)]
     exact ⟨fun _=>⟨by omega,h2,h3⟩,fun _=>rfl⟩
   rw [rc h3]
   exact ⟨fun h=>(by cases h),fun h=>absurd h.2.2 h3⟩
 rw [rc h2]
 constructor
 · intro h;cases h
 intro h;exact absurd h.2.1 h2
theorem bk {n:Nat} (h:n<1000000000):aj .i64 ((n:Int)+1)=((n+1:Nat):Int):=by rw [wi];omega
theorem si {n:Nat} (h:n<1000000000) (h1:1<=n):aj .i64 ((n:Int) -1)=((n-1:Nat):Int):=by rw [wi];omega
theorem aB (n:Nat):v6 n=(n:Int):=rfl
theorem Jr (l:List Pt) (h:(aeD l)<=64):aD gI (1,l)=aeE (.done (if gb l then 0 else 32)):=by
 by_cases hl:(aeD l)<=1
 · have:gb l:=fun i hi=>by omega
   rw [rc this];refine aJ ?_;unfold gI;rw [aB];have:aeJ ((1:Int)<((aeD l):Int))=aeI:=by simp;omega
   simp [this]
 have key:=cJ (body:=gI) (fun i=>(((i+1:Nat):Int),l)) (aeD l-1) (fun i=>(l[i+1]!).1<=(l[i]!).1) (r:= .done 32) (e:= .done 0) (by
  intro i hi;have e1:aeJ (((i+1:Nat):Int)<((aeD l):Int))=aeH:=by simp;omega
  have e2:aj .i64 (((i+1:Nat):Int) -1)=(i:Int):=by rw [wi];omega
  have hb:gI (((i+1:Nat):Int),l)=bif aeJ ((l[i+1]!).1<=(l[i]!).1) then aeE (.done (.done 32)) else aeE (.next (((i+1+1:Nat):Int),l)):=by unfold gI;simp only [aB,e1,lw,e2,au l i (by omega),au l (i+1) (by omega),ar,bk (show i+1<1000000000 by omega)]
  constructor
  · intro hc;rw [hb,decide_eq_true hc];rfl
  · intro hc;rw [hb,decide_eq_false hc];rfl) (by
  unfold gI;have:aeJ (((aeD l-1+1:Nat):Int)<v6 (aeD l))=aeI:=by rw [aB];simp;omega
  simp only [this,pp])
 by_cases hs:gb l
 · rw [rc hs]
   refine key.2 fun i hi=>?_
   have:=hs i (by omega);omega
 rw [sp hs]
 refine key.1 ?_;unfold gb at hs;simp only [IR] at hs;obtain ⟨i,hi,h2⟩:=hs;exact ⟨i,by omega,by omega⟩
theorem Et (f:Field):rV f=aeE (qU f.be):=by
 unfold rV qU;rw [aB]
 by_cases h:64<aeD f.be
 · have:aeJ ((64:Int)<((aeD f.be):Int))=aeH:=by simp;omega
   rw [this,rc h];rfl
 have:aeJ ((64:Int)<((aeD f.be):Int))=aeI:=by simp;omega
 rw [this,sp h];simp only [pp];generalize f.be=l at*;have key:=cJ (body:=kx) (fun i=>((i:Int),l)) (aeD l) (fun i=> ¬ek l[i]!) (r:=8) (e:=if gb l then 0 else 32) (by
  intro i hi;have e1:aeJ ((i:Int)<((aeD l):Int))=aeH:=by simp;omega
  have hb:kx ((i:Int),l)=bif (if ek l[i]! then (0:Int) else 8) !=0 then aeE (.done 8) else aeE (.next (((i+1:Nat):Int),l)):=by unfold kx;simp only [aB,e1,lw,au l i (by omega),ar,Er,bk (show i<1000000000 by omega)]
  constructor
  · intro hc;rw [hb,sp hc];rfl
  · intro hc;rw [hb,rc (ww.1 hc)];rfl) (by
  unfold kx;have:aeJ (((aeD l):Int)<v6 (aeD l))=aeI:=by rw [aB];simp
  simp only [this,pp];exact Jr l (by omega))
 by_cases hp: ∀p∈l,ek p
 · rw [sp (ww.2 hp)]
   refine (key.2 fun i hi=>?_).trans ?_
   · exact ww.2 (hp _ (aR hi))
   by_cases hs:gb l
   · simp [hs]
   simp [hs]
 rw [rc hp]
 refine key.1 ?_;obtain ⟨p,hp⟩:=IR.1 hp;obtain ⟨hm,h2⟩:=ad7.1 hp;obtain ⟨i,hi,rfl⟩:=aN.1 hm;exact ⟨i,hi,h2⟩
theorem Js (l:List Pt) (h:(aeD l)<=64):aD gG (l,((aeD l):Int),0,l)=aeE (.done (if gb l then 0 else 32)):=by
 have key:=cJ (body:=gG) (fun i=>(l,((aeD l):Int),(i:Int),l)) (aeD l) (fun i=>0<i/\(l[i]!).1<=(l[i-1]!).1) (r:= .done 32) (e:= .done 0) (by
  intro i hi;have e1:aeJ ((i:Int)<((aeD l):Int))=aeH:=by simp;omega
  by_cases h0:0<i
  · have e3:aeJ ((0:Int)<(i:Int))=aeH:=by simp;omega
    have hb:gG (l,((aeD l):Int),(i:Int),l)=bif aeJ ((l[i]!).1<=(l[i-1]!).1) then aeE (.done (.done 32)) else aeE (.next (l,((aeD l):Int),((i+1:Nat):Int),l)):=by unfold gG;simp only [e1,e3,lw,au l i (by omega),si (show i<1000000000 by omega) h0,au l (i-1) (by omega),ar,bk (show i<1000000000 by omega)]
    constructor
    · intro hc;rw [hb,decide_eq_true hc.2];rfl
    intro hc
    have: ¬(l[i]!).1<=(l[i-1]!).1:=fun h=>hc ⟨h0,h⟩
    rw [hb,decide_eq_false this];rfl
  · have e3:aeJ ((0:Int)<(i:Int))=aeI:=by simp;omega
    constructor
    · intro hc;exact absurd hc.1 h0
    intro _
    unfold gG;simp only [e1,e3,lw,pp,au l i (by omega),ar,bk (show i<1000000000 by omega)]) (by
  unfold gG;have:aeJ (((aeD l):Int)<((aeD l):Int))=aeI:=by simp
  simp only [this,pp])
 by_cases hs:gb l
 · rw [rc hs]
   refine key.2 fun i hi=>?_
   rintro ⟨h0,h1⟩;have:=hs (i-1) (by omega);rw [show i-1+1=i by omega] at this;omega
 rw [sp hs]
 refine key.1 ?_;unfold gb at hs;simp only [IR] at hs;obtain ⟨i,hi,h2⟩:=hs;exact ⟨i+1,by omega,by omega,by rw [show i+1-1=i by omega];omega⟩
theorem nv (f:Field):gl f=aeE (qU f.be):=by
 unfold gl qU;rw [aB]
 by_cases h:64<aeD f.be
 · have:aeJ ((64:Int)<((aeD f.be):Int))=aeH:=by simp;omega
   rw [this,rc h];rfl
 have:aeJ ((64:Int)<((aeD f.be):Int))=aeI:=by simp;omega
 rw [this,sp h];simp only [pp];generalize f.be=l at*;have key:=cJ (body:=kq) (fun i=>(l,((aeD l):Int),(i:Int),l)) (aeD l) (fun i=> ¬ek l[i]!) (r:=8) (e:=if gb l then 0 else 32) (by
  intro i hi;have e1:aeJ ((i:Int)<((aeD l):Int))=aeH:=by simp;omega
  have hb:kq (l,((aeD l):Int),(i:Int),l)=bif (if ek l[i]! then (0:Int) else 8) !=0 then aeE (.done (if ek l[i]! then (0:Int) else 8)) else aeE (.next (l,((aeD l):Int),((i+1:Nat):Int),l)):=by unfold kq;simp only [e1,lw,au l i (by omega),ar,vo,bk (show i<1000000000 by omega)]
  constructor
  · intro hc;rw [hb,sp hc];rfl
  · intro hc;rw [hb,rc (ww.1 hc)];rfl) (by
  unfold kq;have:aeJ (((aeD l):Int)<((aeD l):Int))=aeI:=by simp
  simp only [this,pp];exact Js l (by omega))
 by_cases hp: ∀p∈l,ek p
 · rw [sp (ww.2 hp)]
   refine (key.2 fun i hi=>?_).trans ?_
   · exact ww.2 (hp _ (aR hi))
   by_cases hs:gb l
   · simp [hs]
   simp [hs]
 rw [rc hp]
 refine key.1 ?_;obtain ⟨p,hp⟩:=IR.1 hp;obtain ⟨hm,h2⟩:=ad7.1 hp;obtain ⟨i,hi,rfl⟩:=aN.1 hm;exact ⟨i,hi,h2⟩
theorem qz {l:List Pt} (h:gb l) {i j:Nat} (kH:i<j) (hj:j<aeD l):(l[i]!).1<(l[j]!).1:=by
 induction j with
 |zero=>omega
 |succ j ih=>
  have h1:=h j hj
  by_cases he:i=j
  · subst he;exact h1
  have:=ih (by omega) (by omega);omega
theorem zf {l:List Pt} (h:gb l) {i j:Nat} (hi:i<aeD l) (hj:j<aeD l) (he:(l[i]!).1=(l[j]!).1):i=j:=by
 rcases Nat.lt_trichotomy i j with h1|h1|h1
 · have:=qz h h1 hj;omega
 · exact h1
 have:=qz h h1 hi;omega
theorem Cb (l:List Pt) (id:Int) (hl:(aeD l)<=1000000):(∀k,k<aeD l->(l[k]!).1=id->(∀j,j<k->(l[j]!).1≠id)->gJ ⟨l⟩ id=aeE (k:Int))/\((∀k,k<aeD l->(l[k]!).1≠id)->gJ ⟨l⟩ id=aeE (-1)):=by
 unfold gJ;refine ik (body:=pg) (fun i=>(id,(i:Int),l)) (aeD l) (fun i=>(l[i]!).1=id) (fun i=>(i:Int)) (fun i hi=>?_) ?_
 · have e1:aeJ ((i:Int)<((aeD l):Int))=aeH:=by simp;omega
   have hb:pg (id,(i:Int),l)=bif (l[i]!).1==id then aeE (.done (i:Int)) else aeE (.next (id,((i+1:Nat):Int),l)):=by unfold pg;simp only [aB,e1,lw,au l i hi,ar,bk (show i<1000000000 by omega)]
   constructor
   · intro hc;rw [hb,dB hc];rfl
   intro hc;rw [hb,dL hc];rfl
 unfold pg
 have:aeJ (((aeD l):Int)<((aeD l):Int))=aeI:=by simp
 simp only [aB,this,pp]
theorem OE {l:List Pt} (hs:gb l) (hl:(aeD l)<=1000000) {k:Nat} (hk:k<aeD l) {id:Int} (he:(l[k]!).1=id):gJ ⟨l⟩ id=aeE (k:Int):=by
 refine (Cb l id hl).1 k hk he fun j hj hc=>?_
 have:=qz hs hj hk;omega
theorem WD {l:List Pt} (hl:(aeD l)<=1000000) {id:Int} (h: ∀k,k<aeD l->(l[k]!).1≠id):gJ ⟨l⟩ id=aeE (-1):=(Cb l id hl).2 h
theorem Jt (f:Nat->Int) (id:Int): ∀(n:Nat),(∀i j,i<j->j<n->f i<f j)-> ∃m,m<=n/\(∀i,i<m->f i<id)/\(∀i,m<=i->i<n->id<=f i)
 |0,_=>⟨0,ae6 _,fun i h=>by omega,fun i _ h=>by omega⟩
 |n+1,h=>by
  obtain ⟨m,h1,h2,h3⟩:=Jt f id n fun i j a b=>h i j a (by omega)
  by_cases hm:m=n
  · by_cases hf:f n<id
    · refine ⟨n+1,ae6 _,fun i hi=>?_,fun i a b=>by omega⟩
      by_cases he:i=n
      · subst he;exact hf
      exact h2 i (by omega)
    refine ⟨n,by omega,fun i hi=>h2 i (by omega),fun i a b=>?_⟩
    have:i=n:=by omega
    subst this;omega
  refine ⟨m,by omega,h2,fun i a b=>?_⟩
  by_cases he:i=n
  · subst he
    have:=h m i (by omega) (by omega);have:=h3 m (ae6 _) (by omega);omega
  exact h3 i a (by omega)
theorem bN {α:Type} [Inhabited α] {l:List α}:l.Nodup↔ ∀i j,i<j->j<aeD l->l[i]!≠l[j]!:=by
 unfold List.Nodup;rw [List.pairwise_iff_getElem];constructor
 · intro h i j kH hj
   rw [getElem!_pos l i (by omega),getElem!_pos l j hj];exact h i j (by omega) hj kH
 intro h i j hi hj kH
 have:=h i j kH hj
 rwa [getElem!_pos l i hi,getElem!_pos l j hj] at this
theorem cI {α:Type} [Inhabited α] {l:List α} {k:Nat} {x:α}:x∈l.take k↔ ∃i,i<k/\i<aeD l/\l[i]! =x:=by
 rw [aN];constructor
 · rintro ⟨i,hi,rfl⟩
   rw [ad3] at hi;exact ⟨i,by omega,by omega,(jK (by omega)).symm⟩
 rintro ⟨i,h1,h2,rfl⟩
 exact ⟨i,by rw [ad3];omega,jK h1⟩
theorem ja {α:Type} [Inhabited α] {l:List α} {k:Nat} (h:k<aeD l):l.take (k+1)=l.take k++[l[k]!]:=by rw [List.take_add_one,adW h,getElem!_pos l k h];rfl
def marks (l:List Bool):List Int->List Bool
 | []=>l
 |x::r=>marks (bP l x aeH) r
theorem kQ: ∀(r:List Int) (l:List Bool),(marks l r).length=aeD l
 | [],_=>rfl
 |x::r,l=>by rw [marks,kQ r,wc]
theorem zg: ∀(r:List Int) (l:List Bool) (x:Int),marks l (r++[x])=bP (marks l r) x aeH
 | [],_,_=>rfl
 |y::r,l,x=>by show marks (bP l y aeH) (r++[x])=_;rw [zg r];rfl
theorem mn : ∀ (r : List Int) (l : List Bool) (i : Nat), (∀ x ∈ r, 0 <= x) -> i < (aeD l) -> (marks l r)[i]! = (l[i]! || aeJ ((i : Int) ∈ r))
  | [], l, i, _, _ => by simp [marks]
  | x :: r, l, i, h, hi => by
    rw [marks, mn r _ i (fun y hy => h y (by simp [hy])) (by rw [wc]; exact hi)]
    obtain ⟨k, rfl⟩ := ad5 (h x (by simp))
    rw [lq, bc]
    by_cases e : i = k
    · subst e; rw [rc ⟨rfl, hi⟩]; simp
    rw [sp (fun h => e h.1)]
    have : ((i : Int) ∈ (k : Int) :: r) ↔ (i : Int) ∈ r := by
      rw [aeA]
      constructor
      · rintro (h | h)
        · omega
        exact h
      exact .inr
    simp only [this]
theorem Eu (l:List Bool) (h:(aeD l)<=1000000):dF l aeI=aeE (aeJ (aeI∈l)):=by
 unfold dF mT;have key:=ik (body:=fB) (fun i=>(l,aeI,((aeD l):Int),(i:Int))) (aeD l) (fun i=>l[i]! =aeI) (fun i=>(i:Int)) (e:= -1) (fun i hi=>by
  have e1:aeJ ((i:Int)<((aeD l):Int))=aeH:=by simp;omega
  have hb:fB (l,aeI,((aeD l):Int),(i:Int))=bif aeI==l[i]! then aeE (.done (i:Int)) else aeE (.next (l,aeI,((aeD l):Int),((i+1:Nat):Int))):=by unfold fB;simp only [e1,lw,au l i hi,ar,bk (show i<1000000000 by omega)]
  constructor
  · intro hc;rw [hb,hc];rfl
  · intro hc
    have:l[i]! =aeH:=by simpa using hc
    rw [hb,this];rfl) (by
  unfold fB;have:aeJ (((aeD l):Int)<((aeD l):Int))=aeI:=by simp
  simp only [this,pp])
 rw [aB]
 by_cases hx:aeI∈l
 · obtain ⟨i,hi,he⟩:=aN.1 hx
   obtain ⟨k,h1,h2,h3⟩:=least (c:=fun i=>l[i]! =aeI) ⟨i,hi,he⟩;have:=key.1 k h1 h2 h3;rw [show ((0:Nat):Int)=0 from rfl] at this;rw [this];have e:aeJ ((0:Int)<=(k:Int))=aeH:=by simp
   simp [hx]
 have:=key.2 fun i hi he=>hx (aN.2 ⟨i,hi,he⟩)
 rw [show ((0:Nat):Int)=0 from rfl] at this;rw [this];simp [hx]
structure dY (s:aU):Prop where
 n1:1<=aeD s.aq
 n2:(aeD s.aq)<=200
 ul:(aeD s.bi)=aeD s.aq
 fr: ∀x∈s.bv,0<=x/\x<aeD s.aq
 fd:s.bv.Nodup
 uf: ∀i,i<aeD s.aq->(s.bi[i]! =aeH↔(i:Int)∉s.bv)
 us: ∀i,i<aeD s.aq->0<=s.aq[i]!/\s.aq[i]!<=1000000/\(s.bi[i]! =aeH->1<=s.aq[i]!)
theorem LD (aq:List Int) (bi:List Bool) (fr:List Int) (h1:(aeD aq)<=200) (h2:(aeD bi)=aeD aq):
 aD fx (aq,((aeD aq):Int),0,aq,bi,fr)=aeE (.done (if∀i,i<aeD aq->0<=aq[i]!/\aq[i]!<=1000000/\(bi[i]! =aeH->1<=aq[i]!) then 0 else 8)):=by
 have key:=cJ (body:=fx) (fun i=>(aq,((aeD aq):Int),(i:Int),aq,bi,fr)) (aeD aq) (fun i=> ¬(0<=aq[i]!/\aq[i]!<=1000000/\(bi[i]! =aeH->1<=aq[i]!))) (r:= .done 8) (e:= .done 0) (fun i hi=>by
  have e1:aeJ ((i:Int)<((aeD aq):Int))=aeH:=by simp;omega
  have hb:fx (aq,((aeD aq):Int),(i:Int),aq,bi,fr)=bif aeJ (aq[i]!<0) then aeE (.done (.done 8)) else bif aeJ (1000000<aq[i]!) then aeE (.done (.done 8)) else bif aq[i]! ==0 then (bif bi[i]! then aeE (.done (.done 8)) else aeE (.next (aq,((aeD aq):Int),((i+1:Nat):Int),aq,bi,fr))) else aeE (.next (aq,((aeD aq):Int),((i+1:Nat):Int),aq,bi,fr)):=by unfold fx;simp only [e1,lw,au aq i hi,au bi i (by omega),ar,bk (show i<1000000000 by omega)]
  rw [hb];generalize aq[i]! =u at*
  by_cases a1:u<0
  · simp [a1];omega
  · by_cases a2:1000000<u
    · simp [a1,a2];omega
    by_cases a3:u=0
    · subst a3
      cases bi[i]!<;>simp
    have a4:1<=u:=by omega
    have a5:0<=u:=by omega
    have a6:u<=1000000:=by omega
    simp [a1,a2,dL a3,a4,a5,a6]) (by
  unfold fx;have:aeJ (((aeD aq):Int)<((aeD aq):Int))=aeI:=by simp
  simp only [this,pp])
 by_cases hc: ∀i,i<aeD aq->0<=aq[i]!/\aq[i]!<=1000000/\(bi[i]! =aeH->1<=aq[i]!)
 · rw [rc hc]
   exact key.2 fun i hi=>ww.2 (hc i hi)
 rw [sp hc]
 simp only [IR] at hc;obtain ⟨i,hi,hx⟩:=hc;exact key.1 ⟨i,hi,by simpa only [IR] using hx⟩
theorem sO (s:aU) (hf:(aeD s.bv)<=1000000):nW s=aeE (if dY s then 0 else 8):=by
 obtain ⟨aq,bi,fr⟩:=s;dsimp only at hf;unfold nW;simp only [aB]
 by_cases a1:(aeD aq)<1
 · have e:aeJ (((aeD aq):Int)<1)=aeH:=by simp;omega
   rw [e,sp (fun h=>by have:=h.n1;dsimp only at this;omega)];rfl
 have e1:aeJ (((aeD aq):Int)<1)=aeI:=by simp;omega
 by_cases a2:200<aeD aq
 · have e:aeJ (200<((aeD aq):Int))=aeH:=by simp;omega
   rw [e1,e,sp (fun h=>by have:=h.n2;dsimp only at this;omega)];rfl
 have e2:aeJ (200<((aeD aq):Int))=aeI:=by simp;omega
 by_cases a3:(aeD bi)=aeD aq
 case neg=>
  have e:(((aeD bi):Int) !=((aeD aq):Int))=aeH:=by simp;omega
  rw [e1,e2,e,sp (fun h=>a3 h.ul)];rfl
 have e3:(((aeD bi):Int) !=((aeD aq):Int))=aeI:=by simp;omega
 simp only [e1,e2,e3,pp,bo (show (aeD bi)<=1048576 by omega),ar];have tB:=LD aq bi fr (by omega) a3;have key:=cJ (body:=oE bi) (fun k=>(fr,((aeD fr):Int),(k:Int),aq,bi,fr,((aeD aq):Int),marks bi (fr.take k))) (aeD fr)
  (fun k=>fr[k]!<0\/((aeD aq):Int)<=fr[k]!\/(marks bi (fr.take k))[(fr[k]!).toNat]! =aeH) (r:=8)
  (e:=if aeI∈marks bi fr then 8 else if∀i,i<aeD aq->0<=aq[i]!/\aq[i]!<=1000000/\(bi[i]! =aeH->1<=aq[i]!) then 0 else 8) (fun k hk=>by
   have f1:aeJ ((k:Int)<((aeD fr):Int))=aeH:=by simp;omega
   have f2:((marks bi (fr.take k)).length==aeD bi)=aeH:=by rw [kQ];simp
   have f3:aeJ ((0:Int)<=(k:Int))=aeH:=by simp
   have f4: ∀x:Int,((bP (marks bi (fr.take k)) x aeH).length==(marks bi (fr.take k)).length)=aeH:=by intro x;rw [wc];simp
   have f5:marks bi (fr.take (k+1))=bP (marks bi (fr.take k)) fr[k]! aeH:=by rw [ja hk,zg]
   unfold oE;simp only [f1,f2,f3,f4,lw,beq_self_eq_true,au fr k hk,ar,bk (show k<1000000000 by omega),f5];clear f5;generalize fr[k]! =x
   by_cases b1:x<0
   · simp [b1]
   · by_cases b2:((aeD aq):Int)<=x
     · simp [b1,b2]
     simp only [b1,b2,decide_false,pp,false_or]
     rw [cZ (l:=marks bi (fr.take k)) (i:=x) (by omega) (by rw [kQ];omega)];simp only [ar];cases (marks bi (fr.take k))[x.toNat]!<;>simp) (by
   have f1:aeJ (((aeD fr):Int)<((aeD fr):Int))=aeI:=by simp
   unfold oE;simp only [f1,pp,ael];rw [Eu _ (by rw [kQ];omega)];have f2:((marks bi fr).length==aeD bi)=aeH:=by rw [kQ];simp
   simp only [f2,lw,ar,aB,tB]
   by_cases hx:aeI∈marks bi fr
   · simp [hx]
   simp [hx])
 have h0:marks bi (fr.take 0)=bi:=rfl;rw [show ((0:Nat):Int)=0 from rfl,h0] at key
 by_cases bad: ∃k,k<aeD fr/\(fr[k]!<0\/((aeD aq):Int)<=fr[k]!\/(marks bi (fr.take k))[(fr[k]!).toNat]! =aeH)
 · rw [key.1 bad,sp]
   intro ok;obtain ⟨k,hk,hb⟩:=bad;have hr:=ok.fr fr[k]! (aR hk);dsimp only at hr;rcases hb with hb|hb|hb
   · omega
   · omega
   rw [mn _ _ _ (fun x hx=>(ok.fr x (ad2 hx)).1) (by omega)] at hb
   have hi:((fr[k]!).toNat:Int)=fr[k]!:=by omega
   rw [hi,Bool.or_eq_true] at hb;rcases hb with hb|hb
   · have:=(ok.uf (fr[k]!).toNat (by show _<aeD aq;omega)).1 hb
     rw [hi] at this;exact this (aR hk)
   have hm:fr[k]!∈fr.take k:=by simpa using hb
   obtain ⟨j,h1,h2,h3⟩:=cI.1 hm;exact bN.1 ok.fd j k h1 hk h3
 have LF: ∀k,k<aeD fr->0<=fr[k]!/\fr[k]!<aeD aq/\(marks bi (fr.take k))[(fr[k]!).toNat]! =aeI:=by
  intro k hk;refine ⟨?_,?_,?_⟩
  · exact Int.not_lt.1 fun h=>bad ⟨k,hk,.inl h⟩
  · exact Int.not_le.1 fun h=>bad ⟨k,hk,.inr (.inl h)⟩
  exact adY _▸fun h=>bad ⟨k,hk,.inr (.inr h)⟩
 rw [key.2 fun k hk hb=>bad ⟨k,hk,hb⟩];have X7: ∀x∈fr,0<=x/\x<((aeD aq):Int):=by intro x hx;obtain ⟨k,hk,rfl⟩:=aN.1 hx;exact ⟨(LF k hk).1,(LF k hk).2.1⟩
 have g2: ∀k,k<aeD fr->bi[(fr[k]!).toNat]! =aeI/\fr[k]!∉fr.take k:=by intro k hk;obtain ⟨c1,c2,c3⟩:=LF k hk;rw [mn _ _ _ (fun x hx=>(X7 x (ad2 hx)).1) (by omega),show ((fr[k]!).toNat:Int)=fr[k]! by omega,aea] at c3;exact ⟨c3.1,by simpa using c3.2⟩
 have nd:fr.Nodup:=bN.2 fun i j kH hj he=>(g2 j hj).2 (cI.2 ⟨i,kH,by omega,he⟩)
 by_cases hx:aeI∈marks bi fr
 · rw [rc hx,sp]
   intro ok;obtain ⟨i,hi,he⟩:=aN.1 hx;rw [kQ] at hi;rw [mn _ _ _ (fun x hx=>(X7 x hx).1) hi,aea] at he;have h3:(i:Int)∉fr:=by simpa using he.2
   have:=(ok.uf i (by show _<aeD aq;omega)).2 h3;rw [show bi[i]! =aeI from he.1] at this;cases this
 rw [sp hx]
 by_cases hu: ∀i,i<aeD aq->0<=aq[i]!/\aq[i]!<=1000000/\(bi[i]! =aeH->1<=aq[i]!)
 · rw [rc hu,rc]
   refine ⟨by show 1<=aeD aq;omega,by show (aeD aq)<=200;omega,a3,X7,nd,fun i hi=>?_,hu⟩;dsimp only at hi ⊢;constructor
   · intro h1 h2
     obtain ⟨k,hk,he⟩:=aN.1 h2;have:=(g2 k hk).1;rw [he,show ((i:Int)).toNat=i by omega,h1] at this;cases this
   intro h1
   refine NE fun h2=>hx ?_
   refine aN.2 ⟨i,by rw [kQ];omega,?_⟩;rw [mn _ _ _ (fun x hx=>(X7 x hx).1) (by omega)];have:bi[i]! =aeI:=by simpa using h2
   rw [this];simpa using h1
 rw [sp hu,sp]
 intro ok;exact hu ok.us
theorem dY.fl {s:aU} (ok:dY s):(aeD s.bv)<=(aeD s.aq):=by
 have h:=LC (aeD s.aq) (s.bv.map aeB) (by
  rw [bN];intro i j kH hj he;rw [adc] at hj;have e: ∀k,k<aeD s.bv->(s.bv.map aeB)[k]! =(s.bv[k]!).toNat:=by intro k hk;rw [getElem!_pos _ k (by simpa using hk),List.getElem_map,getElem!_pos s.bv k hk]
  rw [e i (by omega),e j hj] at he;have h1:=(ok.fr _ (aR (show i<(aeD s.bv) by omega))).1;have h2:=(ok.fr _ (aR hj)).1;exact bN.1 ok.fd i j kH hj (by omega)) (by
  intro x hx;obtain ⟨y,hy,rfl⟩:=ad1.1 hx;have:=ok.fr y hy;omega)
 rwa [adc] at h
def sj (s:aU) (h:Int×Int):Prop:=0<=h.1/\h.1<aeD s.aq/\s.bi[h.1.toNat]! =aeH/\s.aq[h.1.toNat]! =h.2
def eI (s:aU) (h:Int×Int):aU:=⟨s.aq,s.bi.set h.1.toNat aeI,s.bv++[h.1]⟩
def cq (s:aU):Nat:=(s.bv[aeD s.bv-1]!).toNat
def tC (s:aU):Prop:=0<aeD s.bv/\s.aq[cq s]!<1000000
def fq (s:aU):aU:=⟨s.aq.set (cq s) (s.aq[cq s]!+1),s.bi.set (cq s) aeH,s.bv.take (aeD s.bv-1)⟩
def jq (s:aU):Int×Int:=((cq s:Int),s.aq[cq s]!+1)
theorem Cc {s:aU} (ok:dY s) (h:Int×Int):wK s h=aeE (aeJ (sj s h),0):=by
 have hl:=ok.fl;have hn:=ok.n2;have hu:=ok.ul;unfold wK sj;rw [sO s (by omega),rc ok];simp only [ar,show ((0:Int) !=0)=aeI from rfl,pp,aB]
 by_cases a1:0<=h.1
 · by_cases a2:h.1<aeD s.aq
   · have e2:aeJ (h.1<((aeD s.bi):Int))=aeH:=by simp;omega
     simp only [a1,a2,e2,decide_true,lw,cZ (l:=s.bi) a1 (by omega),cZ (l:=s.aq) a1 a2,ar,true_and];generalize s.aq[h.1.toNat]! =u;cases s.bi[h.1.toNat]!<;>simp [MX]
   have e2:aeJ (h.1<((aeD s.bi):Int))=aeI:=by simp;omega
   simp [a1,a2,e2]
 simp [a1]
theorem Hm {s:aU} (ok:dY s) {h:Int×Int} (lv:sj s h):xx s h=aeE (eI s h,0):=by
 have hl:=ok.fl;have hn:=ok.n2;have hu:=ok.ul;unfold xx;rw [Cc ok,decide_eq_true lv];unfold pL;obtain ⟨l1,l2,l3,l4⟩:=lv;have e1:bP s.bi h.1 aeI=s.bi.set h.1.toNat aeI:=rfl;simp only [ar,show ((0:Int) !=0)=aeI from rfl,pp,M2,bo (show (aeD s.aq)<=1048576 by omega),bo (show (aeD s.bi)<=1048576 by omega),bo (show (aeD s.bv)<=1048576 by omega),
  eW (show (aeD s.bv)+[h.1].length<=1048576 by simp;omega),cZ (l:=s.bi) l1 (by omega),e1,eI]
theorem sP {s:aU} (ok:dY s):qP s=aeE s:=by have hl:=ok.fl;have hn:=ok.n2;have hu:=ok.ul;unfold qP;simp only [ar,bo (show (aeD s.aq)<=1048576 by omega),bo (show (aeD s.bi)<=1048576 by omega),bo (show (aeD s.bv)<=1048576 by omega)]
theorem Ew {s:aU} (ok:dY s) {h:Int×Int} (lv:sj s h):py s h=aeE (eI s h):=by have hl:=ok.fl;have hn:=ok.n2;have hu:=ok.ul;obtain ⟨l1,l2,l3,l4⟩:=lv;unfold py;rw [sP ok];have e1:bP s.bi h.1 aeI=s.bi.set h.1.toNat aeI:=rfl;simp only [ar,eW (show (aeD s.bv)+[h.1].length<=1048576 by simp;omega),cZ (l:=s.bi) l1 (by omega),e1,eI]
theorem RC {s:aU} (ok:dY s) {h:Int×Int} (lv:sj s h):dY (eI s h):=by
 have hl:=ok.fl;have hn:=ok.n2;have hu:=ok.ul;obtain ⟨l1,l2,l3,l4⟩:=lv;have nf:h.1∉s.bv:=by
  have:=(ok.uf h.1.toNat (by omega)).1 l3
  rwa [show (h.1.toNat:Int)=h.1 by omega] at this
 refine ⟨ok.n1,ok.n2,?_,?_,?_,?_,?_⟩
 · show (s.bi.set _ _).length=_;rw [ut];exact hu
 · intro x hx
   rcases adZ.1 hx with hx|hx
   · exact ok.fr x hx
   rw [adD] at hx;subst hx;exact ⟨l1,l2⟩
 · show (s.bv++[h.1]).Nodup
   rw [List.nodup_append];refine ⟨ok.fd,by simp,?_⟩;intro x hx y hy he;rw [adD] at hy;subst hy;subst he;exact nf hx
 · intro i hi
   change i<(aeD s.aq) at hi;show (s.bi.set h.1.toNat aeI)[i]! =aeH↔(i:Int)∉s.bv++[h.1];rw [bc,adZ,adD]
   by_cases e:i=h.1.toNat
   · rw [rc ⟨e,by omega⟩]
     have:(i:Int)=h.1:=by omega
     simp [this]
   rw [sp (fun k=>e k.1),ok.uf i hi]
   have: ¬(i:Int)=h.1:=by omega
   simp [this]
 intro i hi
 change i<(aeD s.aq) at hi;obtain ⟨u1,u2,u3⟩:=ok.us i hi;refine ⟨u1,u2,?_⟩;show (s.bi.set h.1.toNat aeI)[i]! =aeH->_;rw [bc];split
 · intro h;cases h
 exact u3
theorem uS {s:aU} (ok:dY s) (h:0<aeD s.bv):cq s<aeD s.aq/\(cq s:Int)=s.bv[aeD s.bv-1]!/\(cq s:Int)∈s.bv:=by
 have hm:=aR (l:=s.bv) (i:=aeD s.bv-1) (by omega);have:=ok.fr _ hm;have e:(cq s:Int)=s.bv[aeD s.bv-1]!:=by unfold cq;omega
 refine ⟨by omega,e,by rw [e];exact hm⟩
theorem mq {α:Type} (l:List α) (n:Nat) (h:n<=aeD l):gD l 0 (n:Int)=aeE (l.take n):=by unfold gD;rw [rc ⟨by omega,by omega,by omega⟩];simp
theorem Au {s:aU} (ok:dY s):xz s=aeE (if tC s then (fq s,jq s,0) else (⟨[],[],[]⟩,(0,0),18)):=by
 have hl:=ok.fl;have hn:=ok.n2;have hu:=ok.ul;unfold xz tC;rw [sO s (by omega),rc ok];simp only [ar,show ((0:Int) !=0)=aeI from rfl,pp,aB]
 by_cases a1:0<aeD s.bv
 · obtain ⟨n1,n2,n3⟩:=uS ok a1
   have e1:(((aeD s.bv):Int)==0)=aeI:=dL (by omega);have e2:aj .i64 (((aeD s.bv):Int) -1)=((aeD s.bv-1:Nat):Int):=si (by omega) (by omega);unfold qK;simp only [e1,pp,aB,e2,mq s.bv (aeD s.bv-1) (by omega),ar,bo (show (s.bv.take (aeD s.bv-1)).length<=1048576 by rw [ad3];omega),
    au s.bv (aeD s.bv-1) (by omega),<- n2,au s.aq (cq s) n1]
   obtain ⟨u1,u2,u3⟩:=ok.us (cq s) n1
   by_cases a2:s.aq[cq s]! =1000000
   · have e3:(s.aq[cq s]! ==1000000)=aeH:=by simpa using a2
     rw [e3,sp (by omega)];rfl
   have e3:(s.aq[cq s]! ==1000000)=aeI:=by simpa using a2
   have e4:aj .i64 (s.aq[cq s]!+1)=s.aq[cq s]!+1:=by rw [wi];omega
   rw [e3,rc (by omega)];simp only [pp,bo (show (aeD s.aq)<=1048576 by omega),bo (show (aeD s.bi)<=1048576 by omega),ar,au s.bi (cq s) (by omega),au s.aq (cq s) n1,e4,lq,
    au (s.aq.set (cq s) (s.aq[cq s]!+1)) (cq s) (by rw [ut];exact n1),bc,n1,and_self,if_true,fq,jq]
 have e1:(((aeD s.bv):Int)==0)=aeH:=dB (by omega)
 rw [e1,sp (fun h=>a1 h.1)];rfl
theorem oM {s:aU} (ok:dY s):fQ s=aeE (aeJ (tC s)):=by
 have hl:=ok.fl;have hn:=ok.n2;have hu:=ok.ul;unfold fQ tC;simp only [aB]
 by_cases a1:0<aeD s.bv
 · obtain ⟨n1,n2,n3⟩:=uS ok a1
   have e1:aeJ ((0:Int)<((aeD s.bv):Int))=aeH:=by simp;omega
   have e2:aj .i64 (((aeD s.bv):Int) -1)=((aeD s.bv-1:Nat):Int):=si (by omega) (by omega);simp only [e1,e2,lw,au s.bv (aeD s.bv-1) (by omega),ar,<- n2,au s.aq (cq s) n1,a1,true_and]
 have e1:aeJ ((0:Int)<((aeD s.bv):Int))=aeI:=decide_eq_false (by omega)
 rw [e1];simp [a1]
theorem Ex {s:aU} (ok:dY s) (h:tC s):wQ s=aeE (fq s,jq s):=by
 have hl:=ok.fl;have hn:=ok.n2;have hu:=ok.ul;obtain ⟨a1,a2⟩:=h;obtain ⟨n1,n2,n3⟩:=uS ok a1;obtain ⟨u1,u2,u3⟩:=ok.us (cq s) n1;unfold wQ;rw [sP ok];have e2:aj .i64 (((aeD s.bv):Int) -1)=((aeD s.bv-1:Nat):Int):=si (by omega) (by omega);have e4:aj .i64 (s.aq[cq s]!+1)=s.aq[cq s]!+1:=by rw [wi];omega
 simp only [ar,aB,e2,au s.bv (aeD s.bv-1) (by omega),mq s.bv (aeD s.bv-1) (by omega),<- n2,au s.aq (cq s) n1,au s.bi (cq s) (by omega),e4,lq,
  au (s.aq.set (cq s) (s.aq[cq s]!+1)) (cq s) (by rw [ut];exact n1),bc,n1,and_self,if_true,fq,jq,Int.toNat_natCast]
theorem RD {s:aU} (ok:dY s) (h:tC s):dY (fq s):=by
 have hl:=ok.fl;have hn:=ok.n2;have hu:=ok.ul;obtain ⟨a1,a2⟩:=h;obtain ⟨n1,n2,n3⟩:=uS ok a1;have mt: ∀x:Int,x∈s.bv.take (aeD s.bv-1)↔(x∈s.bv/\x≠(cq s:Int)):=by
  intro x;rw [cI];constructor
  · rintro ⟨i,h1,h2,rfl⟩
    refine ⟨aR h2,?_⟩;rw [n2];exact bN.1 ok.fd i (aeD s.bv-1) h1 (by omega)
  rintro ⟨h1,h2⟩
  obtain ⟨i,hi,rfl⟩:=aN.1 h1;refine ⟨i,?_,hi,rfl⟩;refine NE fun hc=>h2 ?_
  rw [n2,show i=aeD s.bv-1 by omega]
 refine ⟨?_,?_,?_,?_,?_,?_,?_⟩
 · show 1<=(s.aq.set _ _).length;rw [ut];exact ok.n1
 · show (s.aq.set _ _).length<=200;rw [ut];exact ok.n2
 · show (s.bi.set _ _).length=(s.aq.set _ _).length;rw [ut,ut];exact hu
 · intro x hx
   show 0<=x/\x<((s.aq.set _ _).length:Int);rw [ut];exact ok.fr x ((mt x).1 hx).1
 · exact ok.fd.sublist (List.take_sublist _ _)
 · intro i hi
   change i<(s.aq.set _ _).length at hi;rw [ut] at hi;show (s.bi.set (cq s) aeH)[i]! =aeH↔(i:Int)∉s.bv.take (aeD s.bv-1);rw [bc,mt]
   by_cases e:i=cq s
   · rw [rc ⟨e,by omega⟩]
     simp [e]
   rw [sp (fun k=>e k.1),ok.uf i hi]
   have:(i:Int)≠(cq s:Int):=by omega
   simp [this]
 intro i hi
 change i<(s.aq.set _ _).length at hi;rw [ut] at hi;obtain ⟨u1,u2,u3⟩:=ok.us i hi;show 0<=(s.aq.set (cq s) (s.aq[cq s]!+1))[i]!/\(s.aq.set (cq s) (s.aq[cq s]!+1))[i]!<=1000000/\((s.bi.set (cq s) aeH)[i]! =aeH->1<=(s.aq.set (cq s) (s.aq[cq s]!+1))[i]!);rw [bc,bc]
 by_cases e:i=cq s
 · subst e
   rw [rc ⟨rfl,n1⟩];refine ⟨by omega,by omega,fun _=>by omega⟩
 rw [sp (fun k=>e k.1),sp (fun k=>e k.1)]
 exact ⟨u1,u2,u3⟩
abbrev Ev:=Int×Int×Int×Int×Int
abbrev Ev.at (x:Ev):Int×Int:=(x.1,x.2.1)
abbrev Ev.num (x:Ev):Int:=x.2.2.1
abbrev Ev.ix (x:Ev):Int:=x.2.2.2.1
abbrev Ev.n (x:Ev):Nat:=x.2.2.2.1.toNat
theorem agR {x:Ev} {k:Nat} (h:x.ix<(k:Int)) (h0:0<=x.ix):x.n<k:=by show x.ix.toNat<k;omega
theorem agS {x y:Ev} (h0:0<=x.ix) (h1:0<=y.ix) (h:x.ix≠y.ix):x.n≠y.n:=by
 show x.ix.toNat≠y.ix.toNat
 omega
def less (x y:Ev):Prop:=eK (x.1,x.2.1) (y.1,y.2.1)<0\/(eK (x.1,x.2.1) (y.1,y.2.1)=0/\x.2.2.1<y.2.2.1)
theorem qo {a b:Int×Int}:eK a b<0↔a.1*b.2<b.1*a.2:=by unfold eK;rcases cH (a.1*b.2) (b.1*a.2) with ⟨h,e⟩|⟨h,e⟩|⟨h,e⟩<;>rw [e]<;>constructor<;>intro<;>omega
theorem M0 {a b:Int×Int}:eK a b=0↔a.1*b.2=b.1*a.2:=by unfold eK;rcases cH (a.1*b.2) (b.1*a.2) with ⟨h,e⟩|⟨h,e⟩|⟨h,e⟩<;>rw [e]<;>constructor<;>intro<;>omega
theorem lP {x y:Ev} (h:less x y): ¬less y x:=by unfold less at*;rw [qo,M0] at*;dsimp only at*;rintro (k|k)<;>rcases h with h|h<;>omega
theorem eX {a1 a2 b1 b2 c1 c2:Int} (ha:1<=a2) (hb:1<=b2) (hc:1<=c2) (h1:a1*b2<=b1*a2) (h2:b1*c2<=c1*b2):a1*c2<=c1*a2:=by
 have e1:a1*b2*c2<=b1*a2*c2:=PP h1 (by omega);have e2:b1*c2*a2<=c1*b2*a2:=PP h2 (by omega);have e3:(a1*c2)*b2<=(c1*a2)*b2:=by
  have r1:(a1*c2)*b2=a1*b2*c2:=by grind
  have r2:b1*a2*c2=b1*c2*a2:=by grind
  have r3:c1*b2*a2=(c1*a2)*b2:=by grind
  omega
 exact Int.le_of_mul_le_mul_right e3 (by omega)
theorem oN {a1 a2 b1 b2 c1 c2:Int} (ha:1<=a2) (hb:1<=b2) (hc:1<=c2) (h1:a1*b2<b1*a2) (h2:b1*c2<=c1*b2):a1*c2<c1*a2:=by
 have e1:a1*b2*c2<b1*a2*c2:=adu h1 (by omega);have e2:b1*c2*a2<=c1*b2*a2:=PP h2 (by omega);have e3:(a1*c2)*b2<(c1*a2)*b2:=by
  have r1:(a1*c2)*b2=a1*b2*c2:=by grind
  have r2:b1*a2*c2=b1*c2*a2:=by grind
  have r3:c1*b2*a2=(c1*a2)*b2:=by grind
  omega
 exact adG e3 (by omega)
theorem ny {a1 a2 b1 b2 c1 c2:Int} (ha:1<=a2) (hb:1<=b2) (hc:1<=c2) (h1:a1*b2<=b1*a2) (h2:b1*c2<c1*b2):a1*c2<c1*a2:=by
 have e1:a1*b2*c2<=b1*a2*c2:=PP h1 (by omega);have e2:b1*c2*a2<c1*b2*a2:=adu h2 (by omega);have e3:(a1*c2)*b2<(c1*a2)*b2:=by
  have r1:(a1*c2)*b2=a1*b2*c2:=by grind
  have r2:b1*a2*c2=b1*c2*a2:=by grind
  have r3:c1*b2*a2=(c1*a2)*b2:=by grind
  omega
 exact adG e3 (by omega)
theorem tD {x y z:Ev} (hx:1<=x.2.1) (hy:1<=y.2.1) (hz:1<=z.2.1) (h1: ¬less y x) (h2: ¬less z y): ¬less z x:=by
 unfold less at*;rw [qo,M0] at*;dsimp only at*;have t1:= @eX x.1 x.2.1 y.1 y.2.1 z.1 z.2.1 hx hy hz;have t2:= @oN x.1 x.2.1 y.1 y.2.1 z.1 z.2.1 hx hy hz;have t3:= @ny x.1 x.2.1 y.1 y.2.1 z.1 z.2.1 hx hy hz;generalize x.1*y.2.1=p at*;generalize y.1*x.2.1=q at*;generalize y.1*z.2.1=r at*;generalize z.1*y.2.1=s at*;generalize x.1*z.2.1=u at*;generalize z.1*x.2.1=v at*;have a1:p<=q:=by omega
 have a2:r<=s:=by omega
 have a3:=t1 a1 a2;rintro (k|k)
 · omega
 by_cases b1:p<q
 · have:=t2 b1 a2;omega
 by_cases b2:r<s
 · have:=t3 a1 b2;omega
 omega
structure zh (n:Nat) (x:Ev) (M:Ev->Prop) (H:List Ev) (W:List Int) (i:Nat):Prop where
 lt:i<n
 hn:n<=aeD H
 ix: ∀w,w<n->w≠i->0<=(H[w]!).ix/\(H[w]!).ix<aeD W/\W[(H[w]!).n]! =(w:Int)/\(H[w]!).ix≠x.ix
 x0:0<=x.ix
 x1:x.ix<aeD W
 mem: ∀e,(∃w,w<n/\w≠i/\H[w]! =e)↔M e
theorem zh.move {n:Nat} {x:Ev} {M:Ev->Prop} {H:List Ev} {W:List Int} {i j:Nat} (h:zh n x M H W i) (hj:j<n) (kH:j≠i):zh n x M (H.set i H[j]!) (W.set (H[j]!).n (i:Int)) j:=by
 have hn:=h.hn;have hi:=h.lt;obtain ⟨j1,j2,j3,j4⟩:=h.ix j hj kH;have cell: ∀w,(H.set i H[j]!)[w]! =if w=i then H[j]! else H[w]!:=by
  intro w;rw [bc]
  by_cases e:w=i
  · rw [rc ⟨e,by omega⟩,rc e]
  rw [sp (fun k=>e k.1),sp e]
 refine ⟨hj,by rw [ut];exact hn,?_,h.x0,by rw [ut];exact h.x1,?_⟩
 · intro w hw hwj
   rw [cell,ut]
   by_cases e:w=i
   · rw [rc e,bc,rc ⟨rfl,agR j2 j1⟩]
     exact ⟨j1,j2,by rw [e],j4⟩
   rw [sp e,bc]
   obtain ⟨k1,k2,k3,k4⟩:=h.ix w hw e;refine ⟨k1,k2,?_,k4⟩;rw [sp,k3];rintro ⟨c,_⟩;rw [c,j3] at k3;omega
 intro e
 rw [<- h.mem e];constructor
 · rintro ⟨w,hw,hwj,he⟩
   rw [cell] at he
   by_cases c:w=i
   · rw [rc c] at he;exact ⟨j,hj,kH,he⟩
   rw [sp c] at he;exact ⟨w,hw,c,he⟩
 rintro ⟨w,hw,Hn,he⟩
 by_cases c:w=j
 · refine ⟨i,hi,fun h=>kH h.symm,?_⟩
   rw [cell,rc rfl,<- c];exact he
 exact ⟨w,hw,c,by rw [cell,sp Hn];exact he⟩
theorem zh.fill {n:Nat} {x:Ev} {M:Ev->Prop} {H:List Ev} {W:List Int} {i:Nat} (h:zh n x M H W i):
 (∀w,w<n->0<=((H.set i x)[w]!).ix/\((H.set i x)[w]!).ix<aeD W/\(W.set x.n (i:Int))[((H.set i x)[w]!).n]! =(w:Int))/\
  (∀e,(∃w,w<n/\(H.set i x)[w]! =e)↔(e=x\/M e)):=by
 have hn:=h.hn;have hi:=h.lt;have x0:=h.x0;have x1:=h.x1;have cell: ∀w,(H.set i x)[w]! =if w=i then x else H[w]!:=by
  intro w;rw [bc]
  by_cases e:w=i
  · rw [rc ⟨e,by omega⟩,rc e]
  rw [sp (fun k=>e k.1),sp e]
 constructor
 · intro w hw
   rw [cell]
   by_cases e:w=i
   · rw [rc e,bc,rc ⟨rfl,agR x1 x0⟩]
     exact ⟨x0,x1,by rw [e]⟩
   rw [sp e,bc]
   obtain ⟨k1,k2,k3,k4⟩:=h.ix w hw e;exact ⟨k1,k2,by rw [sp (fun c=>agS k1 x0 k4 c.1),k3]⟩
 intro e
 rw [<- h.mem e];constructor
 · rintro ⟨w,hw,he⟩
   rw [cell] at he
   by_cases c:w=i
   · rw [rc c] at he;exact .inl he.symm
   rw [sp c] at he;exact .inr ⟨w,hw,c,he⟩
 rintro (he|⟨w,hw,Hn,he⟩)
 · exact ⟨i,hi,by rw [cell,rc rfl,he]⟩
 exact ⟨w,hw,by rw [cell,sp Hn];exact he⟩
noncomputable def gN (x:Ev):Nat->List Ev->List Int->Nat×List Ev×List Int
 |0,H,W=>(0,H,W)
 |i+1,H,W=>if less x H[i / 2]! then gN x (i / 2) (H.set (i+1) H[i / 2]!) (W.set (H[i / 2]!).n ((i+1:Nat):Int)) else (i+1,H,W)
termination_by i=>i
decreasing_by omega
noncomputable def fR (n:Nat) (H:List Ev) (i:Nat):Nat:=if 2*i+2<n/\less H[2*i+2]! H[2*i+1]! then 2*i+2 else 2*i+1
theorem mu (n:Nat) (H:List Ev) (i:Nat):fR n H i=2*i+1\/(fR n H i=2*i+2/\2*i+2<n):=by
 unfold fR;split
 · rename_i h;exact .inr ⟨rfl,h.1⟩
 exact .inl rfl
noncomputable def dh (n:Nat) (x:Ev) (i:Nat) (H:List Ev) (W:List Int):Nat×List Ev×List Int:=
 if _h:2*i+1<n then
  if less H[fR n H i]! x then dh n x (fR n H i) (H.set i H[fR n H i]!) (W.set (H[fR n H i]!).n (i:Int)) else (i,H,W)
 else (i,H,W)
termination_by n-i
decreasing_by
 rcases mu n H i with h|h<;>omega
structure Ord (n:Nat) (H:List Ev) (i:Nat):Prop where
 den: ∀w,w<n->1<=(H[w]!).2.1
 ord: ∀k,0<k->k<n->k≠i->(k-1) / 2≠i-> ¬less H[k]! H[(k-1) / 2]!
 Ju:0<i-> ∀k,0<k->k<n->(k-1) / 2=i-> ¬less H[k]! H[(i-1) / 2]!
theorem CS {n : Nat} {x : Ev} {M : Ev -> Prop} (dx : 1 <= x.2.1) : ∀ (i : Nat) (H : List Ev) (W : List Int), zh n x M H W i -> Ord n H i ->
    ∃ j H1 W1, gN x i H W = (j, H1, W1) /\ zh n x M H1 W1 j /\ Ord n H1 j /\ (aeD H1) = (aeD H) /\ (aeD W1) = (aeD W) /\ (0 < j -> ¬ less x H1[(j - 1) / 2]!) /\
      (∀ k, n <= k -> H1[k]! = H[k]!) /\ (∀ k, (∀ w, w < n -> w ≠ i -> (H[w]!).n ≠ k) -> W1[k]! = W[k]!) /\
      ((∀ k, 0 < k -> k < n -> (k - 1) / 2 = i -> ¬ less H[k]! x) -> ∀ k, 0 < k -> k < n -> (k - 1) / 2 = j -> ¬ less H1[k]! x)
  | 0, H, W, h, o => ⟨0, H, W, by rw [gN], h, o, rfl, rfl, fun h => by omega, fun _ _ => rfl, fun _ _ => rfl, fun h => h⟩
  | i + 1, H, W, h, o => by
    rw [gN]
    by_cases hl : less x H[i / 2]!
    · rw [rc hl]
      have hi := h.lt
      have hn := h.hn
      have hp : i / 2 < n := by omega
      have dC : i / 2 ≠ i + 1 := by omega
      have hm := h.move hp dC
      have cell : ∀ w, (H.set (i + 1) H[i / 2]!)[w]! = if w = i + 1 then H[i / 2]! else H[w]! := by
        intro w
        rw [bc]
        by_cases e : w = i + 1
        · rw [rc ⟨e, by omega⟩, rc e]
        rw [sp (fun k => e k.1), sp e]
      have o' : Ord n (H.set (i + 1) H[i / 2]!) (i / 2) := by
        refine ⟨?_, ?_, ?_⟩
        · intro w hw
          rw [cell]
          split
          · exact o.den _ hp
          exact o.den _ hw
        · intro k k0 kn k1 k2
          rw [cell, cell]
          by_cases e : k = i + 1
          · subst e; exact absurd (by omega) k2
          rw [sp e]
          by_cases e2 : (k - 1) / 2 = i + 1
          · rw [rc e2]
            have := o.Ju (by omega) k k0 kn e2
            rwa [show (i + 1 - 1) / 2 = i / 2 by omega] at this
          rw [sp e2]
          exact o.ord k k0 kn e e2
        intro p0 k k0 kn k1
        rw [cell, cell, sp (show (i / 2 - 1) / 2 ≠ i + 1 by omega)]
        have up1 : ¬ less H[i / 2]! H[(i / 2 - 1) / 2]! := o.ord (i / 2) p0 hp dC (by omega)
        by_cases e : k = i + 1
        · rw [rc e]; exact up1
        rw [sp e]
        have up2 : ¬ less H[k]! H[i / 2]! := by
          have := o.ord k k0 kn e (by omega)
          rwa [k1] at this
        exact tD (o.den _ (by omega)) (o.den _ hp) (o.den _ kn) up1 up2
      obtain ⟨j, H1, W1, e1, e3, e4, e5, e6, e7, e8, e9, WE⟩ := CS dx (i / 2) _ _ hm o'
      rw [ut] at e5 e6
      refine ⟨j, H1, W1, e1, e3, e4, e5, e6, e7, ?_, ?_, ?_⟩
      · intro k hk
        rw [e8 k hk, cell, sp (by omega)]
      · intro k hk
        rw [e9 k ?_, bc, sp (fun c => hk (i / 2) hp dC c.1.symm)]
        intro w hw Ha
        rw [cell]
        split
        · exact hk (i / 2) hp dC
        rename_i e; exact hk w hw e
      intro _
      refine WE fun k k0 kn k1 => ?_
      rw [cell]
      by_cases e : k = i + 1
      · rw [rc e]; exact lP hl
      rw [sp e]
      have up2 : ¬ less H[k]! H[i / 2]! := by
        have := o.ord k k0 kn e (by omega)
        rwa [k1] at this
      exact tD dx (o.den _ hp) (o.den _ kn) (lP hl) up2
    rw [sp hl]
    refine ⟨i + 1, H, W, rfl, h, o, rfl, rfl, fun _ => ?_, fun _ _ => rfl, fun _ _ => rfl, fun h => h⟩
    rwa [show (i + 1 - 1) / 2 = i / 2 by omega]
termination_by i=>i
decreasing_by omega
theorem OF {n:Nat} {x:Ev} {i:Nat} {H:List Ev} {W:List Int} (h: ∀k,0<k->k<n->(k-1) / 2=i-> ¬less H[k]! x):dh n x i H W=(i,H,W):=by
 rw [dh];split
 · rename_i hk
   rw [sp];rcases mu n H i with e|⟨e,e2⟩
   · rw [e];exact h _ (by omega) hk (by omega)
   rw [e];exact h _ (by omega) e2 (by omega)
 rfl
theorem Gc {n : Nat} {x : Ev} {M : Ev -> Prop} (dx : 1 <= x.2.1) : ∀ (d i : Nat) (H : List Ev) (W : List Int), n - i <= d -> zh n x M H W i -> Ord n H i -> (0 < i -> ¬ less x H[(i - 1) / 2]!) ->
    ∃ j H1 W1, dh n x i H W = (j, H1, W1) /\ zh n x M H1 W1 j /\ Ord n H1 j /\ (aeD H1) = (aeD H) /\ (aeD W1) = (aeD W) /\ (0 < j -> ¬ less x H1[(j - 1) / 2]!) /\
      (∀ k, n <= k -> H1[k]! = H[k]!) /\ (∀ k, (∀ w, w < n -> w ≠ i -> (H[w]!).n ≠ k) -> W1[k]! = W[k]!) /\ (∀ k, 0 < k -> k < n -> (k - 1) / 2 = j -> ¬ less H1[k]! x)
  | 0, i, H, W, hd, h, o, u => by have := h.lt; omega
  | d + 1, i, H, W, hd, h, o, u => by
    have hi := h.lt
    have hn := h.hn
    rw [dh]
    by_cases hk : 2 * i + 1 < n
    · rw [dif_pos hk]
      have kc := mu n H i
      have kn : fR n H i < n := by omega
      have kne : fR n H i ≠ i := by omega
      have kp : (fR n H i - 1) / 2 = i := by omega
      have kb : ∀ k, 0 < k -> k < n -> (k - 1) / 2 = i -> ¬ less H[k]! H[fR n H i]! := by
        intro k k0 k1 k2
        have kk : k = 2 * i + 1 \/ k = 2 * i + 2 := by omega
        unfold fR
        split
        · rename_i hc
          rcases kk with e | e
          · rw [e]; exact lP hc.2
          rw [e]; exact fun h => lP h h
        rename_i hc
        rcases kk with e | e
        · rw [e]; exact fun h => lP h h
        rw [e] at k1 ⊢; exact fun h => hc ⟨k1, h⟩
      by_cases hl : less H[fR n H i]! x
      · rw [rc hl]
        have hm := h.move kn kne
        have cell : ∀ w, (H.set i H[fR n H i]!)[w]! = if w = i then H[fR n H i]! else H[w]! := by
          intro w
          rw [bc]
          by_cases e : w = i
          · rw [rc ⟨e, by omega⟩, rc e]
          rw [sp (fun k => e k.1), sp e]
        have o' : Ord n (H.set i H[fR n H i]!) (fR n H i) := by
          refine ⟨?_, ?_, ?_⟩
          · intro w hw
            rw [cell]
            split
            · exact o.den _ kn
            exact o.den _ hw
          · intro k k0 k1 k2 k3
            rw [cell, cell]
            by_cases e : k = i
            · rw [rc e, sp (by omega)]
              have := o.Ju (by omega) (fR n H i) (by omega) kn kp
              rwa [e]
            rw [sp e]
            by_cases e2 : (k - 1) / 2 = i
            · rw [rc e2]; exact kb k k0 k1 e2
            rw [sp e2]; exact o.ord k k0 k1 e e2
          intro _ k k0 k1 k2
          rw [cell, cell, rc kp, sp (by omega)]
          have := o.ord k k0 k1 (by omega) (by omega)
          rwa [k2] at this
        obtain ⟨j, H1, W1, e1, e3, e4, e5, e6, e7, e8, e9, WE⟩ := Gc dx d (fR n H i) _ _ (by omega) hm o' (by
          intro _
          rw [cell, rc kp]
          exact lP hl)
        rw [ut] at e5 e6
        refine ⟨j, H1, W1, e1, e3, e4, e5, e6, e7, ?_, ?_, WE⟩
        · intro k hk
          rw [e8 k hk, cell, sp (by omega)]
        intro k hk
        rw [e9 k ?_, bc, sp (fun c => hk (fR n H i) kn kne c.1.symm)]
        intro w hw Ha
        rw [cell]
        split
        · exact hk (fR n H i) kn kne
        rename_i e; exact hk w hw e
      rw [sp hl]
      refine ⟨i, H, W, rfl, h, o, rfl, rfl, u, fun _ _ => rfl, fun _ _ => rfl, ?_⟩
      intro k k0 k1 k2
      exact tD dx (o.den _ kn) (o.den _ k1) hl (kb k k0 k1 k2)
    rw [dif_neg hk]
    refine ⟨i, H, W, rfl, h, o, rfl, rfl, u, fun _ _ => rfl, fun _ _ => rfl, ?_⟩
    intro k k0 k1 k2
    omega
structure xG (n:Nat) (x:Ev) (M:Ev->Prop) (K:Nat->Prop) (H:List Ev) (W:List Int) (H1:List Ev) (W1:List Int):Prop where
 hl:(aeD H1)=aeD H
 wl:(aeD W1)=aeD W
 ix: ∀w,w<n->0<=(H1[w]!).ix/\(H1[w]!).ix<aeD W/\W1[(H1[w]!).n]! =(w:Int)
 mem: ∀e,(∃w,w<n/\H1[w]! =e)↔(e=x\/M e)
 ord: ∀k,0<k->k<n-> ¬less H1[k]! H1[(k-1) / 2]!
 out: ∀k,K k->W1[k]! =W[k]!
theorem Ho {n:Nat} {x:Ev} {M:Ev->Prop} {H H1:List Ev} {W W1:List Int} {i j:Nat} (h1:zh n x M H1 W1 j) (o1:Ord n H1 j) (hl:(aeD H1)=aeD H) (wl:(aeD W1)=aeD W)
 (u:0<j-> ¬less x H1[(j-1) / 2]!) (kd: ∀k,0<k->k<n->(k-1) / 2=j-> ¬less H1[k]! x) (out: ∀k,(∀w,w<n->w≠i->(H[w]!).n≠k)->W1[k]! =W[k]!):
 xG n x M (fun k=>k≠x.n/\ ∀w,w<n->w≠i->(H[w]!).n≠k) H W (H1.set j x) (W1.set x.n (j:Int)):=by
 have hn:=h1.hn;have hj:=h1.lt;have f:=h1.fill;have cell: ∀w,(H1.set j x)[w]! =if w=j then x else H1[w]!:=by
  intro w;rw [bc]
  by_cases e:w=j
  · rw [rc ⟨e,by omega⟩,rc e]
  rw [sp (fun k=>e k.1),sp e]
 refine ⟨by rw [ut];exact hl,by rw [ut];exact wl,?_,f.2,?_,?_⟩
 · rw [<- wl];exact f.1
 · intro k k0 kn
   rw [cell,cell]
   by_cases e:k=j
   · rw [rc e,sp (by omega),e];exact u (by omega)
   rw [sp e]
   by_cases e2:(k-1) / 2=j
   · rw [rc e2];exact kd k k0 kn e2
   rw [sp e2];exact o1.ord k k0 kn e e2
 rintro k ⟨k1,k2⟩
 rw [bc,sp (fun c=>k1 c.1)];exact out k k2
noncomputable def bV (n:Nat) (x:Ev) (i:Nat) (H:List Ev) (W:List Int):List Ev×List Int:=
 let u:=gN x i H W
 let d:=dh n x u.1 u.2.1 u.2.2
 (d.2.1.set d.1 x,d.2.2.set x.n (d.1:Int))
theorem wR {n:Nat} {x:Ev} {M:Ev->Prop} (dx:1<=x.2.1) {i:Nat} {H:List Ev} {W:List Int} (h:zh n x M H W i) (o:Ord n H i):
 xG n x M (fun k=>k≠x.n/\ ∀w,w<n->w≠i->(H[w]!).n≠k) H W (bV n x i H W).1 (bV n x i H W).2:=by
 obtain ⟨j,H1,W1,e1,e3,e4,e5,e6,e7,e8,e9,WE⟩:=CS dx i H W h o;obtain ⟨k,H2,W2,f1,f3,f4,f5,f6,f7,f8,f9,f10⟩:=Gc dx n j H1 W1 (by omega) e3 e4 e7;have e:bV n x i H W=(H2.set k x,W2.set x.n (k:Int)):=by unfold bV;rw [e1];dsimp only;rw [f1]
 rw [e];refine Ho f3 f4 (by omega) (by omega) f7 f10 ?_;intro c hc;rw [f9 c ?_,e9 c hc];intro w hw hwj hcw;have hm:M H1[w]!:=(e3.mem _).1 ⟨w,hw,hwj,rfl⟩;obtain ⟨v,v1,v2,v3⟩:=(h.mem _).2 hm;exact hc v v1 v2 (by rw [v3];exact hcw)
theorem Jv {n:Nat} {x:Ev} {M:Ev->Prop} (dx:1<=x.2.1) {i:Nat} {H:List Ev} {W:List Int} (h:zh n x M H W i) (o:Ord n H i) (hk: ∀k,0<k->k<n->(k-1) / 2=i-> ¬less H[k]! x):
 bV n x i H W=((gN x i H W).2.1.set (gN x i H W).1 x,(gN x i H W).2.2.set x.n ((gN x i H W).1:Int)):=by
 obtain ⟨j,H1,W1,e1,e3,e4,e5,e6,e7,e8,e9,WE⟩:=CS dx i H W h o;unfold bV;rw [e1];dsimp only;rw [OF (WE hk)]
def om (x:Ev):Prop:=aZ (x.1,x.2.1)/\jP (x.1,x.2.1)/\0<=x.2.2.1/\x.2.2.1<=1000000
theorem om.den {x:Ev} (h:om x):1<=x.2.1:=h.1.1
noncomputable def Ey (x y:Ev):Int:=if eK (x.1,x.2.1) (y.1,y.2.1)≠0 then eK (x.1,x.2.1) (y.1,y.2.1) else gU x.2.2.1 y.2.2.1
theorem Av (x y:Ev):Ey x y<0↔less x y:=by
 unfold Ey less
 by_cases h:eK (x.1,x.2.1) (y.1,y.2.1)=0
 · rw [sp (by simpa using h),h]
   rcases cH x.2.2.1 y.2.2.1 with ⟨h1,e⟩|⟨h1,e⟩|⟨h1,e⟩<;>rw [e]<;>constructor<;>intro<;>omega
 rw [rc h];constructor<;>intro<;>omega
theorem cW {x y:Ev} (hx:om x) (hy:om y):bQ x y=aeE (Ey x y):=by unfold bQ Ey;rw [By hx.2.1 hy.2.1,rc ⟨hx.1,hy.1⟩];simp only [ar,gM,xF]
theorem lD {x y:Ev} (hx:om x) (hy:om y):dH x y=aeE (aeJ (less x y)):=by
 unfold dH less;rw [ze hx.2.1 hy.2.1];simp only [ar];generalize eK (x.1,x.2.1) (y.1,y.2.1)=c
 by_cases h1:c<0
 · simp [h1]
 by_cases h2:c=0
 · subst h2;simp
 simp only [h1,dL h2,h2,decide_false,pp,false_or,false_and]
theorem BA {x y:Ev}:aeJ (Ey x y<0)=aeJ (less x y):=by simp only [Av]
theorem Hq {x y:Ev}:aeJ (0<=Ey x y)=!aeJ (less x y):=by
 have:=Av x y
 by_cases h:less x y
 · have h2:=this.2 h
   have: ¬0<=Ey x y:=by omega
   simp [h,this]
 have h2: ¬Ey x y<0:=fun k=>h (this.1 k)
 have:0<=Ey x y:=by omega
 simp [h,this]
structure kD (n:Nat) (H:List Ev) (W:List Int):Prop where
 hn:n<=aeD H
 hb:(aeD H)<=1000000
 ev: ∀w,w<n->om H[w]!/\0<=(H[w]!).ix/\(H[w]!).ix<aeD W
theorem kD.move {n:Nat} {H:List Ev} {W:List Int} (c:kD n H W) {i j:Nat} (_hi:i<n) (hj:j<n) (k:Nat) (v:Int):kD n (H.set i H[j]!) (W.set k v):=by
 have hn:=c.hn;refine ⟨by rw [ut];exact hn,by rw [ut];exact c.hb,?_⟩;intro w hw;rw [bc,ut];split
 · exact c.ev j hj
 exact c.ev w hw
theorem CT {H:List Ev} {W:List Int} {x:Ev} {u fr:List Int} {us:List Bool} {i:Nat} (hi:i<aeD H) (h0:0<=x.ix) (h1:x.ix<aeD W):
 bI (u,us,fr,(i:Int),x.1,x.2.1,x.2.2.1,x.2.2.2.1,x.2.2.2.2,H,W)=aeE (H.set i x,W.set x.n (i:Int)):=by
 unfold bI;have e1:=au H i hi;have e2:=cZ (l:=W) h0 h1;simp only [e1,e2,ar,wc,beq_self_eq_true,lw];rfl
theorem CU {n cap:Nat} {H:List Ev} {W:List Int} {x:Ev} {u fr:List Int} {us:List Bool} {i:Nat} (hi:i<n) (hn:n<=aeD H) (h0:0<=x.ix) (h1:x.ix<aeD W):
 bH (u,us,fr,n,cap,(i:Int),x.1,x.2.1,x.2.2.1,x.2.2.2.1,x.2.2.2.2,H,W)=aeE (H.set i x,W.set x.n (i:Int)):=by
 unfold bH;have e1:=au (H.take n) i (by rw [ad3];omega);have e2:=cZ (l:=W) h0 h1;simp only [e1,e2,ar,wc,beq_self_eq_true,lw];rfl
theorem pM {i:Nat} (h:i<1000000000):aj .i64 (ac6 (aj .i64 (((i+1:Nat):Int) -1)) 2)=((i / 2:Nat):Int):=by
 have e:aj .i64 (((i+1:Nat):Int) -1)=(i:Int):=by rw [wi];omega
 rw [e,adB (by omega),wi];omega
theorem sQ {i:Nat} (h:i<1000000000):aj .i64 ((aj .i64 (2*(i:Int)))+1)=((2*i+1:Nat):Int):=by
 have e:aj .i64 (2*(i:Int))=((2*i:Nat):Int):=by rw [wi];omega
 rw [e,wi];omega
theorem wS {n:Nat} {x:Ev}: ∀{i:Nat} {H:List Ev} {W:List Int} {j:Nat} {H1:List Ev} {W1:List Int},kD n H W->i<n->gN x i H W=(j,H1,W1)-> ∀w,w<n->om H1[w]!/\0<=(H1[w]!).ix/\(H1[w]!).ix<aeD W
 |0,H,W,j,H1,W1,c,hi,e=>by rw [gN] at e;injection e with e1 e;injection e with e2 e3;subst e2;exact c.ev
 |i+1,H,W,j,H1,W1,c,hi,e=>by
  rw [gN] at e;split at e
  · have:=wS (c.move hi (show i / 2<n by omega) (H[i / 2]!).n ((i+1:Nat):Int)) (by omega) e
    rw [ut] at this;exact this
  injection e with e1 e;injection e with e2 e3
  subst e2;exact c.ev
termination_by i=>i
decreasing_by omega
theorem LG {c0:List Int×List Bool×List Int×Int×Int×Int×Int×Int×Int×List Ev×List Int} {n i:Nat} {H:List Ev} {W:List Int} {u fr:List Int} {us:List Bool} {x:Ev}
 (c:kD n H W) (hn:(aeD H)=n) (hi:i<n) (hx:om x) (x0:0<=x.ix) (x1:x.ix<aeD W) (l1:(aeD c0.2.2.2.2.2.2.2.2.2.1)=n) (l2:(aeD c0.2.2.2.2.2.2.2.2.2.2)=aeD W):
 eU c0 ((i:Int),((2*i+1:Nat):Int),H,W,u,us,fr,x)=
  aeE (if 2*i+1<n/\less H[fR n H i]! x then .next (((fR n H i:Nat):Int),((2*fR n H i+1:Nat):Int),H.set i H[fR n H i]!,W.set (H[fR n H i]!).n (i:Int),u,us,fr,x)
   else .done (.done (H.set i x,W.set x.n (i:Int)))):=by
 have hb:=c.hb;have fin:(bI (u,us,fr,(i:Int),x.1,x.2.1,x.2.2.1,x.2.2.2.1,x.2.2.2.2,H,W))=aeE (H.set i x,W.set x.n (i:Int)):=CT (by omega) x0 x1;have ln1:(H.set i x).length=(aeD c0.2.2.2.2.2.2.2.2.2.1):=by rw [ut];omega
 have ln2:(W.set x.n (i:Int)).length=(aeD c0.2.2.2.2.2.2.2.2.2.2):=by rw [ut];omega
 unfold eU;simp only [aB,hn,fin,ar,ln1,ln2,beq_self_eq_true,lw]
 by_cases h1:2*i+1<n
 · have e1:aeJ (((2*i+1:Nat):Int)<(n:Int))=aeH:=by simp;omega
   have e2:aj .i64 (((2*i+1:Nat):Int)+1)=((2*i+2:Nat):Int):=bk (by omega);obtain ⟨vG,a1,a2⟩:=c.ev (2*i+1) h1;have g1:=au H (2*i+1) (by omega);have s1:(bI (u,us,fr,(i:Int),(H[2*i+1]!).1,(H[2*i+1]!).2.1,(H[2*i+1]!).2.2.1,(H[2*i+1]!).2.2.2.1,(H[2*i+1]!).2.2.2.2,H,W))=aeE (H.set i H[2*i+1]!,W.set (H[2*i+1]!).n (i:Int)):=CT (by omega) a1 a2;simp only [e1,e2,lw,g1,ar,s1,cW vG hx,Hq,sQ (show 2*i+1<1000000000 by omega)]
   by_cases h2:2*i+2<n
   · have e3:aeJ (((2*i+2:Nat):Int)<(n:Int))=aeH:=by simp;omega
     obtain ⟨RE,b1,b2⟩:=c.ev (2*i+2) h2;have g2:=au H (2*i+2) (by omega);have s2:(bI (u,us,fr,(i:Int),(H[2*i+2]!).1,(H[2*i+2]!).2.1,(H[2*i+2]!).2.2.1,(H[2*i+2]!).2.2.2.1,(H[2*i+2]!).2.2.2.2,H,W))=aeE (H.set i H[2*i+2]!,W.set (H[2*i+2]!).n (i:Int)):=CT (by omega) b1 b2;simp only [e3,lw,g2,ar,s2,cW RE hx,cW RE vG,BA,Hq,sQ (show 2*i+2<1000000000 by omega)]
     by_cases h3:less H[2*i+2]! H[2*i+1]!
     · have k:fR n H i=2*i+2:=by unfold fR;rw [rc ⟨h2,h3⟩]
       rw [k]
       by_cases h4:less H[2*i+2]! x
       · simp only [h1,h3,h4,decide_true,lw,pp,M2,and_self,if_true]
       simp only [h1,h3,h4,decide_true,decide_false,lw,If,and_false,if_false]
     have k:fR n H i=2*i+1:=by unfold fR;rw [sp (fun h=>h3 h.2)]
     rw [k]
     by_cases h4:less H[2*i+1]! x
     · simp only [h1,h3,h4,decide_true,decide_false,pp,M2,and_self,if_true]
     simp only [h1,h3,h4,decide_false,lw,pp,If,and_false,if_false]
   have e3:aeJ (((2*i+2:Nat):Int)<(n:Int))=aeI:=by simp;omega
   have k:fR n H i=2*i+1:=by unfold fR;rw [sp (fun h=>h2 h.1)]
   rw [k];simp only [e3,pp]
   by_cases h4:less H[2*i+1]! x
   · simp only [h1,h4,decide_true,pp,M2,and_self,if_true]
   simp only [h1,h4,decide_false,lw,If,and_false,if_false]
 have e1:aeJ (((2*i+1:Nat):Int)<(n:Int))=aeI:=by simp;omega
 rw [sp (fun h=>h1 h.1),e1];rfl
theorem uT {c0 : List Int × List Bool × List Int × Int × Int × Int × Int × Int × Int × List Ev × List Int} {n : Nat} {u fr : List Int} {us : List Bool} {x : Ev} (hx : om x) (x0 : 0 <= x.ix) (l1 : (aeD c0.2.2.2.2.2.2.2.2.2.1) = n) :
    ∀ (d i : Nat) (H : List Ev) (W : List Int), n - i <= d -> kD n H W -> (aeD H) = n -> i < n -> x.ix < (aeD W) -> (aeD c0.2.2.2.2.2.2.2.2.2.2) = (aeD W) ->
      aD (eU c0) ((i : Int), ((2 * i + 1 : Nat) : Int), H, W, u, us, fr, x) = aeE (.done ((dh n x i H W).2.1.set (dh n x i H W).1 x, (dh n x i H W).2.2.set x.n ((dh n x i H W).1 : Int)))
  | 0, i, H, W, hd, c, hn, hi, x1, l2 => by omega
  | d + 1, i, H, W, hd, c, hn, hi, x1, l2 => by
    have r := LG (u := u) (us := us) (fr := fr) c hn hi hx x0 x1 l1 l2
    by_cases h : 2 * i + 1 < n /\ less H[fR n H i]! x
    · rw [rc h] at r
      have kc := mu n H i
      have kn : fR n H i < n := by omega
      rw [aX r, uT hx x0 l1 d (fR n H i) _ _ (by omega) (c.move hi kn _ _) (by rw [ut]; exact hn) kn (by rw [ut]; exact x1) (by rw [ut]; exact l2)]
      have e : dh n x i H W = dh n x (fR n H i) (H.set i H[fR n H i]!) (W.set (H[fR n H i]!).n (i : Int)) := by
        rw [dh, dif_pos h.1, rc h.2]
      rw [e]
    rw [sp h] at r
    rw [aJ r]
    have e : dh n x i H W = (i, H, W) := by
      rw [dh]
      split
      · rename_i h1; rw [sp (fun k => h ⟨h1, k⟩)]
      rfl
    rw [e]
theorem Ez {c0 : List Int × List Bool × List Int × Int × Int × Int × Int × Int × Int × List Ev × List Int} {n : Nat} {u fr : List Int} {us : List Bool} {x : Ev} (hx : om x) (x0 : 0 <= x.ix) (l1 : (aeD c0.2.2.2.2.2.2.2.2.2.1) = n) :
    ∀ (i : Nat) (H : List Ev) (W : List Int), kD n H W -> (aeD H) = n -> i < n -> x.ix < (aeD W) -> (aeD c0.2.2.2.2.2.2.2.2.2.2) = (aeD W) ->
      aD (dO c0) ((i : Int), H, W, u, us, fr, x) = aeE (bV n x i H W)
  | 0, H, W, c, hn, hi, x1, l2 => by
    have hb := c.hb
    have dn := uT (u := u) (us := us) (fr := fr) hx x0 l1 n 0 H W (by omega) c hn hi x1 l2
    refine (aJ (r := bV n x 0 H W) ?_)
    unfold dO
    have e1 : aeJ ((0 : Int) < ((0 : Nat) : Int)) = aeI := by simp
    simp only [e1, pp, sQ (show 0 < 1000000000 by omega)]
    rw [dn]
    unfold bV
    rw [gN]
  | i + 1, H, W, c, hn, hi, x1, l2 => by
    have hb := c.hb
    have e1 : aeJ ((0 : Int) < ((i + 1 : Nat) : Int)) = aeH := decide_eq_true (by omega)
    have hp : i / 2 < n := by omega
    obtain ⟨vG, a1, a2⟩ := c.ev (i / 2) hp
    have g1 := au H (i / 2) (by omega)
    have s1 : (bI (u, us, fr, ((i + 1 : Nat) : Int), (H[i / 2]!).1, (H[i / 2]!).2.1, (H[i / 2]!).2.2.1, (H[i / 2]!).2.2.2.1, (H[i / 2]!).2.2.2.2, H, W)) = aeE (H.set (i + 1) H[i / 2]!, W.set (H[i / 2]!).n ((i + 1 : Nat) : Int)) := CT (by omega) a1 a2
    by_cases h : less x H[i / 2]!
    · have r : dO c0 (((i + 1 : Nat) : Int), H, W, u, us, fr, x) = aeE (.next (((i / 2 : Nat) : Int), H.set (i + 1) H[i / 2]!, W.set (H[i / 2]!).n ((i + 1 : Nat) : Int), u, us, fr, x)) := by
        unfold dO
        simp only [e1, lw, pM (show i < 1000000000 by omega), g1, ar, cW hx vG, BA, h, decide_true, s1]
      rw [aX r, Ez hx x0 l1 (i / 2) _ _ (c.move hi hp _ _) (by rw [ut]; exact hn) hp (by rw [ut]; exact x1) (by rw [ut]; exact l2)]
      have e : gN x (i + 1) H W = gN x (i / 2) (H.set (i + 1) H[i / 2]!) (W.set (H[i / 2]!).n ((i + 1 : Nat) : Int)) := by
        rw [gN, rc h]
      unfold bV
      rw [e]
    have dn := uT (u := u) (us := us) (fr := fr) hx x0 l1 n (i + 1) H W (by omega) c hn hi x1 l2
    refine (aJ (r := bV n x (i + 1) H W) ?_)
    unfold dO
    simp only [e1, lw, pM (show i < 1000000000 by omega), g1, ar, cW hx vG, BA, h, decide_false, pp, sQ (show i + 1 < 1000000000 by omega)]
    rw [dn]
    unfold bV
    rw [gN, sp h]
termination_by i=>i
decreasing_by omega
theorem EA {n:Nat} {u fr:List Int} {us:List Bool} {x:Ev} (hx:om x) (x0:0<=x.ix) {i:Nat} {H:List Ev} {W:List Int} (c:kD n H W) (hn:(aeD H)=n) (hi:i<n) (x1:x.ix<aeD W):
 dU (u,us,fr,(i:Int),x.1,x.2.1,x.2.2.1,x.2.2.2.1,x.2.2.2.2,H,W)=aeE (bV n x i H W):=by
 unfold dU;exact Ez hx x0 hn i H W c hn hi x1 rfl
theorem eY {l:List Ev} {n i:Nat} (h:i<n) (hn:n<=aeD l):aC (l.take n) (i:Int)=aeE l[i]!:=by rw [au (l.take n) i (by rw [ad3];omega),jK h]
theorem LH {c0:List Int×List Bool×List Int×Nat×Nat×Int×Int×Int×Int×Int×Int×List Ev×List Int} {n cap i:Nat} {H:List Ev} {W:List Int} {u fr:List Int} {us:List Bool} {x:Ev}
 (c:kD n H W) (hi:i<n) (hx:om x) (x0:0<=x.ix) (x1:x.ix<aeD W) (l1:(aeD c0.2.2.2.2.2.2.2.2.2.2.2.1)=aeD H) (l2:(aeD c0.2.2.2.2.2.2.2.2.2.2.2.2)=aeD W):
 eT c0 ((i:Int),((2*i+1:Nat):Int),H,W,u,us,fr,n,cap,x)=
  aeE (if 2*i+1<n/\less H[fR n H i]! x then .next (((fR n H i:Nat):Int),((2*fR n H i+1:Nat):Int),H.set i H[fR n H i]!,W.set (H[fR n H i]!).n (i:Int),u,us,fr,n,cap,x)
   else .done (.done (H.set i x,W.set x.n (i:Int)))):=by
 have hb:=c.hb;have OG:=c.hn;have fin:(bH (u,us,fr,n,cap,(i:Int),x.1,x.2.1,x.2.2.1,x.2.2.2.1,x.2.2.2.2,H,W))=aeE (H.set i x,W.set x.n (i:Int)):=CU (cap:=cap) (by omega) c.hn x0 x1;have ln1:(H.set i x).length=(aeD c0.2.2.2.2.2.2.2.2.2.2.2.1):=by rw [ut];omega
 have ln2:(W.set x.n (i:Int)).length=(aeD c0.2.2.2.2.2.2.2.2.2.2.2.2):=by rw [ut];omega
 unfold eT;simp only [aB,fin,ar,ln1,ln2,beq_self_eq_true,lw]
 by_cases h1:2*i+1<n
 · have e1:aeJ (((2*i+1:Nat):Int)<(n:Int))=aeH:=by simp;omega
   have e2:aj .i64 (((2*i+1:Nat):Int)+1)=((2*i+2:Nat):Int):=bk (by omega);obtain ⟨vG,a1,a2⟩:=c.ev (2*i+1) h1;have g1:=eY (l:=H) (n:=n) (i:=2*i+1) (by omega) c.hn;have s1:(bH (u,us,fr,n,cap,(i:Int),(H[2*i+1]!).1,(H[2*i+1]!).2.1,(H[2*i+1]!).2.2.1,(H[2*i+1]!).2.2.2.1,(H[2*i+1]!).2.2.2.2,H,W))=aeE (H.set i H[2*i+1]!,W.set (H[2*i+1]!).n (i:Int)):=CU (cap:=cap) (by omega) c.hn a1 a2;simp only [e1,e2,lw,g1,ar,s1,cW vG hx,Hq,sQ (show 2*i+1<1000000000 by omega)]
   by_cases h2:2*i+2<n
   · have e3:aeJ (((2*i+2:Nat):Int)<(n:Int))=aeH:=by simp;omega
     obtain ⟨RE,b1,b2⟩:=c.ev (2*i+2) h2;have g2:=eY (l:=H) (n:=n) (i:=2*i+2) (by omega) c.hn;have s2:(bH (u,us,fr,n,cap,(i:Int),(H[2*i+2]!).1,(H[2*i+2]!).2.1,(H[2*i+2]!).2.2.1,(H[2*i+2]!).2.2.2.1,(H[2*i+2]!).2.2.2.2,H,W))=aeE (H.set i H[2*i+2]!,W.set (H[2*i+2]!).n (i:Int)):=CU (cap:=cap) (by omega) c.hn b1 b2;simp only [e3,lw,g2,ar,s2,cW RE hx,cW RE vG,BA,Hq,sQ (show 2*i+2<1000000000 by omega)]
     by_cases h3:less H[2*i+2]! H[2*i+1]!
     · have k:fR n H i=2*i+2:=by unfold fR;rw [rc ⟨h2,h3⟩]
       rw [k]
       by_cases h4:less H[2*i+2]! x
       · simp only [h1,h3,h4,decide_true,lw,pp,M2,and_self,if_true]
       simp only [h1,h3,h4,decide_true,decide_false,lw,If,and_false,if_false]
     have k:fR n H i=2*i+1:=by unfold fR;rw [sp (fun h=>h3 h.2)]
     rw [k]
     by_cases h4:less H[2*i+1]! x
     · simp only [h1,h3,h4,decide_true,decide_false,pp,M2,and_self,if_true]
     simp only [h1,h3,h4,decide_false,lw,pp,If,and_false,if_false]
   have e3:aeJ (((2*i+2:Nat):Int)<(n:Int))=aeI:=by simp;omega
   have k:fR n H i=2*i+1:=by unfold fR;rw [sp (fun h=>h2 h.1)]
   rw [k];simp only [e3,pp]
   by_cases h4:less H[2*i+1]! x
   · simp only [h1,h4,decide_true,pp,M2,and_self,if_true]
   simp only [h1,h4,decide_false,lw,If,and_false,if_false]
 have e1:aeJ (((2*i+1:Nat):Int)<(n:Int))=aeI:=by simp;omega
 rw [sp (fun h=>h1 h.1),e1];rfl
theorem uU {c0 : List Int × List Bool × List Int × Nat × Nat × Int × Int × Int × Int × Int × Int × List Ev × List Int} {n cap : Nat} {u fr : List Int} {us : List Bool} {x : Ev} (hx : om x) (x0 : 0 <= x.ix) :
    ∀ (d i : Nat) (H : List Ev) (W : List Int), n - i <= d -> kD n H W -> (aeD c0.2.2.2.2.2.2.2.2.2.2.2.1) = (aeD H) -> i < n -> x.ix < (aeD W) -> (aeD c0.2.2.2.2.2.2.2.2.2.2.2.2) = (aeD W) ->
      aD (eT c0) ((i : Int), ((2 * i + 1 : Nat) : Int), H, W, u, us, fr, n, cap, x) = aeE (.done ((dh n x i H W).2.1.set (dh n x i H W).1 x, (dh n x i H W).2.2.set x.n ((dh n x i H W).1 : Int)))
  | 0, i, H, W, hd, c, hn, hi, x1, l2 => by omega
  | d + 1, i, H, W, hd, c, hn, hi, x1, l2 => by
    have r := LH (u := u) (us := us) (fr := fr) (cap := cap) c hi hx x0 x1 hn l2
    by_cases h : 2 * i + 1 < n /\ less H[fR n H i]! x
    · rw [rc h] at r
      have kc := mu n H i
      have kn : fR n H i < n := by omega
      rw [aX r, uU hx x0 d (fR n H i) _ _ (by omega) (c.move hi kn _ _) (by rw [ut]; exact hn) kn (by rw [ut]; exact x1) (by rw [ut]; exact l2)]
      have e : dh n x i H W = dh n x (fR n H i) (H.set i H[fR n H i]!) (W.set (H[fR n H i]!).n (i : Int)) := by
        rw [dh, dif_pos h.1, rc h.2]
      rw [e]
    rw [sp h] at r
    rw [aJ r]
    have e : dh n x i H W = (i, H, W) := by
      rw [dh]
      split
      · rename_i h1; rw [sp (fun k => h ⟨h1, k⟩)]
      rfl
    rw [e]
theorem EB {c0 : List Int × List Bool × List Int × Nat × Nat × Int × Int × Int × Int × Int × Int × List Ev × List Int} {n cap : Nat} {u fr : List Int} {us : List Bool} {x : Ev} (hx : om x) (x0 : 0 <= x.ix) :
    ∀ (i : Nat) (H : List Ev) (W : List Int), kD n H W -> (aeD c0.2.2.2.2.2.2.2.2.2.2.2.1) = (aeD H) -> i < n -> x.ix < (aeD W) -> (aeD c0.2.2.2.2.2.2.2.2.2.2.2.2) = (aeD W) ->
      aD (dN c0) ((i : Int), H, W, u, us, fr, n, cap, x) = aeE (bV n x i H W)
  | 0, H, W, c, hn, hi, x1, l2 => by
    have hb := c.hb
    have OG := c.hn
    have dn := uU (u := u) (us := us) (fr := fr) (cap := cap) hx x0 n 0 H W (by omega) c hn hi x1 l2
    refine (aJ (r := bV n x 0 H W) ?_)
    unfold dN
    have e1 : aeJ ((0 : Int) < ((0 : Nat) : Int)) = aeI := by simp
    simp only [e1, pp, sQ (show 0 < 1000000000 by omega)]
    rw [dn]
    unfold bV
    rw [gN]
  | i + 1, H, W, c, hn, hi, x1, l2 => by
    have hb := c.hb
    have OG := c.hn
    have e1 : aeJ ((0 : Int) < ((i + 1 : Nat) : Int)) = aeH := decide_eq_true (by omega)
    have hp : i / 2 < n := by omega
    obtain ⟨vG, a1, a2⟩ := c.ev (i / 2) hp
    have g1 := eY (l := H) (n := n) (i := i / 2) (by omega) c.hn
    have s1 : (bH (u, us, fr, n, cap, ((i + 1 : Nat) : Int), (H[i / 2]!).1, (H[i / 2]!).2.1, (H[i / 2]!).2.2.1, (H[i / 2]!).2.2.2.1, (H[i / 2]!).2.2.2.2, H, W)) = aeE (H.set (i + 1) H[i / 2]!, W.set (H[i / 2]!).n ((i + 1 : Nat) : Int)) := CU (cap := cap) (by omega) c.hn a1 a2
    by_cases h : less x H[i / 2]!
    · have r : dN c0 (((i + 1 : Nat) : Int), H, W, u, us, fr, n, cap, x) = aeE (.next (((i / 2 : Nat) : Int), H.set (i + 1) H[i / 2]!, W.set (H[i / 2]!).n ((i + 1 : Nat) : Int), u, us, fr, n, cap, x)) := by
        unfold dN
        simp only [e1, lw, pM (show i < 1000000000 by omega), g1, ar, cW hx vG, BA, h, decide_true, s1]
      rw [aX r, EB hx x0 (i / 2) _ _ (c.move hi hp _ _) (by rw [ut]; exact hn) hp (by rw [ut]; exact x1) (by rw [ut]; exact l2)]
      have e : gN x (i + 1) H W = gN x (i / 2) (H.set (i + 1) H[i / 2]!) (W.set (H[i / 2]!).n ((i + 1 : Nat) : Int)) := by
        rw [gN, rc h]
      unfold bV
      rw [e]
    have dn := uU (u := u) (us := us) (fr := fr) (cap := cap) hx x0 n (i + 1) H W (by omega) c hn hi x1 l2
    refine (aJ (r := bV n x (i + 1) H W) ?_)
    unfold dN
    simp only [e1, lw, pM (show i < 1000000000 by omega), g1, ar, cW hx vG, BA, h, decide_false, pp, sQ (show i + 1 < 1000000000 by omega)]
    rw [dn]
    unfold bV
    rw [gN, sp h]
termination_by i=>i
decreasing_by omega
theorem LJ {n cap:Nat} {u fr:List Int} {us:List Bool} {x:Ev} (hx:om x) (x0:0<=x.ix) {i:Nat} {H:List Ev} {W:List Int} (c:kD n H W) (hi:i<n) (x1:x.ix<aeD W):
 iJ (u,us,fr,n,cap,(i:Int),x.1,x.2.1,x.2.2.1,x.2.2.2.1,x.2.2.2.2,H,W)=aeE (bV n x i H W):=by
 unfold iJ;exact EB hx x0 i H W c rfl hi x1 rfl
theorem EC {n cap:Nat} {H:List Ev} {W:List Int} {x:Ev} {u fr:List Int} {us:List Bool} {i k:Nat} (hi:i<n) (hk:k<n) (M1:k≠i) (hn:n<=aeD H) (x0:0<=x.ix) (x1:x.ix<aeD W) (k0:0<=(H[k]!).ix) (k1:(H[k]!).ix<aeD W):
 gx (u,us,fr,n,cap,(i:Int),(k:Int),H.set i x,W.set x.n (i:Int))=aeE ((H.set i H[k]!).set k x,(W.set (H[k]!).n (i:Int)).set x.n (k:Int)):=by
 have cell: ∀w,(H.set i x)[w]! =if w=i then x else H[w]!:=by
  intro w;rw [bc]
  by_cases e:w=i
  · rw [rc ⟨e,by omega⟩,rc e]
  rw [sp (fun k=>e k.1),sp e]
 have sh:((H.set i x).set i H[k]!).set k x=(H.set i H[k]!).set k x:=by rw [acl]
 have sw:((W.set x.n (i:Int)).set (H[k]!).n (i:Int)).set x.n (k:Int)=(W.set (H[k]!).n (i:Int)).set x.n (k:Int):=by
  by_cases e:x.n=(H[k]!).n
  · simp only [e,acl]
  rw [aec _ _ (fun h=>e h),acl]
 have g1:aC ((H.set i x).take n) (k:Int)=aeE H[k]!:=by rw [eY (by omega) (by rw [ut];omega),cell,sp M1]
 have g2:aC ((H.set i x).take n) (i:Int)=aeE x:=by rw [eY (by omega) (by rw [ut];omega),cell,rc rfl]
 have g3:aC (((H.set i x).set i H[k]!).take n) (k:Int)=aeE H[k]!:=by rw [eY (by omega) (by rw [ut,ut];omega),bc,sp (fun h=>M1 h.1),cell,sp M1]
 have g4:aC (((H.set i H[k]!).set k x).take n) (i:Int)=aeE H[k]!:=by rw [eY (by omega) (by rw [ut,ut];omega),bc,sp (fun h=>M1 h.1.symm),bc,rc ⟨rfl,by omega⟩]
 have g5:aC (((H.set i H[k]!).set k x).take n) (k:Int)=aeE x:=by rw [eY (by omega) (by rw [ut,ut];omega),bc,rc ⟨rfl,by rw [ut];omega⟩]
 have w6:=cZ (l:=W.set x.n (i:Int)) k0 (by rw [ut];exact k1);have w7:=cZ (l:=(W.set x.n (i:Int)).set (H[k]!).n (i:Int)) x0 (by rw [ut,ut];exact x1);have q1: ∀(l:List Int) (a:Int) (y:Ev),bP l y.2.2.2.1 a=l.set y.n a:=fun _ _ _=>rfl
 unfold gx;simp only [lq,g1,g2,g3,ar,sh,g4,g5,q1,w6,w7,sw,ut,beq_self_eq_true,lw]
theorem RF {c0:List Int×List Bool×List Int×Nat×Nat×Int×List Ev×List Int} {n cap:Nat} {u fr:List Int} {us:List Bool} {x:Ev} (hx:om x) (x0:0<=x.ix):
 ∀(i:Nat) (H:List Ev) (W:List Int),kD n H W->i<n->x.ix<aeD W->aeD c0.2.2.2.2.2.2.1=aeD H->aeD c0.2.2.2.2.2.2.2=aeD W->
  aD (fI c0) ((i:Int),H.set i x,W.set x.n (i:Int),u,us,fr,n,cap)=aeE (((gN x i H W).1:Int),(gN x i H W).2.1.set (gN x i H W).1 x,(gN x i H W).2.2.set x.n ((gN x i H W).1:Int))
 |0,H,W,c,hi,x1,l1,l2=>by
  have OG:=c.hn;refine aJ ?_;unfold fI;have e1:aeJ ((0:Int)<((0:Nat):Int))=aeI:=by simp
  rw [gN];simp only [e1,pp,ut,l1,l2,beq_self_eq_true,lw]
 |i+1,H,W,c,hi,x1,l1,l2=>by
  have hb:=c.hb;have OG:=c.hn;have e1:aeJ ((0:Int)<((i+1:Nat):Int))=aeH:=decide_eq_true (by omega);have hp:i / 2<n:=by omega
  have dC:i / 2≠i+1:=by omega
  obtain ⟨vG,a1,a2⟩:=c.ev (i / 2) hp;have cell: ∀w,(H.set (i+1) x)[w]! =if w=i+1 then x else H[w]!:=by
   intro w;rw [bc]
   by_cases e:w=i+1
   · rw [rc ⟨e,by omega⟩,rc e]
   rw [sp (fun k=>e k.1),sp e]
  have g0:aC ((H.set (i+1) x).take n) ((i+1:Nat):Int)=aeE x:=by rw [eY (by omega) (by rw [ut];omega),cell,rc rfl]
  have g1:aC ((H.set (i+1) x).take n) ((i / 2:Nat):Int)=aeE H[i / 2]!:=by rw [eY (by omega) (by rw [ut];omega),cell,sp dC]
  by_cases h:less x H[i / 2]!
  · have sw:=EC (cap:=cap) (u:=u) (us:=us) (fr:=fr) (x:=x) hi hp dC OG x0 x1 a1 a2
    have r:fI c0 (((i+1:Nat):Int),H.set (i+1) x,W.set x.n ((i+1:Nat):Int),u,us,fr,n,cap)=aeE (.next (((i / 2:Nat):Int),(H.set (i+1) H[i / 2]!).set (i / 2) x,(W.set (H[i / 2]!).n ((i+1:Nat):Int)).set x.n ((i / 2:Nat):Int),u,us,fr,n,cap)):=by unfold fI;simp only [e1,lw,pM (show i<1000000000 by omega),g0,g1,ar,lD hx vG,h,decide_true,sw]
    rw [aX r,RF hx x0 (i / 2) _ _ (c.move hi hp _ _) hp (by rw [ut];exact x1) (by rw [ut];exact l1) (by rw [ut];exact l2)];have e:gN x (i+1) H W=gN x (i / 2) (H.set (i+1) H[i / 2]!) (W.set (H[i / 2]!).n ((i+1:Nat):Int)):=by rw [gN,rc h]
    rw [e]
  refine aJ ?_
  unfold fI;have e:gN x (i+1) H W=(i+1,H,W):=by rw [gN,sp h]
  rw [e];simp only [e1,lw,pM (show i<1000000000 by omega),g0,g1,ar,lD hx vG,h,decide_false,pp,ut,l1,l2,beq_self_eq_true]
termination_by i=>i
decreasing_by omega
theorem Jw {c0:List Int×List Bool×List Int×Nat×Nat×Int×List Ev×List Int} {n cap:Nat} {u fr:List Int} {us:List Bool} {x:Ev} (hx:om x) (x0:0<=x.ix):
 ∀(d i:Nat) (H:List Ev) (W:List Int),n-i<=d->kD n H W->i<n->x.ix<aeD W->aeD c0.2.2.2.2.2.2.1=aeD H->aeD c0.2.2.2.2.2.2.2=aeD W->
  aD (iM c0) ((i:Int),H.set i x,W.set x.n (i:Int),u,us,fr,n,cap)=aeE (((dh n x i H W).2.1.set (dh n x i H W).1 x,(dh n x i H W).2.2.set x.n ((dh n x i H W).1:Int)))
 |0,i,H,W,hd,c,hi,x1,l1,l2=>by omega
 |d+1,i,H,W,hd,c,hi,x1,l1,l2=>by
  have hb:=c.hb;have OG:=c.hn;have cell: ∀w,(H.set i x)[w]! =if w=i then x else H[w]!:=by
   intro w;rw [bc]
   by_cases e:w=i
   · rw [rc ⟨e,by omega⟩,rc e]
   rw [sp (fun k=>e k.1),sp e]
  have RG:(H.set i x).length=(aeD H):=ut;have body:iM c0 ((i:Int),H.set i x,W.set x.n (i:Int),u,us,fr,n,cap)=aeE (if 2*i+1<n/\less H[fR n H i]! x then .next (((fR n H i:Nat):Int),(H.set i H[fR n H i]!).set (fR n H i) x,(W.set (H[fR n H i]!).n (i:Int)).set x.n ((fR n H i:Nat):Int),u,us,fr,n,cap) else .done ((H.set i x,W.set x.n (i:Int)))):=by
   have k1:=sQ (show i<1000000000 by omega);unfold iM
   by_cases h1:2*i+1<n
   · have e1:aeJ ((n:Int)<=((2*i+1:Nat):Int))=aeI:=decide_eq_false (by omega)
     have e2:aj .i64 (((2*i+1:Nat):Int)+1)=((2*i+2:Nat):Int):=bk (by omega);obtain ⟨vG,a1,a2⟩:=c.ev (2*i+1) h1;have g0:aC ((H.set i x).take n) (i:Int)=aeE x:=by rw [eY (by omega) (by rw [ut];omega),cell,rc rfl]
     have g1:aC ((H.set i x).take n) ((2*i+1:Nat):Int)=aeE H[2*i+1]!:=by rw [eY (by omega) (by rw [ut];omega),cell,sp (by omega)]
     have s1:=EC (cap:=cap) (u:=u) (us:=us) (fr:=fr) (x:=x) hi h1 (by omega) OG x0 x1 a1 a2;simp only [aB,k1,RG,e1,e2,pp,g0,g1,ar,lD vG hx,s1,ut,l1,l2,beq_self_eq_true,lw]
     by_cases h2:2*i+2<n
     · have e3:aeJ (((2*i+2:Nat):Int)<(n:Int))=aeH:=decide_eq_true (by omega)
       obtain ⟨RE,b1,b2⟩:=c.ev (2*i+2) h2;have g2:aC ((H.set i x).take n) ((2*i+2:Nat):Int)=aeE H[2*i+2]!:=by rw [eY (by omega) (by rw [ut];omega),cell,sp (by omega)]
       have s2:=EC (cap:=cap) (u:=u) (us:=us) (fr:=fr) (x:=x) hi h2 (by omega) OG x0 x1 b1 b2;simp only [e3,lw,g2,ar,s2,lD RE hx,lD RE vG]
       by_cases h3:less H[2*i+2]! H[2*i+1]!
       · have k:fR n H i=2*i+2:=by unfold fR;rw [rc ⟨h2,h3⟩]
         rw [k]
         by_cases h4:less H[2*i+2]! x
         · simp only [h1,h3,h4,decide_true,lw,pp,M2,and_self,if_true]
         simp only [h1,h3,h4,decide_true,decide_false,lw,If,and_false,if_false]
       have k:fR n H i=2*i+1:=by unfold fR;rw [sp (fun h=>h3 h.2)]
       rw [k]
       by_cases h4:less H[2*i+1]! x
       · simp only [h1,h3,h4,decide_true,decide_false,pp,M2,and_self,if_true]
       simp only [h1,h3,h4,decide_false,lw,pp,If,and_false,if_false]
     have e3:aeJ (((2*i+2:Nat):Int)<(n:Int))=aeI:=decide_eq_false (by omega)
     have k:fR n H i=2*i+1:=by unfold fR;rw [sp (fun h=>h2 h.1)]
     rw [k];simp only [e3,pp]
     by_cases h4:less H[2*i+1]! x
     · simp only [h1,h4,decide_true,pp,M2,and_self,if_true]
     simp only [h1,h4,decide_false,lw,If,and_false,if_false]
   have e1:aeJ ((n:Int)<=((2*i+1:Nat):Int))=aeH:=decide_eq_true (by omega)
   rw [sp (fun h=>h1 h.1)];simp only [aB,k1,RG,e1,lw,ut,l1,l2,beq_self_eq_true]
  by_cases h:2*i+1<n/\less H[fR n H i]! x
  · rw [rc h] at body
    have kc:=mu n H i;have kn:fR n H i<n:=by omega
    rw [aX body,Jw hx x0 d (fR n H i) _ _ (by omega) (c.move hi kn _ _) kn (by rw [ut];exact x1) (by rw [ut];exact l1) (by rw [ut];exact l2)];have e:dh n x i H W=dh n x (fR n H i) (H.set i H[fR n H i]!) (W.set (H[fR n H i]!).n (i:Int)):=by rw [dh,dif_pos h.1,rc h.2]
    rw [e]
  rw [sp h] at body
  rw [aJ body];have e:dh n x i H W=(i,H,W):=by
   rw [dh];split
   · rename_i h1;rw [sp (fun k=>h ⟨h1,k⟩)]
   rfl
  rw [e]
theorem Aw {n:Nat} {H:List Ev} {W:List Int} {x:Ev} {u fr:List Int} {us:List Bool} {i k:Nat} (hi:i<n) (hk:k<n) (M1:k≠i) (hn:n=aeD H) (x0:0<=x.ix) (x1:x.ix<aeD W) (k0:0<=(H[k]!).ix) (k1:(H[k]!).ix<aeD W):
 fo ((i:Int),(k:Int),u,us,fr,H.set i x,W.set x.n (i:Int))=aeE (u,us,fr,(H.set i H[k]!).set k x,(W.set (H[k]!).n (i:Int)).set x.n (k:Int)):=by
 have cell: ∀w,(H.set i x)[w]! =if w=i then x else H[w]!:=by
  intro w;rw [bc]
  by_cases e:w=i
  · rw [rc ⟨e,by omega⟩,rc e]
  rw [sp (fun k=>e k.1),sp e]
 have sh:((H.set i x).set i H[k]!).set k x=(H.set i H[k]!).set k x:=by rw [acl]
 have sw:((W.set x.n (i:Int)).set (H[k]!).n (i:Int)).set x.n (k:Int)=(W.set (H[k]!).n (i:Int)).set x.n (k:Int):=by
  by_cases e:x.n=(H[k]!).n
  · simp only [e,acl]
  rw [aec _ _ (fun h=>e h),acl]
 have g1:aC ((H.set i x)) (k:Int)=aeE H[k]!:=by rw [au _ _ (by rw [ut];omega),cell,sp M1]
 have g2:aC ((H.set i x)) (i:Int)=aeE x:=by rw [au _ _ (by rw [ut];omega),cell,rc rfl]
 have g3:aC (((H.set i x).set i H[k]!)) (k:Int)=aeE H[k]!:=by rw [au _ _ (by rw [ut,ut];omega),bc,sp (fun h=>M1 h.1),cell,sp M1]
 have g4:aC (((H.set i H[k]!).set k x)) (i:Int)=aeE H[k]!:=by rw [au _ _ (by rw [ut,ut];omega),bc,sp (fun h=>M1 h.1.symm),bc,rc ⟨rfl,by omega⟩]
 have g5:aC (((H.set i H[k]!).set k x)) (k:Int)=aeE x:=by rw [au _ _ (by rw [ut,ut];omega),bc,rc ⟨rfl,by rw [ut];omega⟩]
 have w6:=cZ (l:=W.set x.n (i:Int)) k0 (by rw [ut];exact k1);have w7:=cZ (l:=(W.set x.n (i:Int)).set (H[k]!).n (i:Int)) x0 (by rw [ut,ut];exact x1);have q1: ∀(l:List Int) (a:Int) (y:Ev),bP l y.2.2.2.1 a=l.set y.n a:=fun _ _ _=>rfl
 unfold fo;simp only [lq,g1,g2,g3,ar,sh,g4,g5,q1,w6,w7,sw,ut,beq_self_eq_true,lw]
theorem RH {c0:Int×List Int×List Bool×List Int×List Ev×List Int} {n:Nat} {u fr:List Int} {us:List Bool} {x:Ev} (hx:om x) (x0:0<=x.ix) (l3:(aeD c0.2.1)=aeD u) (l4:(aeD c0.2.2.1)=aeD us) (l5:(aeD c0.2.2.2.1)=aeD fr):
 ∀(i:Nat) (H:List Ev) (W:List Int),kD n H W->i<n->aeD H=n->x.ix<aeD W->aeD c0.2.2.2.2.1=aeD H->aeD c0.2.2.2.2.2=aeD W->
  aD (fJ c0) ((i:Int),u,us,fr,H.set i x,W.set x.n (i:Int))=aeE (((gN x i H W).1:Int),u,us,fr,(gN x i H W).2.1.set (gN x i H W).1 x,(gN x i H W).2.2.set x.n ((gN x i H W).1:Int))
 |0,H,W,c,hi,M3,x1,l1,l2=>by
  have OG:=c.hn;refine aJ ?_;unfold fJ;have e1:aeJ ((0:Int)<((0:Nat):Int))=aeI:=by simp
  rw [gN];simp only [e1,pp,ut,l1,l2,l3,l4,l5,beq_self_eq_true,lw]
 |i+1,H,W,c,hi,M3,x1,l1,l2=>by
  have hb:=c.hb;have OG:=c.hn;have e1:aeJ ((0:Int)<((i+1:Nat):Int))=aeH:=decide_eq_true (by omega);have hp:i / 2<n:=by omega
  have dC:i / 2≠i+1:=by omega
  obtain ⟨vG,a1,a2⟩:=c.ev (i / 2) hp;have cell: ∀w,(H.set (i+1) x)[w]! =if w=i+1 then x else H[w]!:=by
   intro w;rw [bc]
   by_cases e:w=i+1
   · rw [rc ⟨e,by omega⟩,rc e]
   rw [sp (fun k=>e k.1),sp e]
  have g0:aC ((H.set (i+1) x)) ((i+1:Nat):Int)=aeE x:=by rw [au _ _ (by rw [ut];omega),cell,rc rfl]
  have g1:aC ((H.set (i+1) x)) ((i / 2:Nat):Int)=aeE H[i / 2]!:=by rw [au _ _ (by rw [ut];omega),cell,sp dC]
  by_cases h:less x H[i / 2]!
  · have sw:=Aw (u:=u) (us:=us) (fr:=fr) (x:=x) hi hp dC M3.symm x0 x1 a1 a2
    have r:fJ c0 (((i+1:Nat):Int),u,us,fr,H.set (i+1) x,W.set x.n ((i+1:Nat):Int))=aeE (.next (((i / 2:Nat):Int),u,us,fr,(H.set (i+1) H[i / 2]!).set (i / 2) x,(W.set (H[i / 2]!).n ((i+1:Nat):Int)).set x.n ((i / 2:Nat):Int))):=by unfold fJ;simp only [e1,lw,pM (show i<1000000000 by omega),g0,g1,ar,lD hx vG,h,decide_true,sw]
    rw [aX r,RH hx x0 l3 l4 l5 (i / 2) _ _ (c.move hi hp _ _) hp (by rw [ut];exact M3) (by rw [ut];exact x1) (by rw [ut];exact l1) (by rw [ut];exact l2)];have e:gN x (i+1) H W=gN x (i / 2) (H.set (i+1) H[i / 2]!) (W.set (H[i / 2]!).n ((i+1:Nat):Int)):=by rw [gN,rc h]
    rw [e]
  refine aJ ?_
  unfold fJ;have e:gN x (i+1) H W=(i+1,H,W):=by rw [gN,sp h]
  rw [e];simp only [e1,lw,pM (show i<1000000000 by omega),g0,g1,ar,lD hx vG,h,decide_false,pp,ut,l1,l2,l3,l4,l5,beq_self_eq_true]
termination_by i=>i
decreasing_by omega
theorem Jx {c0:Int×List Int×List Bool×List Int×List Ev×List Int} {n:Nat} {u fr:List Int} {us:List Bool} {x:Ev} (hx:om x) (x0:0<=x.ix) (l3:(aeD c0.2.1)=aeD u) (l4:(aeD c0.2.2.1)=aeD us) (l5:(aeD c0.2.2.2.1)=aeD fr):
 ∀(d i:Nat) (H:List Ev) (W:List Int),n-i<=d->kD n H W->i<n->aeD H=n->x.ix<aeD W->aeD c0.2.2.2.2.1=aeD H->aeD c0.2.2.2.2.2=aeD W->
  aD (iN c0) ((i:Int),u,us,fr,H.set i x,W.set x.n (i:Int))=aeE ((u,us,fr,(dh n x i H W).2.1.set (dh n x i H W).1 x,(dh n x i H W).2.2.set x.n ((dh n x i H W).1:Int)))
 |0,i,H,W,hd,c,hi,M3,x1,l1,l2=>by omega
 |d+1,i,H,W,hd,c,hi,M3,x1,l1,l2=>by
  have hb:=c.hb;have OG:=c.hn;have cell: ∀w,(H.set i x)[w]! =if w=i then x else H[w]!:=by
   intro w;rw [bc]
   by_cases e:w=i
   · rw [rc ⟨e,by omega⟩,rc e]
   rw [sp (fun k=>e k.1),sp e]
  have RG:(H.set i x).length=(aeD H):=ut;have body:iN c0 ((i:Int),u,us,fr,H.set i x,W.set x.n (i:Int))=aeE (if 2*i+1<n/\less H[fR n H i]! x then .next (((fR n H i:Nat):Int),u,us,fr,(H.set i H[fR n H i]!).set (fR n H i) x,(W.set (H[fR n H i]!).n (i:Int)).set x.n ((fR n H i:Nat):Int)) else .done ((u,us,fr,H.set i x,W.set x.n (i:Int)))):=by
   have k1:=sQ (show i<1000000000 by omega);unfold iN
   by_cases h1:2*i+1<n
   · have e1:aeJ ((n:Int)<=((2*i+1:Nat):Int))=aeI:=decide_eq_false (by omega)
     have e2:aj .i64 (((2*i+1:Nat):Int)+1)=((2*i+2:Nat):Int):=bk (by omega);obtain ⟨vG,a1,a2⟩:=c.ev (2*i+1) h1;have g0:aC ((H.set i x)) (i:Int)=aeE x:=by rw [au _ _ (by rw [ut];omega),cell,rc rfl]
     have g1:aC ((H.set i x)) ((2*i+1:Nat):Int)=aeE H[2*i+1]!:=by rw [au _ _ (by rw [ut];omega),cell,sp (by omega)]
     have s1:=Aw (u:=u) (us:=us) (fr:=fr) (x:=x) hi h1 (by omega) M3.symm x0 x1 a1 a2;simp only [aB,k1,RG,M3,e1,e2,pp,g0,g1,ar,lD vG hx,s1,ut,l1,l2,l3,l4,l5,beq_self_eq_true,lw]
     by_cases h2:2*i+2<n
     · have e3:aeJ (((2*i+2:Nat):Int)<(n:Int))=aeH:=decide_eq_true (by omega)
       obtain ⟨RE,b1,b2⟩:=c.ev (2*i+2) h2;have g2:aC ((H.set i x)) ((2*i+2:Nat):Int)=aeE H[2*i+2]!:=by rw [au _ _ (by rw [ut];omega),cell,sp (by omega)]
       have s2:=Aw (u:=u) (us:=us) (fr:=fr) (x:=x) hi h2 (by omega) M3.symm x0 x1 b1 b2;simp only [e3,lw,g2,ar,s2,lD RE hx,lD RE vG]
       by_cases h3:less H[2*i+2]! H[2*i+1]!
       · have k:fR n H i=2*i+2:=by unfold fR;rw [rc ⟨h2,h3⟩]
         rw [k]
         by_cases h4:less H[2*i+2]! x
         · simp only [h1,h3,h4,decide_true,lw,pp,M2,and_self,if_true]
         simp only [h1,h3,h4,decide_true,decide_false,lw,If,and_false,if_false]
       have k:fR n H i=2*i+1:=by unfold fR;rw [sp (fun h=>h3 h.2)]
       rw [k]
       by_cases h4:less H[2*i+1]! x
       · simp only [h1,h3,h4,decide_true,decide_false,pp,M2,and_self,if_true]
       simp only [h1,h3,h4,decide_false,lw,pp,If,and_false,if_false]
     have e3:aeJ (((2*i+2:Nat):Int)<(n:Int))=aeI:=decide_eq_false (by omega)
     have k:fR n H i=2*i+1:=by unfold fR;rw [sp (fun h=>h2 h.1)]
     rw [k];simp only [e3,pp]
     by_cases h4:less H[2*i+1]! x
     · simp only [h1,h4,decide_true,pp,M2,and_self,if_true]
     simp only [h1,h4,decide_false,lw,If,and_false,if_false]
   have e1:aeJ ((n:Int)<=((2*i+1:Nat):Int))=aeH:=decide_eq_true (by omega)
   rw [sp (fun h=>h1 h.1)];simp only [aB,k1,RG,M3,e1,lw,ut,l1,l2,l3,l4,l5,beq_self_eq_true]
  by_cases h:2*i+1<n/\less H[fR n H i]! x
  · rw [rc h] at body
    have kc:=mu n H i;have kn:fR n H i<n:=by omega
    rw [aX body,Jx hx x0 l3 l4 l5 d (fR n H i) _ _ (by omega) (c.move hi kn _ _) kn (by rw [ut];exact M3) (by rw [ut];exact x1) (by rw [ut];exact l1) (by rw [ut];exact l2)];have e:dh n x i H W=dh n x (fR n H i) (H.set i H[fR n H i]!) (W.set (H[fR n H i]!).n (i:Int)):=by rw [dh,dif_pos h.1,rc h.2]
    rw [e]
  rw [sp h] at body
  rw [aJ body];have e:dh n x i H W=(i,H,W):=by
   rw [dh];split
   · rename_i h1;rw [sp (fun k=>h ⟨h1,k⟩)]
   rfl
  rw [e]
theorem RI {n:Nat} {H:List Ev} {W:List Int} {x:Ev} {u fr:List Int} {us:List Bool} {i k:Nat} (hi:i<n) (hk:k<n) (M1:k≠i) (hn:n=aeD H) (x0:0<=x.ix) (x1:x.ix<aeD W) (k0:0<=(H[k]!).ix) (k1:(H[k]!).ix<aeD W):
 oi (u,us,fr,(i:Int),(k:Int),H.set i x,W.set x.n (i:Int))=aeE ((H.set i H[k]!).set k x,(W.set (H[k]!).n (i:Int)).set x.n (k:Int)):=by
 have cell: ∀w,(H.set i x)[w]! =if w=i then x else H[w]!:=by
  intro w;rw [bc]
  by_cases e:w=i
  · rw [rc ⟨e,by omega⟩,rc e]
  rw [sp (fun k=>e k.1),sp e]
 have sh:((H.set i x).set i H[k]!).set k x=(H.set i H[k]!).set k x:=by rw [acl]
 have sw:((W.set x.n (i:Int)).set (H[k]!).n (i:Int)).set x.n (k:Int)=(W.set (H[k]!).n (i:Int)).set x.n (k:Int):=by
  by_cases e:x.n=(H[k]!).n
  · simp only [e,acl]
  rw [aec _ _ (fun h=>e h),acl]
 have g1:aC ((H.set i x)) (k:Int)=aeE H[k]!:=by rw [au _ _ (by rw [ut];omega),cell,sp M1]
 have g2:aC ((H.set i x)) (i:Int)=aeE x:=by rw [au _ _ (by rw [ut];omega),cell,rc rfl]
 have g3:aC (((H.set i x).set i H[k]!)) (k:Int)=aeE H[k]!:=by rw [au _ _ (by rw [ut,ut];omega),bc,sp (fun h=>M1 h.1),cell,sp M1]
 have g4:aC (((H.set i H[k]!).set k x)) (i:Int)=aeE H[k]!:=by rw [au _ _ (by rw [ut,ut];omega),bc,sp (fun h=>M1 h.1.symm),bc,rc ⟨rfl,by omega⟩]
 have g5:aC (((H.set i H[k]!).set k x)) (k:Int)=aeE x:=by rw [au _ _ (by rw [ut,ut];omega),bc,rc ⟨rfl,by rw [ut];omega⟩]
 have w6:=cZ (l:=W.set x.n (i:Int)) k0 (by rw [ut];exact k1);have w7:=cZ (l:=(W.set x.n (i:Int)).set (H[k]!).n (i:Int)) x0 (by rw [ut,ut];exact x1);have q1: ∀(l:List Int) (a:Int) (y:Ev),bP l y.2.2.2.1 a=l.set y.n a:=fun _ _ _=>rfl
 unfold oi;simp only [lq,g1,g2,g3,ar,sh,g4,g5,q1,w6,w7,sw,ut,beq_self_eq_true,lw]
theorem RJ {c0:List Int×List Bool×List Int×Int×List Ev×List Int} {n:Nat} {u fr:List Int} {us:List Bool} {x:Ev} (hx:om x) (x0:0<=x.ix):
 ∀(i:Nat) (H:List Ev) (W:List Int),kD n H W->i<n->aeD H=n->x.ix<aeD W->aeD c0.2.2.2.2.1=aeD H->aeD c0.2.2.2.2.2=aeD W->
  aD (fK c0) ((i:Int),H.set i x,W.set x.n (i:Int),u,us,fr)=aeE (((gN x i H W).1:Int),(gN x i H W).2.1.set (gN x i H W).1 x,(gN x i H W).2.2.set x.n ((gN x i H W).1:Int))
 |0,H,W,c,hi,M3,x1,l1,l2=>by
  have OG:=c.hn;refine aJ ?_;unfold fK;have e1:aeJ ((0:Int)<((0:Nat):Int))=aeI:=by simp
  rw [gN];simp only [e1,pp,ut,l1,l2,beq_self_eq_true,lw]
 |i+1,H,W,c,hi,M3,x1,l1,l2=>by
  have hb:=c.hb;have OG:=c.hn;have e1:aeJ ((0:Int)<((i+1:Nat):Int))=aeH:=decide_eq_true (by omega);have hp:i / 2<n:=by omega
  have dC:i / 2≠i+1:=by omega
  obtain ⟨vG,a1,a2⟩:=c.ev (i / 2) hp;have cell: ∀w,(H.set (i+1) x)[w]! =if w=i+1 then x else H[w]!:=by
   intro w;rw [bc]
   by_cases e:w=i+1
   · rw [rc ⟨e,by omega⟩,rc e]
   rw [sp (fun k=>e k.1),sp e]
  have g0:aC ((H.set (i+1) x)) ((i+1:Nat):Int)=aeE x:=by rw [au _ _ (by rw [ut];omega),cell,rc rfl]
  have g1:aC ((H.set (i+1) x)) ((i / 2:Nat):Int)=aeE H[i / 2]!:=by rw [au _ _ (by rw [ut];omega),cell,sp dC]
  by_cases h:less x H[i / 2]!
  · have sw:=RI (u:=u) (us:=us) (fr:=fr) (x:=x) hi hp dC M3.symm x0 x1 a1 a2
    have r:fK c0 (((i+1:Nat):Int),H.set (i+1) x,W.set x.n ((i+1:Nat):Int),u,us,fr)=aeE (.next (((i / 2:Nat):Int),(H.set (i+1) H[i / 2]!).set (i / 2) x,(W.set (H[i / 2]!).n ((i+1:Nat):Int)).set x.n ((i / 2:Nat):Int),u,us,fr)):=by unfold fK;simp only [e1,lw,pM (show i<1000000000 by omega),g0,g1,ar,lD hx vG,h,decide_true,sw]
    rw [aX r,RJ hx x0 (i / 2) _ _ (c.move hi hp _ _) hp (by rw [ut];exact M3) (by rw [ut];exact x1) (by rw [ut];exact l1) (by rw [ut];exact l2)];have e:gN x (i+1) H W=gN x (i / 2) (H.set (i+1) H[i / 2]!) (W.set (H[i / 2]!).n ((i+1:Nat):Int)):=by rw [gN,rc h]
    rw [e]
  refine aJ ?_
  unfold fK;have e:gN x (i+1) H W=(i+1,H,W):=by rw [gN,sp h]
  rw [e];simp only [e1,lw,pM (show i<1000000000 by omega),g0,g1,ar,lD hx vG,h,decide_false,pp,ut,l1,l2,beq_self_eq_true]
termination_by i=>i
decreasing_by omega
theorem aG {p:Prop} [Decidable p] (h: ¬p):decide p=aeI:=decide_eq_false h
theorem aK {p:Prop} [Decidable p] (h:p):decide p=aeH:=decide_eq_true h
theorem Jy (aq:List Int) (bi:List Bool) (fr:List Int) (fl:List Bool) (h1:(aeD aq)<=200) (h2:(aeD bi)=aeD aq) (h3:(aeD fl)=aeD aq):
 ((∀i,i<aeD aq->0<=aq[i]!/\aq[i]!<=1000000/\bi[i]!≠fl[i]!/\(bi[i]! =aeH->1<=aq[i]!))->aD iW (((aeD aq):Int),0,aq,bi,fr,fl)=aeE (.done 0))/\
 (¬(∀i,i<aeD aq->0<=aq[i]!/\aq[i]!<=1000000/\bi[i]!≠fl[i]!/\(bi[i]! =aeH->1<=aq[i]!))->aD iW (((aeD aq):Int),0,aq,bi,fr,fl)=aeE (.done 8)):=by
 have key:=cJ (body:=iW) (fun i=>(((aeD aq):Int),(i:Int),aq,bi,fr,fl)) (aeD aq) (fun i=> ¬(0<=aq[i]!/\aq[i]!<=1000000/\bi[i]!≠fl[i]!/\(bi[i]! =aeH->1<=aq[i]!))) (r:= .done 8) (e:= .done 0) (fun i hi=>by
  have e1:aeJ ((i:Int)<((aeD aq):Int))=aeH:=aK (by omega);unfold iW;simp only [e1,lw,au aq i hi,au bi i (by omega),au fl i (by omega),ar,bk (show i<1000000000 by omega)];generalize aq[i]! =u;generalize bi[i]! =a;generalize fl[i]! =b
  by_cases a1:u<0
  · simp only [a1,decide_true,lw];exact ⟨fun _=>trivial,fun h=>absurd (ww.1 h).1 (by omega)⟩
  · by_cases a2:1000000<u
    · simp only [a1,a2,decide_true,decide_false,lw,pp];exact ⟨fun _=>trivial,fun h=>absurd (ww.1 h).2.1 (by omega)⟩
    simp only [a1,a2,decide_false,pp]
    by_cases a3:u<1
    · cases a<;>cases b<;>simp [a3]<;>omega
    cases a<;>cases b<;>simp [a3]<;>omega) (by
  unfold iW;have:aeJ (((aeD aq):Int)<((aeD aq):Int))=aeI:=aG (by omega);simp only [this,pp])
 constructor
 · intro h
   exact key.2 fun i hi=>ww.2 (h i hi)
 intro h
 obtain ⟨i,h⟩:=IR.1 h;obtain ⟨hi,hx⟩:=ad7.1 h;exact key.1 ⟨i,hi,hx⟩
theorem RK {α:Type} {n:Nat} (z:α) (h:n<=1048576):zQ (n:Int) z=aeE (AC n z):=by unfold zQ;rw [rc ⟨by omega,by omega⟩];simp
theorem ED (s:aU) (hf:(aeD s.bv)<=1000000):rX s=aeE (if dY s then 0 else 8):=by
 obtain ⟨aq,bi,fr⟩:=s;dsimp only at hf;unfold rX;simp only [aB]
 by_cases a1:(aeD aq)<1
 · have e:aeJ (((aeD aq):Int)<1)=aeH:=aK (by omega)
   rw [e,sp (fun h=>by have:=h.n1;dsimp only at this;omega)];rfl
 have e1:aeJ (((aeD aq):Int)<1)=aeI:=aG (by omega)
 by_cases a2:200<aeD aq
 · have e:aeJ (200<((aeD aq):Int))=aeH:=aK (by omega)
   rw [e1,e,sp (fun h=>by have:=h.n2;dsimp only at this;omega)];rfl
 have e2:aeJ (200<((aeD aq):Int))=aeI:=aG (by omega)
 by_cases a3:(aeD bi)=aeD aq
 case neg=>have e:(((aeD bi):Int) !=((aeD aq):Int))=aeH:=dS (by omega);rw [e1,e2,e,sp (fun h=>a3 h.ul)];rfl
 have e3:(((aeD bi):Int) !=((aeD aq):Int))=aeI:=cK (by omega)
 by_cases a4:(aeD aq)<aeD fr
 · have e:aeJ (((aeD aq):Int)<((aeD fr):Int))=aeH:=aK (by omega)
   rw [e1,e2,e3,e,sp (fun h=>by have:=h.fl;dsimp only at this;omega)];rfl
 have e4:aeJ (((aeD aq):Int)<((aeD fr):Int))=aeI:=aG (by omega);simp only [e1,e2,e3,e4,pp,beq_self_eq_true,lw,RK aeI (show (aeD aq)<=1048576 by omega),ar];have ml: ∀k,(marks (AC (aeD aq) aeI) (fr.take k)).length=(aeD aq):=fun k=>by rw [kQ,UV]
 have ml':(marks (AC (aeD aq) aeI) fr).length=(aeD aq):=by rw [kQ,UV]
 have rep: ∀i:Nat,(AC (aeD aq) aeI)[i]! =aeI:=by
  intro i
  by_cases h:i<aeD aq
  · rw [getElem!_pos _ i (by simpa using h),List.getElem_replicate]
  rw [getElem!_neg _ i (by simpa using h)];rfl
 have tB:=Jy aq bi fr (marks (AC (aeD aq) aeI) fr) (by omega) a3 ml';have key:=cJ (body:=nb) (fun k=>(((aeD aq):Int),(k:Int),aq,bi,fr,marks (AC (aeD aq) aeI) (fr.take k))) (aeD fr)
  (fun k=>fr[k]!<0\/((aeD aq):Int)<=fr[k]!\/(marks (AC (aeD aq) aeI) (fr.take k))[(fr[k]!).toNat]! =aeH) (r:=8)
  (e:=if (∀i,i<aeD aq->0<=aq[i]!/\aq[i]!<=1000000/\bi[i]!≠(marks (AC (aeD aq) aeI) fr)[i]!/\(bi[i]! =aeH->1<=aq[i]!)) then 0 else 8) (fun k hk=>by
   have f1:aeJ ((k:Int)<((aeD fr):Int))=aeH:=aK (by omega);have f5:marks (AC (aeD aq) aeI) (fr.take (k+1))=bP (marks (AC (aeD aq) aeI) (fr.take k)) fr[k]! aeH:=by rw [ja hk,zg]
   unfold nb;simp only [aB,f1,lw,au fr k hk,ar,bk (show k<1000000000 by omega),f5];clear f5;generalize fr[k]! =x
   by_cases b1:x<0
   · simp [b1]
   · by_cases b2:((aeD aq):Int)<=x
     · simp [b1,b2]
     simp only [b1,b2,decide_false,pp,false_or]
     rw [cZ (l:=marks (AC (aeD aq) aeI) (fr.take k)) (i:=x) (by omega) (by rw [ml];omega)];simp only [ar];cases (marks (AC (aeD aq) aeI) (fr.take k))[x.toNat]!<;>simp) (by
   have f1:aeJ (((aeD fr):Int)<((aeD fr):Int))=aeI:=aG (by omega);unfold nb;simp only [aB,f1,pp,ael]
   by_cases hx:(∀i,i<aeD aq->0<=aq[i]!/\aq[i]!<=1000000/\bi[i]!≠(marks (AC (aeD aq) aeI) fr)[i]!/\(bi[i]! =aeH->1<=aq[i]!))
   · rw [rc hx];exact tB.1 hx
   rw [sp hx];exact tB.2 hx)
 have h0:marks (AC (aeD aq) aeI) (fr.take 0)=AC (aeD aq) aeI:=rfl;rw [show ((0:Nat):Int)=0 from rfl,h0] at key
 by_cases bad: ∃k,k<aeD fr/\(fr[k]!<0\/((aeD aq):Int)<=fr[k]!\/(marks (AC (aeD aq) aeI) (fr.take k))[(fr[k]!).toNat]! =aeH)
 · rw [key.1 bad,sp]
   intro ok;obtain ⟨k,hk,hb⟩:=bad;have hr:=ok.fr fr[k]! (aR hk);dsimp only at hr;rcases hb with hb|hb|hb
   · omega
   · omega
   rw [mn _ _ _ (fun x hx=>(ok.fr x (ad2 hx)).1) (by rw [UV];omega),rep,aed] at hb
   have hi:((fr[k]!).toNat:Int)=fr[k]!:=by omega
   rw [hi] at hb;have hm:fr[k]!∈fr.take k:=of_decide_eq_true hb;obtain ⟨j,h1,h2,h3⟩:=cI.1 hm;exact bN.1 ok.fd j k h1 hk h3
 have LF: ∀k,k<aeD fr->0<=fr[k]!/\fr[k]!<aeD aq/\(marks (AC (aeD aq) aeI) (fr.take k))[(fr[k]!).toNat]! =aeI:=by
  intro k hk;refine ⟨?_,?_,?_⟩
  · exact Int.not_lt.1 fun h=>bad ⟨k,hk,.inl h⟩
  · exact Int.not_le.1 fun h=>bad ⟨k,hk,.inr (.inl h)⟩
  exact adY _▸fun h=>bad ⟨k,hk,.inr (.inr h)⟩
 rw [key.2 fun k hk hb=>bad ⟨k,hk,hb⟩];have X7: ∀x∈fr,0<=x/\x<((aeD aq):Int):=by intro x hx;obtain ⟨k,hk,rfl⟩:=aN.1 hx;exact ⟨(LF k hk).1,(LF k hk).2.1⟩
 have g2: ∀k,k<aeD fr->fr[k]!∉fr.take k:=by intro k hk;obtain ⟨c1,c2,c3⟩:=LF k hk;rw [mn _ _ _ (fun x hx=>(X7 x (ad2 hx)).1) (by rw [UV];omega),show ((fr[k]!).toNat:Int)=fr[k]! by omega,rep,aed] at c3;exact of_decide_eq_false c3
 have nd:fr.Nodup:=bN.2 fun i j kH hj he=>g2 j hj (cI.2 ⟨i,kH,by omega,he⟩)
 have fl: ∀i,i<aeD aq->(marks (AC (aeD aq) aeI) fr)[i]! =aeJ ((i:Int)∈fr):=by intro i hi;rw [mn _ _ _ (fun x hx=>(X7 x hx).1) (by rw [UV];omega),rep,aed]
 by_cases hx:(∀i,i<aeD aq->0<=aq[i]!/\aq[i]!<=1000000/\bi[i]!≠(marks (AC (aeD aq) aeI) fr)[i]!/\(bi[i]! =aeH->1<=aq[i]!))
 · rw [rc hx,rc]
   refine ⟨by show 1<=aeD aq;omega,by show (aeD aq)<=200;omega,a3,X7,nd,fun i hi=>?_,fun i hi=>?_⟩
   · have:=(hx i hi).2.2.1
     rw [fl i hi] at this;dsimp only;cases h:bi[i]! with
     |true=>rw [h] at this;refine ⟨fun _ hm=>?_,fun _=>rfl⟩;rw [aK hm] at this;exact this rfl
     |false=>rw [h] at this;refine ⟨fun h=>(by cases h),fun hm=>?_⟩;rw [aG hm] at this;exact absurd rfl this
   have:=hx i hi
   exact ⟨this.1,this.2.1,this.2.2.2⟩
 rw [sp hx,sp]
 intro ok;refine hx fun i hi=>?_
 obtain ⟨u1,u2,u3⟩:=ok.us i hi;refine ⟨u1,u2,?_,u3⟩;rw [fl i hi];have:=ok.uf i hi;dsimp only at this;intro he
 by_cases hm:(i:Int)∈fr
 · rw [aK hm] at he;exact (this.1 he) hm
 rw [aG hm] at he
 have:=this.2 hm;rw [he] at this;cases this
structure wT (a:aH):Prop where
 fr:(aeD a.ai.bv)<=1000000
 hp:(aeD a.ce)<=1000000
 wh:(aeD a.ao)<=1000000
 Jz: ∀w,w<aeD a.ce->jP ((a.ce[w]!).1,(a.ce[w]!).2.1)
structure dT (a:aH):Prop where
 so:dY a.ai
 wl:(aeD a.ao)=aeD a.ai.aq
 hl:(aeD a.ce)+aeD a.ai.bv=aeD a.ai.aq
 fwd: ∀i,i<aeD a.ai.aq->a.ai.bi[i]! =aeH->0<=a.ao[i]!/\a.ao[i]!<aeD a.ce/\(Ev.ix a.ce[(a.ao[i]!).toNat]!)=i/\(a.ce[(a.ao[i]!).toNat]!).2.2.2.2=a.ai.aq[i]!
 un: ∀i,i<aeD a.ai.aq->a.ai.bi[i]! =aeI->a.ao[i]! = -1
 ev: ∀w,w<aeD a.ce->om a.ce[w]!
 nd: ∀v w,v<w->w<aeD a.ce->(Ev.num a.ce[v]!)≠(Ev.num a.ce[w]!)
 ord: ∀k,0<k->k<aeD a.ce-> ¬less a.ce[k]! a.ce[(k-1) / 2]!
theorem cover: ∀(n:Nat) (l:List Nat),(∀x,x<n->x∈l)->n<=aeD l
 |0,_,_=>Nat.zero_le _
 |n+1,l,h=>by have hn:=h n (by omega);have:=cover n (l.erase n) (fun x hx=>by rw [List.mem_erase_of_ne (by omega)];exact h x (by omega));rw [List.length_erase_of_mem hn] at this;have:=List.length_pos_of_mem hn;omega
def Gd (s:aU):List Nat:=(List.range (aeD s.aq)).filter fun i=>s.bi[i]!
theorem xH {s:aU} {i:Nat}:i∈Gd s↔i<aeD s.aq/\s.bi[i]! =aeH:=by unfold Gd;rw [aes,List.mem_range]
theorem xI {α β:Type} {f:α->β}: ∀{l:List α},l.Nodup->(∀x∈l,∀y∈l,f x=f y->x=y)->(l.map f).Nodup
 | [],_,_=>by simp
 |a::l,h,hf=>by rw [ad9] at h;rw [List.map_cons,ad9];refine ⟨?_,xI h.2 fun x hx y hy=>hf x (by simp [hx]) y (by simp [hy])⟩;intro hm;obtain ⟨b,hb,e⟩:=ad1.1 hm;have:=hf b (by simp [hb]) a (by simp) e;subst this;exact h.1 hb
theorem dT.back {a:aH} (ok:dT a) {w:Nat} (hw:w<aeD a.ce):0<=(Ev.ix a.ce[w]!)/\(Ev.ix a.ce[w]!)<aeD a.ai.aq/\a.ai.bi[(Ev.n a.ce[w]!)]! =aeH/\a.ai.aq[(Ev.n a.ce[w]!)]! =(a.ce[w]!).2.2.2.2/\a.ao[(Ev.n a.ce[w]!)]! =(w:Int):=by
 have so:=ok.so;have len:(aeD a.ai.aq)<=(Gd a.ai).length+(aeD a.ai.bv):=by
  have:=cover (aeD a.ai.aq) (Gd a.ai++a.ai.bv.map aeB) (fun x hx=>by
   rw [adZ]
   by_cases hu:a.ai.bi[x]! =aeH
   · exact .inl (xH.2 ⟨hx,hu⟩)
   right
   have:=so.uf x hx;have hm:(x:Int)∈a.ai.bv:=NE fun hc=>hu (this.2 hc)
   exact ad1.2 ⟨_,hm,by omega⟩)
  rw [List.length_append,adc] at this;exact this
 have f0: ∀i∈Gd a.ai,0<=a.ao[i]!/\a.ao[i]!<aeD a.ce/\(Ev.ix a.ce[(a.ao[i]!).toNat]!)=i/\(a.ce[(a.ao[i]!).toNat]!).2.2.2.2=a.ai.aq[i]!:=fun i hi=>ok.fwd i (xH.1 hi).1 (xH.1 hi).2
 have full:=Ca (n:=aeD a.ce) (l:=(Gd a.ai).map fun i=>(a.ao[i]!).toNat) (by
  refine xI ?_ ?_
  · exact List.Pairwise.filter _ List.nodup_range
  · intro x hx y hy he
    have h1:=(f0 x hx).2.2.1;have h2:=(f0 y hy).2.2.1;rw [he] at h1;omega) (by
  intro x hx;obtain ⟨i,hi,rfl⟩:=ad1.1 hx;have:=f0 i hi;omega) (by
  rw [adc];have:=ok.hl;omega) w hw
 obtain ⟨i,hi,e⟩:=ad1.1 full;obtain ⟨c1,c2,c3,c4⟩:=f0 i hi;obtain ⟨d1,d2⟩:=xH.1 hi;rw [e] at c3 c4;have hn:(Ev.n a.ce[w]!)=i:=by show ((Ev.ix a.ce[w]!)).toNat=i;omega
 rw [hn];refine ⟨by omega,by omega,d2,c4.symm,by omega⟩
noncomputable def LK (x y:Ev):Int:=if aZ (x.1,x.2.1)/\aZ (y.1,y.2.1) then Ey x y else gU x.2.2.1 y.2.2.1
theorem zi {x y:Ev} (hx:jP (x.1,x.2.1)) (hy:jP (y.1,y.2.1)):bQ x y=aeE (LK x y):=by
 unfold bQ LK Ey;rw [By hx hy]
 by_cases h:aZ (x.1,x.2.1)/\aZ (y.1,y.2.1)
 · rw [rc h,rc h]
   simp only [ar,gM,xF]
 rw [sp h,sp h]
 simp only [ar,gM,xF];simp
def EE (a:aH) (i:Nat):Prop:=(a.ai.bi[i]! =aeH->0<=a.ao[i]!/\a.ao[i]!<aeD a.ce/\(Ev.ix a.ce[(a.ao[i]!).toNat]!)=i/\(a.ce[(a.ao[i]!).toNat]!).2.2.2.2=a.ai.aq[i]!)/\(a.ai.bi[i]! =aeI->a.ao[i]! = -1)
def Fp (H:List Ev) (k:Nat):Prop:=aZ ((H[k]!).1,(H[k]!).2.1)/\0<=(H[k]!).2.2.1/\(H[k]!).2.2.1<=1000000/\(∀j,j<k->(H[j]!).2.2.1≠(H[k]!).2.2.1)/\(0<k-> ¬LK H[k]! H[(k-1) / 2]!<0)
theorem dT.of {a:aH} (fit:wT a) (so:dY a.ai) (wl:(aeD a.ao)=aeD a.ai.aq) (hl:(aeD a.ce)+aeD a.ai.bv=aeD a.ai.aq) (wh: ∀i,i<aeD a.ai.aq->EE a i) (hp: ∀k,k<aeD a.ce->Fp a.ce k):dT a:=by
 have ev: ∀w,w<aeD a.ce->om a.ce[w]!:=fun w hw=>⟨(hp w hw).1,fit.Jz w hw,(hp w hw).2.1,(hp w hw).2.2.1⟩
 refine ⟨so,wl,hl,fun i hi=>(wh i hi).1,fun i hi=>(wh i hi).2,ev,fun v w hv hw=>(hp w hw).2.2.2.1 v hv,fun k k0 hk=>?_⟩;have:=(hp k hk).2.2.2.2 k0;unfold LK at this;rw [rc ⟨(hp k hk).1,(hp ((k-1) / 2) (by omega)).1⟩,Av] at this;exact this
theorem dT.to {a:aH} (ok:dT a):(∀i,i<aeD a.ai.aq->EE a i)/\(∀k,k<aeD a.ce->Fp a.ce k):=by refine ⟨fun i hi=>⟨ok.fwd i hi,ok.un i hi⟩,fun k hk=>?_⟩;have e:=ok.ev k hk;refine ⟨e.1,e.2.2.1,e.2.2.2,fun j hj=>ok.nd j k hj hk,fun k0=>?_⟩;unfold LK;rw [rc ⟨e.1,(ok.ev ((k-1) / 2) (by omega)).1⟩,Av];exact ok.ord k k0 hk
theorem Ge (H:List Ev) (k:Nat) (n:Int):mL [n] ((H.take k).map fun x=>[x.2.2.1])=aeH:=by unfold mL;rw [List.all_eq_true];intro x hx;obtain ⟨y,hy,rfl⟩:=ad1.1 hx;rfl
theorem Gf (H:List Ev) (k:Nat) (n:Int):Ct ((H.take k).map fun x=>[x.2.2.1]) [n]=aeJ (∃j,j<k/\j<aeD H/\(H[j]!).2.2.1=n):=by
 unfold Ct;rw [Bool.eq_iff_iff,List.any_eq_true,decide_eq_true_iff];constructor
 · rintro ⟨x,hx,he⟩
   obtain ⟨y,hy,rfl⟩:=ad1.1 hx;obtain ⟨j,h1,h2,rfl⟩:=cI.1 hy;have:[n]=[(H[j]!).2.2.1]:=by simpa using he
   exact ⟨j,h1,h2,by injection this with h;exact h.symm⟩
 rintro ⟨j,h1,h2,h3⟩
 refine ⟨[(H[j]!).2.2.1],ad1.2 ⟨H[j]!,cI.2 ⟨j,h1,h2,rfl⟩,rfl⟩,?_⟩;rw [h3];simp
theorem Hr (H:List Ev) (u fr W:List Int) (us:List Bool) (hl:(aeD H)<=1000000) (pN: ∀w,w<aeD H->jP ((H[w]!).1,(H[w]!).2.1)):
 ((∀k,k<aeD H->Fp H k)->aD gY (H,((aeD H):Int),0,u,us,fr,H,W,[])=aeE (.done 0))/\(¬(∀k,k<aeD H->Fp H k)->aD gY (H,((aeD H):Int),0,u,us,fr,H,W,[])=aeE (.done 8)):=by
 have key:=cJ (body:=gY) (fun k=>(H,((aeD H):Int),(k:Int),u,us,fr,H,W,(H.take k).map fun x=>[x.2.2.1])) (aeD H) (fun k=> ¬Fp H k) (r:= .done 8) (e:= .done 0) (fun k hk=>by
  have e1:aeJ ((k:Int)<((aeD H):Int))=aeH:=aK (by omega);have ins: ∀n:Int,¬(∃j,j<k/\j<aeD H/\(H[j]!).2.2.1=n)->II ((H.take k).map fun x=>[x.2.2.1]) [n]=aeE (((H.take k).map fun x=>[x.2.2.1])++[[n]]):=by intro n hn;unfold II KR;rw [Ge,Gf,aG hn];rfl
  have has: ∀n:Int,IH ((H.take k).map fun x=>[x.2.2.1]) [n]=aeE (aeJ (∃j,j<k/\j<aeD H/\(H[j]!).2.2.1=n)):=by intro n;unfold IH;rw [Ge,Gf];rfl
  have nx:(H.take (k+1)).map (fun x=>[x.2.2.1])=((H.take k).map fun x=>[x.2.2.1])++[[(H[k]!).2.2.1]]:=by rw [ja hk,List.map_append];rfl
  unfold gY;simp only [e1,lw,au H k hk,ar,df (pN k hk),bk (show k<1000000000 by omega),has,nx];unfold Fp
  by_cases b1:aZ ((H[k]!).1,(H[k]!).2.1)
  case neg=>rw [sp b1];exact ⟨fun _=>rfl,fun h=>absurd (ww.1 h).1 b1⟩
  rw [rc b1]
  by_cases b2:(H[k]!).2.2.1<0
  · rw [aK b2]
    exact ⟨fun _=>rfl,fun h=>absurd (ww.1 h).2.1 (by omega)⟩
  by_cases b3:1000000<(H[k]!).2.2.1
  · rw [aG b2,aK b3]
    exact ⟨fun _=>rfl,fun h=>absurd (ww.1 h).2.2.1 (by omega)⟩
  rw [aG b2,aG b3]
  by_cases b4: ∃j,j<k/\j<aeD H/\(H[j]!).2.2.1=(H[k]!).2.2.1
  · rw [aK b4]
    refine ⟨fun _=>rfl,fun h=>?_⟩;obtain ⟨j,j1,j2,j3⟩:=b4;exact absurd j3 ((ww.1 h).2.2.2.1 j j1)
  rw [aG b4,ins _ b4];have b4': ∀j,j<k->(H[j]!).2.2.1≠(H[k]!).2.2.1:=fun j hj he=>b4 ⟨j,hj,by omega,he⟩
  simp only [show ((0:Int) !=0)=aeI from rfl,pp,ar]
  by_cases b5:0<k
  · obtain ⟨m,rfl⟩: ∃m,k=m+1:=⟨k-1,by omega⟩
    have f1:aeJ ((0:Int)<((m+1:Nat):Int))=aeH:=aK (by omega);simp only [f1,lw,pM (show m<1000000000 by omega),au H (m / 2) (by omega),ar,zi (pN (m+1) hk) (pN (m / 2) (by omega)),show (m+1-1) / 2=m / 2 by omega]
    by_cases b6:LK H[m+1]! H[m / 2]!<0
    · rw [aK b6]
      exact ⟨fun _=>rfl,fun h=>absurd b6 ((ww.1 h).2.2.2.2 (by omega))⟩
    rw [aG b6]
    exact ⟨fun h=>absurd ⟨b1,by omega,by omega,b4',fun _=>b6⟩ h,fun _=>rfl⟩
  · have f1:aeJ ((0:Int)<(k:Int))=aeI:=aG (by omega)
    rw [f1];exact ⟨fun h=>absurd ⟨b1,by omega,by omega,b4',fun h=>absurd h b5⟩ h,fun _=>rfl⟩) (by
  unfold gY;have:aeJ (((aeD H):Int)<((aeD H):Int))=aeI:=aG (by omega);simp only [this,pp])
 constructor
 · intro h
   exact key.2 fun i hi=>ww.2 (h i hi)
 intro h
 obtain ⟨i,h⟩:=IR.1 h;obtain ⟨hi,hx⟩:=ad7.1 h;exact key.1 ⟨i,hi,hx⟩
end Go.Proofs.YtmikolhhnhndkaaGreat
