/- Plain laws (1). -/
import Derived.Test.YthljmpcakagceaaGreatHVm3
import Derived.Test.YthljmpcakagceaaGreatHVm1
import Derived.Test.YthljmpcakagceaaGreatHQTB
open List renaming length_set->v6,replicate->Do,length_replicate->aa2,set_set->aa9,mem_map->aaj,mem_of_mem_take->aak,length_take->aal,nodup_cons->aat,length_map->aau,mem_singleton->aaF,getElem?_eq_getElem->ab0,mem_append->aba,set_comm->abp,length_cons->abz,take_length->abE,mem_filter->abW,mem_cons->acm,length->agb
open Classical renaming not_not->ww,not_forall->M2,byContradiction->PP,not_imp->aar
open Int renaming ofNat->AC,mul_le_mul_of_nonneg_right->UV,tdiv->aa6,mul_neg_of_neg_of_pos->aam,eq_ofNat_of_zero_le->aap,neg_mul->aas,mul_comm->aav,mul_lt_mul_of_pos_right->aaw,fdiv_eq_ediv_of_nonneg->aay,mul_le_mul->aaA,tdiv_eq_ediv_of_nonneg->aaE,lt_of_mul_lt_mul_right->aaS,lt_trichotomy->aaV,mul_nonneg->abg,natCast_mul->abQ,ofNat_tmod->abY,ofNat_tdiv->acj,mul_assoc->acl,toNat->acr
open Option.some renaming injEq->EQ
open Nat renaming gcd->If,gcd_comm->aaq,gcd_dvd_right->aaX,gcd_pos_of_pos_right->ab1,le_refl->abe,mul_div_cancel'->abo,gcd_zero_right->abr,gcd_dvd_left->abx,strongRecOn->abI,div_le_self->abK,le_trans->adc
open Bool renaming not_false->IR,not_true->NE,not_eq_true->ab5,or_eq_false_iff->abj,false_or->abq,false_eq_true->abt,true->age,false->agm
open Prod.mk renaming injEq->aai
open Option renaming some->agc,none->agd
open Decidable renaming decide->agq
namespace Go.Vm
instance lpN:LP:=⟨agd⟩
section
variable {σ ρ : Type}
theorem x8 {body:σ->Option (Step σ ρ)} {x:σ} {r:ρ}:aB body x=agc r↔ ∃n,nK body n x=agc r:=CV
theorem aQ {body:σ->Option (Step σ ρ)} {x y:σ} (h:body x=agc (.next y)):aB body x=aB body y:=by
 apply Option.ext;intro r;rw [x8,x8];constructor
 · rintro ⟨n,hn⟩
   cases n with
   |zero=>cases hn
   |succ n=>simp only [nK,h] at hn;exact ⟨n,hn⟩
 rintro ⟨n,hn⟩
 exact ⟨n+1,by simp only [nK,h];exact hn⟩
theorem aC {body:σ->Option (Step σ ρ)} {x:σ} {r:ρ} (h:body x=agc (.done r)):aB body x=agc r:=
 x8.2 ⟨1,by simp only [nK,h]⟩
end
end Go.Vm
namespace Go.Proofs.YthljmpcakagceaaGreat
open Go.Vm
noncomputable def v7 (p0:Field):Option Field:=
 (bP p0.am).bind fun l0=>
 agc (Field.mk l0)
noncomputable def v8 (p0:bc):Option bc:=
 (bP p0.ce).bind fun l0=>
 agc (bc.mk p0.aL l0)
noncomputable def rZ (p0:aU):Option aU:=
 (bP p0.ar).bind fun l0=>
 (bP p0.be).bind fun l1=>
 (bP p0.bi).bind fun l2=>
 agc (aU.mk l0 l1 l2)
noncomputable def oU (p0:aJ):Option aJ:=
 (rZ p0.ae).bind fun r0=>
 (bP p0.bv).bind fun l1=>
 (bP p0.aj).bind fun l2=>
 agc (aJ.mk r0 l1 l2)
noncomputable def oV (p0:aI):Option aI:=
 (v7 p0.ii).bind fun r0=>
 (v8 p0.af).bind fun r1=>
 (oU p0.aa).bind fun r2=>
 (bP p0.io).bind fun l3=>
 agc (aI.mk p0.ci r0 r1 r2 l3)
noncomputable def jG (s:(Int×Int×Int×(List (Int×Int×Int))×Int×Int×(List (Int×Int×Int)))):Option (Step (Int×Int×Int×(List (Int×Int×Int))×Int×Int×(List (Int×Int×Int))) bc):=
 bif agq (s.2.1<(AC (agb s.2.2.2.1))) then
  (aG s.2.2.2.1 s.2.1).bind fun a0=>
  bif a0.1 !=s.1 then
   (aG s.2.2.2.1 s.2.1).bind fun a1=>
   (bm s.2.2.2.2.2.2 [a1]).bind fun l2=>
   agc (.next (s.1,ai .i64 (s.2.1+1),s.2.2.1,s.2.2.2.1,s.2.2.2.2.1,s.2.2.2.2.2.1,l2))
  else
   agc (.next (s.1,ai .i64 (s.2.1+1),s.2.2))
 else
  agc (.done (bc.mk s.2.2.2.2.2.1 s.2.2.2.2.2.2))
noncomputable def tP (p0:bc) (p1:Int):Option bc:=
 aB jG (p1,0,p0.aL,p0.ce,0,p0.aL,[])
noncomputable def og (s:(Int×Int×Int×Int×(List (Int×Int×Int))×Int×(List (Int×Int×Int))×(List Int)×(List Bool)×(List Int)×(List (Int×Int×Int×Int×Int))×(List Int)×(List (Int×Int×Int)))):Option (Step (Int×Int×Int×Int×(List (Int×Int×Int))×Int×(List (Int×Int×Int))×(List Int)×(List Bool)×(List Int)×(List (Int×Int×Int×Int×Int))×(List Int)×(List (Int×Int×Int))) Int):=
 bif agq (s.2.1<(AC (agb s.2.2.2.2.2.2.2.2.2.2.2.2))) then
  (aG s.2.2.2.2.2.2.2.2.2.2.2.2 s.2.1).bind fun a0=>
  bif a0.1==s.1 then
   agc (.done s.2.1)
  else
   agc (.next (s.1,ai .i64 (s.2.1+1),s.2.2))
 else
  agc (.done (-1))
noncomputable def qg (p0:aI) (p1:Int):Option Int:=
 aB og (p1,0,p0.ci.1,p0.ci.2,p0.ii.am,p0.af.aL,p0.af.ce,p0.aa.ae.ar,p0.aa.ae.be,p0.aa.ae.bi,p0.aa.bv,p0.aa.aj,p0.io)
noncomputable def qh (p0:aU) (p1:Int×Int):Option aU:=
 (rZ p0).bind fun r0=>
 (aG r0.be p1.1).bind fun b1=>
 (bm r0.bi [p1.1]).bind fun l2=>
 agc (aU.mk r0.ar (bO r0.be p1.1 agm) l2)
noncomputable def fN (a:(Int×Int×(List Int)×(List Bool)×(List Int)×(List (Int×Int×Int×Int×Int))×(List Int))):Option ((List Int)×(List Bool)×(List Int)×(List (Int×Int×Int×Int×Int))×(List Int)):=
 (aG a.2.2.2.2.2.1 a.2.1).bind fun a0=>
 (aG a.2.2.2.2.2.1 a.1).bind fun a1=>
 (aG a.2.2.2.2.2.1 a.1).bind fun a2=>
 (aG (bO a.2.2.2.2.2.1 a.1 a0) a.2.1).bind fun a3=>
 (aG (bO (bO a.2.2.2.2.2.1 a.1 a0) a.2.1 a1) a.1).bind fun a4=>
 (aG (bO (bO a.2.2.2.2.2.1 a.1 a0) a.2.1 a1) a.2.1).bind fun a5=>
 (aG a.2.2.2.2.2.2 a4.2.2.2.1).bind fun n6=>
 (aG (bO a.2.2.2.2.2.2 a4.2.2.2.1 a.1) a5.2.2.2.1).bind fun n7=>
 bif (agb a.2.2.1)==(agb a.2.2.1) then
  bif (agb a.2.2.2.1)==(agb a.2.2.2.1) then
   bif (agb a.2.2.2.2.1)==(agb a.2.2.2.2.1) then
    bif ((bO (bO a.2.2.2.2.2.1 a.1 a0) a.2.1 a1).length)==(agb a.2.2.2.2.2.1) then
     bif ((bO (bO a.2.2.2.2.2.2 a4.2.2.2.1 a.1) a5.2.2.2.1 a.2.1).length)==(agb a.2.2.2.2.2.2) then
      agc (a.2.2.1,a.2.2.2.1,a.2.2.2.2.1,bO (bO a.2.2.2.2.2.1 a.1 a0) a.2.1 a1,bO (bO a.2.2.2.2.2.2 a4.2.2.2.1 a.1) a5.2.2.2.1 a.2.1)
     else
      agd
    else
     agd
   else
    agd
  else
   agd
 else
  agd
noncomputable def gX (a:((List Int)×(List Bool)×(List Int)×Nat×Nat×Int×Int×(List (Int×Int×Int×Int×Int))×(List Int))):Option ((List (Int×Int×Int×Int×Int))×(List Int)):=
 (aG (a.2.2.2.2.2.2.2.1.take a.2.2.2.1) a.2.2.2.2.2.2.1).bind fun a0=>
 (aG (a.2.2.2.2.2.2.2.1.take a.2.2.2.1) a.2.2.2.2.2.1).bind fun a1=>
 (aG (a.2.2.2.2.2.2.2.1.take a.2.2.2.1) a.2.2.2.2.2.1).bind fun a2=>
 (aG ((bO a.2.2.2.2.2.2.2.1 a.2.2.2.2.2.1 a0).take a.2.2.2.1) a.2.2.2.2.2.2.1).bind fun a3=>
 (aG ((bO (bO a.2.2.2.2.2.2.2.1 a.2.2.2.2.2.1 a0) a.2.2.2.2.2.2.1 a1).take a.2.2.2.1) a.2.2.2.2.2.1).bind fun a4=>
 (aG ((bO (bO a.2.2.2.2.2.2.2.1 a.2.2.2.2.2.1 a0) a.2.2.2.2.2.2.1 a1).take a.2.2.2.1) a.2.2.2.2.2.2.1).bind fun a5=>
 (aG a.2.2.2.2.2.2.2.2 a4.2.2.2.1).bind fun n6=>
 (aG (bO a.2.2.2.2.2.2.2.2 a4.2.2.2.1 a.2.2.2.2.2.1) a5.2.2.2.1).bind fun n7=>
 bif ((bO (bO a.2.2.2.2.2.2.2.1 a.2.2.2.2.2.1 a0) a.2.2.2.2.2.2.1 a1).length)==(agb a.2.2.2.2.2.2.2.1) then
  bif ((bO (bO a.2.2.2.2.2.2.2.2 a4.2.2.2.1 a.2.2.2.2.2.1) a5.2.2.2.1 a.2.2.2.2.2.2.1).length)==(agb a.2.2.2.2.2.2.2.2) then
   agc (bO (bO a.2.2.2.2.2.2.2.1 a.2.2.2.2.2.1 a0) a.2.2.2.2.2.2.1 a1,bO (bO a.2.2.2.2.2.2.2.2 a4.2.2.2.1 a.2.2.2.2.2.1) a5.2.2.2.1 a.2.2.2.2.2.2.1)
  else
   agd
 else
  agd
noncomputable def gm (c0:((List Int)×(List Bool)×(List Int)×Nat×Nat×Int×(List (Int×Int×Int×Int×Int))×(List Int))) (s:(Int×(List (Int×Int×Int×Int×Int))×(List Int)×(List Int)×(List Bool)×(List Int)×Nat×Nat)):Option (Step (Int×(List (Int×Int×Int×Int×Int))×(List Int)×(List Int)×(List Bool)×(List Int)×Nat×Nat) (Int×(List (Int×Int×Int×Int×Int))×(List Int))):=
 bif agq (0<s.1) then
  (aG (s.2.1.take s.2.2.2.2.2.2.1) s.1).bind fun a0=>
  (aG (s.2.1.take s.2.2.2.2.2.2.1) (ai .i64 (aa6 (ai .i64 (s.1-1)) 2))).bind fun a1=>
  (dM a0 a1).bind fun b2=>
  bif b2 then
   (gX (s.2.2.2.1,s.2.2.2.2.1,s.2.2.2.2.2.1,s.2.2.2.2.2.2.1,s.2.2.2.2.2.2.2,s.1,ai .i64 (aa6 (ai .i64 (s.1-1)) 2),s.2.1,s.2.2.1)).bind fun a3=>
   agc (.next (ai .i64 (aa6 (ai .i64 (s.1-1)) 2),a3.1,a3.2,s.2.2.2))
  else
   bif (agb s.2.1)==(agb c0.2.2.2.2.2.2.1) then
    bif (agb s.2.2.1)==(agb c0.2.2.2.2.2.2.2) then
     agc (.done (s.1,s.2.1,s.2.2.1))
    else
     agd
   else
    agd
 else
  bif (agb s.2.1)==(agb c0.2.2.2.2.2.2.1) then
   bif (agb s.2.2.1)==(agb c0.2.2.2.2.2.2.2) then
    agc (.done (s.1,s.2.1,s.2.2.1))
   else
    agd
  else
   agd
noncomputable def oh (a:((List Int)×(List Bool)×(List Int)×Nat×Nat×Int×(List (Int×Int×Int×Int×Int))×(List Int))):Option (Int×(List (Int×Int×Int×Int×Int))×(List Int)):=
 aB (gm a) (a.2.2.2.2.2.1,a.2.2.2.2.2.2.1,a.2.2.2.2.2.2.2,a.1,a.2.1,a.2.2.1,a.2.2.2.1,a.2.2.2.2.1)
noncomputable def jo (c0:((List Int)×(List Bool)×(List Int)×Nat×Nat×Int×(List (Int×Int×Int×Int×Int))×(List Int))) (s:(Int×(List (Int×Int×Int×Int×Int))×(List Int)×(List Int)×(List Bool)×(List Int)×Nat×Nat)):Option (Step (Int×(List (Int×Int×Int×Int×Int))×(List Int)×(List Int)×(List Bool)×(List Int)×Nat×Nat) ((List (Int×Int×Int×Int×Int))×(List Int))):=
 match s with
 |(a,b,d,e,f,g,h,i)=>
  bif agq ((AC h)<=(ai .i64 ((ai .i64 (2*a))+1))) then
   bif (agb b)==(agb c0.2.2.2.2.2.2.1) then
    bif (agb d)==(agb c0.2.2.2.2.2.2.2) then
     agc (.done (b,d))
    else
     agd
   else
    agd
  else
   bif agq ((ai .i64 ((ai .i64 ((ai .i64 (2*a))+1))+1))<(AC h)) then
    (aG (b.take h) (ai .i64 ((ai .i64 ((ai .i64 (2*a))+1))+1))).bind fun a0=>
    (aG (b.take h) (ai .i64 ((ai .i64 (2*a))+1))).bind fun a1=>
    (dM a0 a1).bind fun b2=>
    bif b2 then
     (aG (b.take h) (ai .i64 ((ai .i64 ((ai .i64 (2*a))+1))+1))).bind fun a3=>
     (aG (b.take h) a).bind fun a4=>
     (dM a3 a4).bind fun b5=>
     bif !b5 then
      bif (agb b)==(agb c0.2.2.2.2.2.2.1) then
       bif (agb d)==(agb c0.2.2.2.2.2.2.2) then
        agc (.done (b,d))
       else
        agd
      else
       agd
     else
      (gX (e,f,g,h,i,a,ai .i64 ((ai .i64 ((ai .i64 (2*a))+1))+1),b,d)).bind fun a6=>
      agc (.next (ai .i64 ((ai .i64 ((ai .i64 (2*a))+1))+1),a6.1,a6.2,(e,f,g,h,i)))
    else
     (aG (b.take h) (ai .i64 ((ai .i64 (2*a))+1))).bind fun a7=>
     (aG (b.take h) a).bind fun a8=>
     (dM a7 a8).bind fun b9=>
     bif !b9 then
      bif (agb b)==(agb c0.2.2.2.2.2.2.1) then
       bif (agb d)==(agb c0.2.2.2.2.2.2.2) then
        agc (.done (b,d))
       else
        agd
      else
       agd
     else
      (gX (e,f,g,h,i,a,ai .i64 ((ai .i64 (2*a))+1),b,d)).bind fun xU=>
      agc (.next (ai .i64 ((ai .i64 (2*a))+1),xU.1,xU.2,(e,f,g,h,i)))
   else
    (aG (b.take h) (ai .i64 ((ai .i64 (2*a))+1))).bind fun BL=>
    (aG (b.take h) a).bind fun a12=>
    (dM BL a12).bind fun b13=>
    bif !b13 then
     bif (agb b)==(agb c0.2.2.2.2.2.2.1) then
      bif (agb d)==(agb c0.2.2.2.2.2.2.2) then
       agc (.done (b,d))
      else
       agd
     else
      agd
    else
     (gX (e,f,g,h,i,a,ai .i64 ((ai .i64 (2*a))+1),b,d)).bind fun Qt=>
     agc (.next (ai .i64 ((ai .i64 (2*a))+1),Qt.1,Qt.2,(e,f,g,h,i)))
noncomputable def lR (a:((List Int)×(List Bool)×(List Int)×Nat×Nat×Int×(List (Int×Int×Int×Int×Int))×(List Int))):Option ((List (Int×Int×Int×Int×Int))×(List Int)):=
 aB (jo a) (a.2.2.2.2.2.1,a.2.2.2.2.2.2.1,a.2.2.2.2.2.2.2,a.1,a.2.1,a.2.2.1,a.2.2.2.1,a.2.2.2.2.1)
noncomputable def kE (p0:aJ) (p1:Int×Int):Option aJ:=
 (oU p0).bind fun r0=>
 (aG r0.aj p1.1).bind fun n1=>
 bif n1 !=(ai .i64 ((AC (agb r0.bv)) -1)) then
  (fN (n1,ai .i64 ((AC (agb r0.bv)) -1),r0.ae.ar,r0.ae.be,r0.ae.bi,r0.bv,r0.aj)).bind fun a2=>
  (gO a2.2.2.2.1 0 (ai .i64 ((AC (agb r0.bv)) -1))).bind fun l3=>
  (aG a2.2.2.2.2 p1.1).bind fun n4=>
  (qh (aU.mk a2.1 a2.2.1 a2.2.2.1) p1).bind fun r5=>
  bif n1 !=(ai .i64 ((AC (agb r0.bv)) -1)) then
   (oh (r5.ar,r5.be,r5.bi,(ai .i64 ((AC (agb r0.bv)) -1)).toNat,agb a2.2.2.2.1,n1,a2.2.2.2.1,bO a2.2.2.2.2 p1.1 (-1))).bind fun a6=>
   (lR (r5.ar,r5.be,r5.bi,(ai .i64 ((AC (agb r0.bv)) -1)).toNat,agb a2.2.2.2.1,a6)).bind fun a7=>
   agc (aJ.mk r5 (a7.1.take ((ai .i64 ((AC (agb r0.bv)) -1)).toNat)) a7.2)
  else
   agc (aJ.mk r5 (a2.2.2.2.1.take ((ai .i64 ((AC (agb r0.bv)) -1)).toNat)) (bO a2.2.2.2.2 p1.1 (-1)))
 else
  (gO r0.bv 0 (ai .i64 ((AC (agb r0.bv)) -1))).bind fun l8=>
  (aG r0.aj p1.1).bind fun n9=>
  (qh r0.ae p1).bind fun r10=>
  bif n1 !=(ai .i64 ((AC (agb r0.bv)) -1)) then
   (oh (r10.ar,r10.be,r10.bi,(ai .i64 ((AC (agb r0.bv)) -1)).toNat,agb r0.bv,n1,r0.bv,bO r0.aj p1.1 (-1))).bind fun BL=>
   (lR (r10.ar,r10.be,r10.bi,(ai .i64 ((AC (agb r0.bv)) -1)).toNat,agb r0.bv,BL)).bind fun a12=>
   agc (aJ.mk r10 (a12.1.take ((ai .i64 ((AC (agb r0.bv)) -1)).toNat)) a12.2)
  else
   agc (aJ.mk r10 (r0.bv.take ((ai .i64 ((AC (agb r0.bv)) -1)).toNat)) (bO r0.aj p1.1 (-1)))
noncomputable def oW (p0:aI) (p1:Int):Option aI:=
 (oV p0).bind fun r0=>
 (tP p0.af p1).bind fun r1=>
 (qg p0 p1).bind fun n2=>
 bif agq (0<=n2) then
  (aG p0.io n2).bind fun a3=>
  (kE p0.aa a3.2).bind fun r4=>
  (gO p0.io 0 n2).bind fun l5=>
  (bP l5).bind fun l6=>
  (gO p0.io (ai .i64 (n2+1)) (AC (agb p0.io))).bind fun l7=>
  bif l7.isEmpty then
   agc (aI.mk r0.ci r0.ii r1 r4 l6)
  else
   (bm l6 l7).bind fun l8=>
   agc (aI.mk r0.ci r0.ii r1 r4 l8)
 else
  agc (aI.mk r0.ci r0.ii r1 r0.aa r0.io)
noncomputable def gq (c0:(Int×(List Int)×(List Bool)×(List Int)×(List (Int×Int×Int×Int×Int))×(List Int))) (s:(Int×(List Int)×(List Bool)×(List Int)×(List (Int×Int×Int×Int×Int))×(List Int))):Option (Step (Int×(List Int)×(List Bool)×(List Int)×(List (Int×Int×Int×Int×Int))×(List Int)) (Int×(List Int)×(List Bool)×(List Int)×(List (Int×Int×Int×Int×Int))×(List Int))):=
 bif agq (0<s.1) then
  (aG s.2.2.2.2.1 s.1).bind fun a0=>
  (aG s.2.2.2.2.1 (ai .i64 (aa6 (ai .i64 (s.1-1)) 2))).bind fun a1=>
  (dM a0 a1).bind fun b2=>
  bif b2 then
   (fN (s.1,ai .i64 (aa6 (ai .i64 (s.1-1)) 2),s.2)).bind fun a3=>
   agc (.next (ai .i64 (aa6 (ai .i64 (s.1-1)) 2),a3))
  else
   bif (agb s.2.1)==(agb c0.2.1) then
    bif (agb s.2.2.1)==(agb c0.2.2.1) then
     bif (agb s.2.2.2.1)==(agb c0.2.2.2.1) then
      bif (agb s.2.2.2.2.1)==(agb c0.2.2.2.2.1) then
       bif (agb s.2.2.2.2.2)==(agb c0.2.2.2.2.2) then
        agc (.done s)
       else
        agd
      else
       agd
     else
      agd
    else
     agd
   else
    agd
 else
  bif (agb s.2.1)==(agb c0.2.1) then
   bif (agb s.2.2.1)==(agb c0.2.2.1) then
    bif (agb s.2.2.2.1)==(agb c0.2.2.2.1) then
     bif (agb s.2.2.2.2.1)==(agb c0.2.2.2.2.1) then
      bif (agb s.2.2.2.2.2)==(agb c0.2.2.2.2.2) then
       agc (.done s)
      else
       agd
     else
      agd
    else
     agd
   else
    agd
  else
   agd
noncomputable def sd (a:(Int×(List Int)×(List Bool)×(List Int)×(List (Int×Int×Int×Int×Int))×(List Int))):Option (Int×(List Int)×(List Bool)×(List Int)×(List (Int×Int×Int×Int×Int))×(List Int)):=
 aB (gq a) a
noncomputable def jq (c0:(Int×(List Int)×(List Bool)×(List Int)×(List (Int×Int×Int×Int×Int))×(List Int))) (s:(Int×(List Int)×(List Bool)×(List Int)×(List (Int×Int×Int×Int×Int))×(List Int))):Option (Step (Int×(List Int)×(List Bool)×(List Int)×(List (Int×Int×Int×Int×Int))×(List Int)) ((List Int)×(List Bool)×(List Int)×(List (Int×Int×Int×Int×Int))×(List Int))):=
 bif agq ((AC (agb s.2.2.2.2.1))<=(ai .i64 ((ai .i64 (2*s.1))+1))) then
  bif (agb s.2.1)==(agb c0.2.1) then
   bif (agb s.2.2.1)==(agb c0.2.2.1) then
    bif (agb s.2.2.2.1)==(agb c0.2.2.2.1) then
     bif (agb s.2.2.2.2.1)==(agb c0.2.2.2.2.1) then
      bif (agb s.2.2.2.2.2)==(agb c0.2.2.2.2.2) then
       agc (.done s.2)
      else
       agd
     else
      agd
    else
     agd
   else
    agd
  else
   agd
 else
  bif agq ((ai .i64 ((ai .i64 ((ai .i64 (2*s.1))+1))+1))<(AC (agb s.2.2.2.2.1))) then
   (aG s.2.2.2.2.1 (ai .i64 ((ai .i64 ((ai .i64 (2*s.1))+1))+1))).bind fun a0=>
   (aG s.2.2.2.2.1 (ai .i64 ((ai .i64 (2*s.1))+1))).bind fun a1=>
   (dM a0 a1).bind fun b2=>
   bif b2 then
    (aG s.2.2.2.2.1 (ai .i64 ((ai .i64 ((ai .i64 (2*s.1))+1))+1))).bind fun a3=>
    (aG s.2.2.2.2.1 s.1).bind fun a4=>
    (dM a3 a4).bind fun b5=>
    bif !b5 then
     bif (agb s.2.1)==(agb c0.2.1) then
      bif (agb s.2.2.1)==(agb c0.2.2.1) then
       bif (agb s.2.2.2.1)==(agb c0.2.2.2.1) then
        bif (agb s.2.2.2.2.1)==(agb c0.2.2.2.2.1) then
         bif (agb s.2.2.2.2.2)==(agb c0.2.2.2.2.2) then
          agc (.done s.2)
         else
          agd
        else
         agd
       else
        agd
      else
       agd
     else
      agd
    else
     (fN (s.1,ai .i64 ((ai .i64 ((ai .i64 (2*s.1))+1))+1),s.2)).bind fun a6=>
     agc (.next (ai .i64 ((ai .i64 ((ai .i64 (2*s.1))+1))+1),a6))
   else
    (aG s.2.2.2.2.1 (ai .i64 ((ai .i64 (2*s.1))+1))).bind fun a7=>
    (aG s.2.2.2.2.1 s.1).bind fun a8=>
    (dM a7 a8).bind fun b9=>
    bif !b9 then
     bif (agb s.2.1)==(agb c0.2.1) then
      bif (agb s.2.2.1)==(agb c0.2.2.1) then
       bif (agb s.2.2.2.1)==(agb c0.2.2.2.1) then
        bif (agb s.2.2.2.2.1)==(agb c0.2.2.2.2.1) then
         bif (agb s.2.2.2.2.2)==(agb c0.2.2.2.2.2) then
          agc (.done s.2)
         else
          agd
        else
         agd
       else
        agd
      else
       agd
     else
      agd
    else
     (fN (s.1,ai .i64 ((ai .i64 (2*s.1))+1),s.2)).bind fun xU=>
     agc (.next (ai .i64 ((ai .i64 (2*s.1))+1),xU))
  else
   (aG s.2.2.2.2.1 (ai .i64 ((ai .i64 (2*s.1))+1))).bind fun BL=>
   (aG s.2.2.2.2.1 s.1).bind fun a12=>
   (dM BL a12).bind fun b13=>
   bif !b13 then
    bif (agb s.2.1)==(agb c0.2.1) then
     bif (agb s.2.2.1)==(agb c0.2.2.1) then
      bif (agb s.2.2.2.1)==(agb c0.2.2.2.1) then
       bif (agb s.2.2.2.2.1)==(agb c0.2.2.2.2.1) then
        bif (agb s.2.2.2.2.2)==(agb c0.2.2.2.2.2) then
         agc (.done s.2)
        else
         agd
       else
        agd
      else
       agd
     else
      agd
    else
     agd
   else
    (fN (s.1,ai .i64 ((ai .i64 (2*s.1))+1),s.2)).bind fun Qt=>
    agc (.next (ai .i64 ((ai .i64 (2*s.1))+1),Qt))
noncomputable def oX (a:(Int×(List Int)×(List Bool)×(List Int)×(List (Int×Int×Int×Int×Int))×(List Int))):Option ((List Int)×(List Bool)×(List Int)×(List (Int×Int×Int×Int×Int))×(List Int)):=
 aB (jq a) a
noncomputable def tQ (p0:aJ) (p1:Int×Int) (p2:Int×Int):Option aJ:=
 (oU p0).bind fun r0=>
 (aG r0.aj p1.1).bind fun n1=>
 (aG r0.bv n1).bind fun a2=>
 (sd (n1,r0.ae.ar,r0.ae.be,r0.ae.bi,bO r0.bv n1 (p2.1,p2.2,a2.2.2),r0.aj)).bind fun a3=>
 (oX a3).bind fun a4=>
 agc (aJ.mk (aU.mk a4.1 a4.2.1 a4.2.2.1) a4.2.2.2.1 a4.2.2.2.2)
noncomputable def gG (p0:aU):Option Bool:=
 bif agq (0<(AC (agb p0.bi))) then
  (aG p0.bi (ai .i64 ((AC (agb p0.bi)) -1))).bind fun n0=>
  (aG p0.ar n0).bind fun n1=>
  agc (agq (n1<1000000))
 else
  agc agm
noncomputable def x9 (p0:aU):Option (aU×(Int×Int)):=
 (rZ p0).bind fun r0=>
 (aG r0.bi (ai .i64 ((AC (agb r0.bi)) -1))).bind fun n1=>
 (gO r0.bi 0 (ai .i64 ((AC (agb r0.bi)) -1))).bind fun l2=>
 (aG r0.ar n1).bind fun n3=>
 (aG r0.ar n1).bind fun n4=>
 (aG r0.be n1).bind fun b5=>
 (aG (bO r0.ar n1 (ai .i64 (n3+1))) n1).bind fun n6=>
 agc (aU.mk (bO r0.ar n1 (ai .i64 (n3+1))) (bO r0.be n1 age) (r0.bi.take ((ai .i64 ((AC (agb r0.bi)) -1)).toNat)),n1,n6)
noncomputable def oY (a:((List Int)×(List Bool)×(List Int)×Int×Int×(List (Int×Int×Int×Int×Int))×(List Int))):Option ((List (Int×Int×Int×Int×Int))×(List Int)):=
 (aG a.2.2.2.2.2.1 a.2.2.2.2.1).bind fun a0=>
 (aG a.2.2.2.2.2.1 a.2.2.2.1).bind fun a1=>
 (aG a.2.2.2.2.2.1 a.2.2.2.1).bind fun a2=>
 (aG (bO a.2.2.2.2.2.1 a.2.2.2.1 a0) a.2.2.2.2.1).bind fun a3=>
 (aG (bO (bO a.2.2.2.2.2.1 a.2.2.2.1 a0) a.2.2.2.2.1 a1) a.2.2.2.1).bind fun a4=>
 (aG (bO (bO a.2.2.2.2.2.1 a.2.2.2.1 a0) a.2.2.2.2.1 a1) a.2.2.2.2.1).bind fun a5=>
 (aG a.2.2.2.2.2.2 a4.2.2.2.1).bind fun n6=>
 (aG (bO a.2.2.2.2.2.2 a4.2.2.2.1 a.2.2.2.1) a5.2.2.2.1).bind fun n7=>
 bif ((bO (bO a.2.2.2.2.2.1 a.2.2.2.1 a0) a.2.2.2.2.1 a1).length)==(agb a.2.2.2.2.2.1) then
  bif ((bO (bO a.2.2.2.2.2.2 a4.2.2.2.1 a.2.2.2.1) a5.2.2.2.1 a.2.2.2.2.1).length)==(agb a.2.2.2.2.2.2) then
   agc (bO (bO a.2.2.2.2.2.1 a.2.2.2.1 a0) a.2.2.2.2.1 a1,bO (bO a.2.2.2.2.2.2 a4.2.2.2.1 a.2.2.2.1) a5.2.2.2.1 a.2.2.2.2.1)
  else
   agd
 else
  agd
noncomputable def gr (c0:((List Int)×(List Bool)×(List Int)×Int×(List (Int×Int×Int×Int×Int))×(List Int))) (s:(Int×(List (Int×Int×Int×Int×Int))×(List Int)×(List Int)×(List Bool)×(List Int))):Option (Step (Int×(List (Int×Int×Int×Int×Int))×(List Int)×(List Int)×(List Bool)×(List Int)) (Int×(List (Int×Int×Int×Int×Int))×(List Int))):=
 bif agq (0<s.1) then
  (aG s.2.1 s.1).bind fun a0=>
  (aG s.2.1 (ai .i64 (aa6 (ai .i64 (s.1-1)) 2))).bind fun a1=>
  (dM a0 a1).bind fun b2=>
  bif b2 then
   (oY (s.2.2.2.1,s.2.2.2.2.1,s.2.2.2.2.2,s.1,ai .i64 (aa6 (ai .i64 (s.1-1)) 2),s.2.1,s.2.2.1)).bind fun a3=>
   agc (.next (ai .i64 (aa6 (ai .i64 (s.1-1)) 2),a3.1,a3.2,s.2.2.2))
  else
   bif (agb s.2.1)==(agb c0.2.2.2.2.1) then
    bif (agb s.2.2.1)==(agb c0.2.2.2.2.2) then
     agc (.done (s.1,s.2.1,s.2.2.1))
    else
     agd
   else
    agd
 else
  bif (agb s.2.1)==(agb c0.2.2.2.2.1) then
   bif (agb s.2.2.1)==(agb c0.2.2.2.2.2) then
    agc (.done (s.1,s.2.1,s.2.2.1))
   else
    agd
  else
   agd
noncomputable def sf (a:((List Int)×(List Bool)×(List Int)×Int×(List (Int×Int×Int×Int×Int))×(List Int))):Option (Int×(List (Int×Int×Int×Int×Int))×(List Int)):=
 aB (gr a) (a.2.2.2.1,a.2.2.2.2.1,a.2.2.2.2.2,a.1,a.2.1,a.2.2.1)
noncomputable def eF (p0:aJ) (p1:Int×Int) (p2:Int):Option (aJ×(Int×Int)):=
 (oU p0).bind fun r0=>
 (x9 r0.ae).bind fun a1=>
 (bm r0.bv [(p1.1,p1.2,p2,a1.2)]).bind fun l2=>
 (aG r0.aj a1.2.1).bind fun n3=>
 (sf (a1.1.ar,a1.1.be,a1.1.bi,ai .i64 ((AC (agb l2)) -1),l2,bO r0.aj a1.2.1 (ai .i64 ((AC (agb l2)) -1)))).bind fun a4=>
 agc (aJ.mk a1.1 a4.2.1 a4.2.2,a1.2)
noncomputable def cp (s:(Int×Int×Int×(List (Int×Int×Int))×Int×(List (Int×Int×Int))×(List Int)×(List Bool)×(List Int)×(List (Int×Int×Int×Int×Int))×(List Int)×(List (Int×Int×Int))×(List (Int×Int×Int))×Int×Int×Int×Int×Int×(List (Int×Int×Int))×Int×(List (Int×Int×Int))×(List Int)×(List Bool)×(List Int)×(List (Int×Int×Int×Int×Int))×(List Int)×(List (Int×Int×Int)))):Option (Step (Int×Int×Int×(List (Int×Int×Int))×Int×(List (Int×Int×Int))×(List Int)×(List Bool)×(List Int)×(List (Int×Int×Int×Int×Int))×(List Int)×(List (Int×Int×Int))×(List (Int×Int×Int))×Int×Int×Int×Int×Int×(List (Int×Int×Int))×Int×(List (Int×Int×Int))×(List Int)×(List Bool)×(List Int)×(List (Int×Int×Int×Int×Int))×(List Int)×(List (Int×Int×Int))) (aI×Int)):=
 match s with
 |(a,b,d,e,f,g,h,i,j,k,l,m,n,o,q,r,t,u,v,w,x,y,z,A,B,C,D)=>
  bif agq (a<(AC (agb g))) then
   (aG g a).bind fun a0=>
   (qg (aI.mk (b,d) (Field.mk e) (bc.mk f g) (aJ.mk (aU.mk h i j) k l) m) a0.1).bind fun n1=>
   (oR (Field.mk n) a0.2 (b,d)).bind fun a2=>
   bif a2.2 then
    bif agq (0<=n1) then
     (aG m n1).bind fun a3=>
     (tQ (aJ.mk (aU.mk y z A) B C) a3.2 a2.1).bind fun r4=>
     (aG m n1).bind fun a5=>
     (bm D [a5]).bind fun l6=>
     bif !a2.2 then
      bif agq (0<=n1) then
       (aG m n1).bind fun a7=>
       (kE r4 a7.2).bind fun r8=>
       bif !a2.2 then
        agc (.next (ai .i64 (a+1),b,d,e,f,g,h,i,j,k,l,m,n,o,q,r,t,u,v,w,x,r8.ae.ar,r8.ae.be,r8.ae.bi,r8.bv,r8.aj,l6))
       else
        bif agq (0<=n1) then
         agc (.next (ai .i64 (a+1),b,d,e,f,g,h,i,j,k,l,m,n,o,q,r,t,u,v,w,x,r8.ae.ar,r8.ae.be,r8.ae.bi,r8.bv,r8.aj,l6))
        else
         (gG r8.ae).bind fun b9=>
         bif !b9 then
          agc (.done (aI.mk (0,0) (Field.mk []) (bc.mk 0 []) (aJ.mk (aU.mk [] [] []) [] []) [],18))
         else
          (eF r8 a2.1 a0.1).bind fun xU=>
          (bm l6 [(a0.1,xU.2)]).bind fun l11=>
          agc (.next (ai .i64 (a+1),b,d,e,f,g,h,i,j,k,l,m,n,o,q,r,t,u,v,w,x,xU.1.ae.ar,xU.1.ae.be,xU.1.ae.bi,xU.1.bv,xU.1.aj,l11))
      else
       bif !a2.2 then
        agc (.next (ai .i64 (a+1),b,d,e,f,g,h,i,j,k,l,m,n,o,q,r,t,u,v,w,x,r4.ae.ar,r4.ae.be,r4.ae.bi,r4.bv,r4.aj,l6))
       else
        bif agq (0<=n1) then
         agc (.next (ai .i64 (a+1),b,d,e,f,g,h,i,j,k,l,m,n,o,q,r,t,u,v,w,x,r4.ae.ar,r4.ae.be,r4.ae.bi,r4.bv,r4.aj,l6))
        else
         (gG r4.ae).bind fun b12=>
         bif !b12 then
          agc (.done (aI.mk (0,0) (Field.mk []) (bc.mk 0 []) (aJ.mk (aU.mk [] [] []) [] []) [],18))
         else
          (eF r4 a2.1 a0.1).bind fun Oa=>
          (bm l6 [(a0.1,Oa.2)]).bind fun l14=>
          agc (.next (ai .i64 (a+1),b,d,e,f,g,h,i,j,k,l,m,n,o,q,r,t,u,v,w,x,Oa.1.ae.ar,Oa.1.ae.be,Oa.1.ae.bi,Oa.1.bv,Oa.1.aj,l14))
     else
      bif !a2.2 then
       agc (.next (ai .i64 (a+1),b,d,e,f,g,h,i,j,k,l,m,n,o,q,r,t,u,v,w,x,r4.ae.ar,r4.ae.be,r4.ae.bi,r4.bv,r4.aj,l6))
      else
       bif agq (0<=n1) then
        agc (.next (ai .i64 (a+1),b,d,e,f,g,h,i,j,k,l,m,n,o,q,r,t,u,v,w,x,r4.ae.ar,r4.ae.be,r4.ae.bi,r4.bv,r4.aj,l6))
       else
        (gG r4.ae).bind fun b15=>
        bif !b15 then
         agc (.done (aI.mk (0,0) (Field.mk []) (bc.mk 0 []) (aJ.mk (aU.mk [] [] []) [] []) [],18))
        else
         (eF r4 a2.1 a0.1).bind fun I2=>
         (bm l6 [(a0.1,I2.2)]).bind fun l17=>
         agc (.next (ai .i64 (a+1),b,d,e,f,g,h,i,j,k,l,m,n,o,q,r,t,u,v,w,x,I2.1.ae.ar,I2.1.ae.be,I2.1.ae.bi,I2.1.bv,I2.1.aj,l17))
    else
     bif !a2.2 then
      bif agq (0<=n1) then
       (aG m n1).bind fun ZB=>
       (kE (aJ.mk (aU.mk y z A) B C) ZB.2).bind fun Qu=>
       bif !a2.2 then
        agc (.next (ai .i64 (a+1),b,d,e,f,g,h,i,j,k,l,m,n,o,q,r,t,u,v,w,x,Qu.ae.ar,Qu.ae.be,Qu.ae.bi,Qu.bv,Qu.aj,D))
       else
        bif agq (0<=n1) then
         agc (.next (ai .i64 (a+1),b,d,e,f,g,h,i,j,k,l,m,n,o,q,r,t,u,v,w,x,Qu.ae.ar,Qu.ae.be,Qu.ae.bi,Qu.bv,Qu.aj,D))
        else
         (gG Qu.ae).bind fun b20=>
         bif !b20 then
          agc (.done (aI.mk (0,0) (Field.mk []) (bc.mk 0 []) (aJ.mk (aU.mk [] [] []) [] []) [],18))
         else
          (eF Qu a2.1 a0.1).bind fun a21=>
          (bm D [(a0.1,a21.2)]).bind fun l22=>
          agc (.next (ai .i64 (a+1),b,d,e,f,g,h,i,j,k,l,m,n,o,q,r,t,u,v,w,x,a21.1.ae.ar,a21.1.ae.be,a21.1.ae.bi,a21.1.bv,a21.1.aj,l22))
      else
       bif !a2.2 then
        agc (.next (ai .i64 (a+1),(b,d,e,f,g,h,i,j,k,l,m,n,o,q,r,t,u,v,w,x,y,z,A,B,C,D)))
       else
        bif agq (0<=n1) then
         agc (.next (ai .i64 (a+1),(b,d,e,f,g,h,i,j,k,l,m,n,o,q,r,t,u,v,w,x,y,z,A,B,C,D)))
        else
         (gG (aU.mk y z A)).bind fun b23=>
         bif !b23 then
          agc (.done (aI.mk (0,0) (Field.mk []) (bc.mk 0 []) (aJ.mk (aU.mk [] [] []) [] []) [],18))
         else
          (eF (aJ.mk (aU.mk y z A) B C) a2.1 a0.1).bind fun a24=>
          (bm D [(a0.1,a24.2)]).bind fun l25=>
          agc (.next (ai .i64 (a+1),b,d,e,f,g,h,i,j,k,l,m,n,o,q,r,t,u,v,w,x,a24.1.ae.ar,a24.1.ae.be,a24.1.ae.bi,a24.1.bv,a24.1.aj,l25))
     else
      bif !a2.2 then
       agc (.next (ai .i64 (a+1),(b,d,e,f,g,h,i,j,k,l,m,n,o,q,r,t,u,v,w,x,y,z,A,B,C,D)))
      else
       bif agq (0<=n1) then
        agc (.next (ai .i64 (a+1),(b,d,e,f,g,h,i,j,k,l,m,n,o,q,r,t,u,v,w,x,y,z,A,B,C,D)))
       else
        (gG (aU.mk y z A)).bind fun b26=>
        bif !b26 then
         agc (.done (aI.mk (0,0) (Field.mk []) (bc.mk 0 []) (aJ.mk (aU.mk [] [] []) [] []) [],18))
        else
         (eF (aJ.mk (aU.mk y z A) B C) a2.1 a0.1).bind fun a27=>
         (bm D [(a0.1,a27.2)]).bind fun l28=>
         agc (.next (ai .i64 (a+1),b,d,e,f,g,h,i,j,k,l,m,n,o,q,r,t,u,v,w,x,a27.1.ae.ar,a27.1.ae.be,a27.1.ae.bi,a27.1.bv,a27.1.aj,l28))
   else
    bif !a2.2 then
     bif agq (0<=n1) then
      (aG m n1).bind fun a29=>
      (kE (aJ.mk (aU.mk y z A) B C) a29.2).bind fun Qv=>
      bif !a2.2 then
       agc (.next (ai .i64 (a+1),b,d,e,f,g,h,i,j,k,l,m,n,o,q,r,t,u,v,w,x,Qv.ae.ar,Qv.ae.be,Qv.ae.bi,Qv.bv,Qv.aj,D))
      else
       bif agq (0<=n1) then
        agc (.next (ai .i64 (a+1),b,d,e,f,g,h,i,j,k,l,m,n,o,q,r,t,u,v,w,x,Qv.ae.ar,Qv.ae.be,Qv.ae.bi,Qv.bv,Qv.aj,D))
       else
        (gG Qv.ae).bind fun b31=>
        bif !b31 then
         agc (.done (aI.mk (0,0) (Field.mk []) (bc.mk 0 []) (aJ.mk (aU.mk [] [] []) [] []) [],18))
        else
         (eF Qv a2.1 a0.1).bind fun a32=>
         (bm D [(a0.1,a32.2)]).bind fun l33=>
         agc (.next (ai .i64 (a+1),b,d,e,f,g,h,i,j,k,l,m,n,o,q,r,t,u,v,w,x,a32.1.ae.ar,a32.1.ae.be,a32.1.ae.bi,a32.1.bv,a32.1.aj,l33))
     else
      bif !a2.2 then
       agc (.next (ai .i64 (a+1),(b,d,e,f,g,h,i,j,k,l,m,n,o,q,r,t,u,v,w,x,y,z,A,B,C,D)))
      else
       bif agq (0<=n1) then
        agc (.next (ai .i64 (a+1),(b,d,e,f,g,h,i,j,k,l,m,n,o,q,r,t,u,v,w,x,y,z,A,B,C,D)))
       else
        (gG (aU.mk y z A)).bind fun b34=>
        bif !b34 then
         agc (.done (aI.mk (0,0) (Field.mk []) (bc.mk 0 []) (aJ.mk (aU.mk [] [] []) [] []) [],18))
        else
         (eF (aJ.mk (aU.mk y z A) B C) a2.1 a0.1).bind fun a35=>
         (bm D [(a0.1,a35.2)]).bind fun l36=>
         agc (.next (ai .i64 (a+1),b,d,e,f,g,h,i,j,k,l,m,n,o,q,r,t,u,v,w,x,a35.1.ae.ar,a35.1.ae.be,a35.1.ae.bi,a35.1.bv,a35.1.aj,l36))
    else
     bif !a2.2 then
      agc (.next (ai .i64 (a+1),(b,d,e,f,g,h,i,j,k,l,m,n,o,q,r,t,u,v,w,x,y,z,A,B,C,D)))
     else
      bif agq (0<=n1) then
       agc (.next (ai .i64 (a+1),(b,d,e,f,g,h,i,j,k,l,m,n,o,q,r,t,u,v,w,x,y,z,A,B,C,D)))
      else
       (gG (aU.mk y z A)).bind fun b37=>
       bif !b37 then
        agc (.done (aI.mk (0,0) (Field.mk []) (bc.mk 0 []) (aJ.mk (aU.mk [] [] []) [] []) [],18))
       else
        (eF (aJ.mk (aU.mk y z A) B C) a2.1 a0.1).bind fun a38=>
        (bm D [(a0.1,a38.2)]).bind fun l39=>
        agc (.next (ai .i64 (a+1),b,d,e,f,g,h,i,j,k,l,m,n,o,q,r,t,u,v,w,x,a38.1.ae.ar,a38.1.ae.be,a38.1.ae.bi,a38.1.bv,a38.1.aj,l39))
  else
   agc (.done (aI.mk (t,u) (Field.mk v) (bc.mk w x) (aJ.mk (aU.mk y z A) B C) D,0))
noncomputable def mu (p0:aI) (p1:Field):Option (aI×Int):=
 (oV p0).bind fun r0=>
 (v7 p1).bind fun r1=>
 aB cp (0,p0.ci.1,p0.ci.2,p0.ii.am,p0.af.aL,p0.af.ce,p0.aa.ae.ar,p0.aa.ae.be,p0.aa.ae.bi,p0.aa.bv,p0.aa.aj,p0.io,p1.am,0,0,0,r0.ci.1,r0.ci.2,r1.am,r0.af.aL,r0.af.ce,r0.aa.ae.ar,r0.aa.ae.be,r0.aa.ae.bi,r0.aa.bv,r0.aa.aj,[])
noncomputable def Cv (p0:bc) (p1:Int×Int):Option (bc×Int×Int):=
 (p8 p0).bind fun n0=>
 bif n0 !=0 then
  agc (bc.mk 0 [],0,8)
 else
  (rV p1).bind fun b1=>
  bif !b1 then
   agc (bc.mk 0 [],0,8)
  else
   (rB p0 p1).bind fun b2=>
   bif b2 then
    agc (bc.mk 0 [],0,14)
   else
    bif (AC (agb p0.ce))==200 then
     agc (bc.mk 0 [],0,18)
    else
     bif p0.aL==1000000 then
      agc (bc.mk 0 [],0,18)
     else
      (v8 p0).bind fun r3=>
      (bm r3.ce [(p0.aL,p1)]).bind fun l4=>
      agc (bc.mk (ai .i64 (r3.aL+1)) l4,p0.aL,0)
noncomputable def lA (p0:aI) (p1:Int×Int):Option (aI×Int×Int):=
 (Cv p0.af p1).bind fun a0=>
 bif a0.2.2 !=0 then
  agc (aI.mk (0,0) (Field.mk []) (bc.mk 0 []) (aJ.mk (aU.mk [] [] []) [] []) [],0,a0.2.2)
 else
  (oV p0).bind fun r1=>
  (oR p0.ii p1 p0.ci).bind fun a2=>
  bif !a2.2 then
   agc (aI.mk r1.ci r1.ii a0.1 r1.aa r1.io,a0.2.1,0)
  else
   (gG p0.aa.ae).bind fun b3=>
   bif !b3 then
    agc (aI.mk (0,0) (Field.mk []) (bc.mk 0 []) (aJ.mk (aU.mk [] [] []) [] []) [],0,18)
   else
    (eF p0.aa a2.1 a0.2.1).bind fun a4=>
    (bm r1.io [(a0.2.1,a4.2)]).bind fun l5=>
    agc (aI.mk r1.ci r1.ii a0.1 a4.1 l5,a0.2.1,0)
noncomputable def dv (s:((List (Int×Int))×Int×Int×Int×Int×Int×Int×(List (Int×Int×Int))×Int×(List (Int×Int×Int))×(List Int)×(List Bool)×(List Int)×(List (Int×Int×Int×Int×Int))×(List Int)×(List (Int×Int×Int)))):Option (Step ((List (Int×Int))×Int×Int×Int×Int×Int×Int×(List (Int×Int×Int))×Int×(List (Int×Int×Int))×(List Int)×(List Bool)×(List Int)×(List (Int×Int×Int×Int×Int))×(List Int)×(List (Int×Int×Int))) (Step ((List (Int×Int))×Int×Int×Int×(List (Int×Int×Int))×Int×(List (Int×Int×Int))×(List Int)×(List Bool)×(List Int)×(List (Int×Int×Int×Int×Int))×(List Int)×(List (Int×Int×Int))×(List (Int×Int×Int))×Int×Int×Int×Int×Int×(List (Int×Int×Int))×Int×(List (Int×Int×Int))×(List Int)×(List Bool)×(List Int)×(List (Int×Int×Int×Int×Int))×(List Int)×(List (Int×Int×Int))) (aI×Int))):=
 match s with
 |(a,b,d,e,f,g,h,i,j,k,l,m,n,o,q,r)=>
  bif agq (b<(AC (agb a))) then
   (aG a b).bind fun a0=>
   (rB (bc.mk j k) a0).bind fun b1=>
   bif b1 then
    agc (.next (a,ai .i64 (b+1),(d,e,f,g,h,i,j,k,l,m,n,o,q,r)))
   else
    (aG a b).bind fun a2=>
    (lA (aI.mk (g,h) (Field.mk i) (bc.mk j k) (aJ.mk (aU.mk l m n) o q) r) a2).bind fun a3=>
    bif a3.2.2 !=0 then
     agc (.done (.done (aI.mk (0,0) (Field.mk []) (bc.mk 0 []) (aJ.mk (aU.mk [] [] []) [] []) [],a3.2.2)))
    else
     agc (.next (a,ai .i64 (b+1),d,e,f,a3.1.ci.1,a3.1.ci.2,a3.1.ii.am,a3.1.af.aL,a3.1.af.ce,a3.1.aa.ae.ar,a3.1.aa.ae.be,a3.1.aa.ae.bi,a3.1.aa.bv,a3.1.aa.aj,a3.1.io))
  else
   agc (.done (.done (aI.mk (g,h) (Field.mk i) (bc.mk j k) (aJ.mk (aU.mk l m n) o q) r,0)))
noncomputable def cZ (s:((List (Int×Int))×Int×Int×Int×(List (Int×Int×Int))×Int×(List (Int×Int×Int))×(List Int)×(List Bool)×(List Int)×(List (Int×Int×Int×Int×Int))×(List Int)×(List (Int×Int×Int))×(List (Int×Int×Int))×Int×Int×Int×Int×Int×(List (Int×Int×Int))×Int×(List (Int×Int×Int))×(List Int)×(List Bool)×(List Int)×(List (Int×Int×Int×Int×Int))×(List Int)×(List (Int×Int×Int)))):Option (Step ((List (Int×Int))×Int×Int×Int×(List (Int×Int×Int))×Int×(List (Int×Int×Int))×(List Int)×(List Bool)×(List Int)×(List (Int×Int×Int×Int×Int))×(List Int)×(List (Int×Int×Int))×(List (Int×Int×Int))×Int×Int×Int×Int×Int×(List (Int×Int×Int))×Int×(List (Int×Int×Int))×(List Int)×(List Bool)×(List Int)×(List (Int×Int×Int×Int×Int))×(List Int)×(List (Int×Int×Int))) (aI×Int)):=
 match s with
 |(a,b,d,e,f,g,h,i,j,k,l,m,n,o,q,r,t,u,v,w,x,y,z,A,B,C,D,E)=>
  bif agq (b<(AC (agb h))) then
   (aG h b).bind fun a0=>
   (x6 a a0.2).bind fun b1=>
   bif !b1 then
    (aG h b).bind fun a2=>
    (oW (aI.mk (u,v) (Field.mk w) (bc.mk x y) (aJ.mk (aU.mk z A B) C D) E) a2.1).bind fun r3=>
    agc (.next (a,ai .i64 (b+1),d,e,f,g,h,i,j,k,l,m,n,o,q,r,t,r3.ci.1,r3.ci.2,r3.ii.am,r3.af.aL,r3.af.ce,r3.aa.ae.ar,r3.aa.ae.be,r3.aa.ae.bi,r3.aa.bv,r3.aa.aj,r3.io))
   else
    agc (.next (a,ai .i64 (b+1),(d,e,f,g,h,i,j,k,l,m,n,o,q,r,t,u,v,w,x,y,z,A,B,C,D,E)))
  else
   (rY (Field.mk w) (Field.mk o)).bind fun b4=>
   bif !b4 then
    (mu (aI.mk (u,v) (Field.mk w) (bc.mk x y) (aJ.mk (aU.mk z A B) C D) E) (Field.mk o)).bind fun a5=>
    bif a5.2 !=0 then
     agc (.done (aI.mk (0,0) (Field.mk []) (bc.mk 0 []) (aJ.mk (aU.mk [] [] []) [] []) [],a5.2))
    else
     aB dv (a,0,q,r,t,a5.1.ci.1,a5.1.ci.2,a5.1.ii.am,a5.1.af.aL,a5.1.af.ce,a5.1.aa.ae.ar,a5.1.aa.ae.be,a5.1.aa.ae.bi,a5.1.aa.bv,a5.1.aa.aj,a5.1.io)
   else
    aB dv (a,0,(q,r,t,u,v,w,x,y,z,A,B,C,D,E))
noncomputable def mv (p0:aI) (p1:Field) (p2:List (Int×Int)):Option (aI×Int):=
 (oV p0).bind fun r0=>
 aB cZ (p2,0,p0.ci.1,p0.ci.2,p0.ii.am,p0.af.aL,p0.af.ce,p0.aa.ae.ar,p0.aa.ae.be,p0.aa.ae.bi,p0.aa.bv,p0.aa.aj,p0.io,p1.am,0,0,0,r0.ci.1,r0.ci.2,r0.ii.am,r0.af.aL,r0.af.ce,r0.aa.ae.ar,r0.aa.ae.be,r0.aa.ae.bi,r0.aa.bv,r0.aa.aj,r0.io)
structure zq where
 lc:aI
 bv:List Int
noncomputable def te (s:(Int×Int×Int×(List (Int×Int×Int)))):Option (Step (Int×Int×Int×(List (Int×Int×Int))) Int):=
 bif agq (s.2.1<(AC (agb s.2.2.2))) then
  (aG s.2.2.2 s.2.1).bind fun a0=>
  bif a0.1==s.1 then
   agc (.done s.2.1)
  else
   agc (.next (s.1,ai .i64 (s.2.1+1),s.2.2))
 else
  agc (.done (-1))
noncomputable def Ko (p0:bc) (p1:Int):Option Int:=
 aB te (p1,0,p0.aL,p0.ce)
noncomputable def Bk (p0:aI):Option (aI×(Int×Int×Int×Int×Int)×(Int×Int)):=
 (aG p0.aa.bv 0).bind fun a0=>
 (Ko p0.af a0.2.2.1).bind fun n1=>
 (aG p0.af.ce n1).bind fun a2=>
 (oW p0 a0.2.2.1).bind fun r3=>
 agc (aI.mk (a0.1,a0.2.1) r3.ii r3.af r3.aa r3.io,a0,a2.2)
noncomputable def tR (p0:aI) (p1:Field):Option (cE×Int):=
 (oT p1 p0.ci).bind fun r0=>
 (x4 r0).bind fun l1=>
 (mv p0 p1 l1).bind fun a2=>
 bif a2.2 !=0 then
  agc (cE.mk (aI.mk (0,0) (Field.mk []) (bc.mk 0 []) (aJ.mk (aU.mk [] [] []) [] []) []) (Tree.mk 0 []),a2.2)
 else
  agc (cE.mk a2.1 r0,0)
abbrev wa (n:Int):Prop:= -9223372036854775808<=n/\n<9223372036854775808
abbrev S0 (n:Int):Prop:=0<=n/\n<18446744073709551616
theorem wi (n:Int):ai .i64 n=(n+9223372036854775808)%18446744073709551616-9223372036854775808:=by
 rw [rJ];simp only [IntKind.wrap,IntKind.bits,IntKind.signed,Bool.true_and];have e1:(2:Int)^64=18446744073709551616:=by decide
 have e2:(2:Int)^(64-1)=9223372036854775808:=by decide
 simp only [e1,e2,decide_eq_true_eq];split<;>omega
theorem wu (n:Int):ai .u64 n=n%18446744073709551616:=by
 rw [rJ];simp only [IntKind.wrap,IntKind.bits,IntKind.signed,Bool.false_and];have e1:(2:Int)^64=18446744073709551616:=by decide
 simp only [e1];simp
theorem Bl {n:Int} (h:wa n):ai .i64 n=n:=by rw [wi];omega
theorem dN {a b:Int} (h:a≠b):(a !=b)=age:=by simpa using h
theorem bV {a b:Int} (h:a=b):(a !=b)=agm:=by simpa using h
theorem ed {a b:Int} (h:a=b):(a==b)=age:=by simpa using h
theorem eD {a b:Int} (h:a≠b):(a==b)=agm:=by simpa using h
theorem Ob (a b:Int):(a==b)=agq (a=b):=by
 by_cases h:a=b
 · rw [ed h,decide_eq_true h]
 rw [eD h,decide_eq_false h]
theorem lt_or_ge (a b:Int):a<b\/b<=a:=by omega
theorem agy (a:Int):nu .u64 a 32=a / 4294967296:=by unfold nu;rw [show (min (32:Int).toNat (IntKind.bits .u64))=32 from by decide,show (2:Int)^32=4294967296 from by decide];exact aay _ (by decide)
theorem Mu {a:Int} (h:S0 a):Dq .u64 a 4294967295=a%4294967296:=by
 obtain ⟨n,rfl⟩:=aap h.1;unfold Dq;have e:(BitVec.ofInt (IntKind.bits .u64) (n:Int)&&&BitVec.ofInt (IntKind.bits .u64) 4294967295).toNat=n%4294967296:=by
  rw [BitVec.toNat_and];have e1:(BitVec.ofInt (IntKind.bits .u64) (n:Int)).toNat=n:=by
   rw [BitVec.toNat_ofInt];have:((2^(IntKind.bits .u64):Nat):Int)=18446744073709551616:=by decide
   rw [this];omega
  have e2:(BitVec.ofInt (IntKind.bits .u64) (4294967295:Int)).toNat=2^32-1:=by decide
  rw [e1,e2,Nat.and_two_pow_sub_one_eq_mod]
 rw [e];have:=wu ((n%4294967296:Nat):Int);rw [rJ] at this;rw [this];omega
theorem Oc {a b:Nat} (ha:a<1000000000) (hb:b<1000000000):ai .i64 (nu .u64 (ai .u64 (ai .i64 ((a:Int)+(b:Int)))) 1)=(((a+b) / 2:Nat):Int):=by unfold nu;rw [show (min (1:Int).toNat (IntKind.bits .u64))=1 from by decide,show (2:Int)^1=2 from by decide,aay _ (by decide),wi (_+_),wu,wi];omega
section
variable {σ ρ : Type} {body : σ -> Option (Step σ ρ)}
theorem bL (st:Nat->σ) (n:Nat) (h: ∀i,i<n->body (st i)=agc (.next (st (i+1)))):aB body (st 0)=aB body (st n):=by
 induction n with
 |zero=>rfl
 |succ n ih=>rw [ih fun i hi=>h i (by omega)];exact aQ (h n (by omega))
theorem cP (st:Nat->σ) (n:Nat) (c:Nat->Prop) {r e:ρ} (h: ∀i,i<n->(c i->body (st i)=agc (.done r))/\(¬c i->body (st i)=agc (.next (st (i+1)))))
 (S1:body (st n)=agc (.done e)):((∃i,i<n/\c i)->aB body (st 0)=agc r)/\((∀i,i<n-> ¬c i)->aB body (st 0)=agc e):=by
 constructor
 · rintro ⟨i,hi,hc⟩
   have key: ∀k,k<=n->(∃i,i<n/\n-k<=i/\c i)->aB body (st (n-k))=agc r:=by
    intro k
    induction k with
    |zero=>rintro _ ⟨i,h1,h2,_⟩;omega
    |succ k ih=>
     rintro hk ⟨i,h1,h2,h3⟩
     by_cases hc:c (n- (k+1))
     · exact aC ((h _ (by omega)).1 hc)
     rw [aQ ((h _ (by omega)).2 hc),show n- (k+1)+1=n-k by omega]
     refine ih (by omega) ⟨i,h1,?_,h3⟩
     by_cases he:i=n- (k+1)
     · subst he;exact absurd h3 hc
     omega
   have:=key n (abe n) ⟨i,hi,by omega,hc⟩
   rwa [Nat.sub_self] at this
 intro hn
 rw [bL st n fun i hi=>(h i hi).2 (hn i hi)];exact aC S1
theorem least {c:Nat->Prop}: ∀{n:Nat},(∃i,i<n/\c i)-> ∃k,k<n/\c k/\ ∀j,j<k-> ¬c j
 |0,h=>by obtain ⟨i,hi,_⟩:=h;omega
 |n+1,h=>by
  by_cases hx: ∃i,i<n/\c i
  · obtain ⟨k,h1,h2,h3⟩:=least hx
    exact ⟨k,by omega,h2,h3⟩
  obtain ⟨i,hi,hc⟩:=h
  refine ⟨i,hi,hc,fun j hj hcj=>hx ⟨j,by omega,hcj⟩⟩
theorem jS (st:Nat->σ) (n:Nat) (c:Nat->Prop) (r:Nat->ρ) {e:ρ} (h: ∀i,i<n->(c i->body (st i)=agc (.done (r i)))/\(¬c i->body (st i)=agc (.next (st (i+1)))))
 (S1:body (st n)=agc (.done e)):(∀k,k<n->c k->(∀j,j<k-> ¬c j)->aB body (st 0)=agc (r k))/\((∀i,i<n-> ¬c i)->aB body (st 0)=agc e):=by
 constructor
 · intro k hk hc hj
   rw [bL st k fun i hi=>(h i (by omega)).2 (hj i hi)];exact aC ((h k hk).1 hc)
 intro hn
 rw [bL st n fun i hi=>(h i hi).2 (hn i hi)];exact aC S1
theorem yO (st:Nat->Nat->σ) (n m:Nat) (c:Nat->Prop)
 (h: ∀lo hi,lo<hi->hi<=n->(c ((lo+hi) / 2)->body (st lo hi)=agc (.next (st ((lo+hi) / 2+1) hi)))/\(¬c ((lo+hi) / 2)->body (st lo hi)=agc (.next (st lo ((lo+hi) / 2)))))
 (h1: ∀i,i<m->c i) (h2: ∀i,m<=i->i<n-> ¬c i): ∀d lo hi,hi-lo<=d->lo<=m->m<=hi->hi<=n->aB body (st lo hi)=aB body (st m m)
 |0,lo,hi,hd,a,b,_=>by
  have e1:lo=m:=by omega
  have e2:hi=m:=by omega
  rw [e1,e2]
 |d+1,lo,hi,hd,a,b,e=>by
  by_cases hl:lo<hi
  · by_cases hc:c ((lo+hi) / 2)
    · rw [aQ ((h lo hi hl e).1 hc)]
      refine yO st n m c h h1 h2 d _ _ (by omega) ?_ b e;refine PP fun hx=>?_
      exact h2 ((lo+hi) / 2) (by omega) (by omega) hc
    rw [aQ ((h lo hi hl e).2 hc)]
    refine yO st n m c h h1 h2 d _ _ (by omega) a ?_ (by omega);refine PP fun hx=>?_
    exact hc (h1 ((lo+hi) / 2) (by omega))
  have e1:lo=m:=by omega
  have e2:hi=m:=by omega
  rw [e1,e2]
end
section
variable {α : Type} [Inhabited α]
theorem aq (l:List α) (n:Nat) (h:n<agb l):aG l (n:Int)=agc l[n]!:=by show l[n]? =agc l[n]!;rw [ab0 h,getElem!_pos l n h]
theorem c6 {l:List α} {i:Int} (h0:0<=i) (h:i<agb l):aG l i=agc l[i.toNat]!:=by obtain ⟨n,rfl⟩:=aap h0;exact aq l n (by omega)
theorem lB {β:Type} (l:List β) (n:Nat) (a:β):bO l (n:Int) a=l.set n a:=rfl
theorem ba (l:List α) (n m:Nat) (a:α):(l.set n a)[m]! =if m=n/\n<(agb l) then a else l[m]!:=by
 by_cases hm:m<agb l
 · rw [getElem!_pos (l.set n a) m (by simpa using hm),getElem!_pos l m hm,List.getElem_set]
   split
   · rw [rc (by omega)]
   rw [ut (by omega)]
 rw [getElem!_neg (l.set n a) m (by simpa using hm),getElem!_neg l m hm]
 split
 · omega
 rfl
theorem aP {l:List α} {x:α}:x∈l↔ ∃i,i<agb l/\l[i]! =x:=by
 rw [List.mem_iff_getElem];constructor
 · rintro ⟨i,h,rfl⟩;exact ⟨i,h,getElem!_pos l i h⟩
 rintro ⟨i,h,rfl⟩;exact ⟨i,h,(getElem!_pos l i h).symm⟩
theorem aN {l:List α} {i:Nat} (h:i<agb l):l[i]!∈l:=aP.2 ⟨i,h,rfl⟩
theorem dQ {l m:List α} {i:Nat} (h:i<agb l):(l++m)[i]! =l[i]!:=by rw [getElem!_pos (l++m) i (by simp;omega),getElem!_pos l i h,List.getElem_append_left h]
theorem fA {l m:List α} {i:Nat} (h:(agb l)<=i):(l++m)[i]! =m[i-(agb l)]!:=by
 by_cases hi:i<agb l+agb m
 · rw [getElem!_pos (l++m) i (by simp;omega),getElem!_pos m (i-(agb l)) (by omega),List.getElem_append_right h]
 rw [getElem!_neg (l++m) i (by simp;omega),getElem!_neg m (i-(agb l)) (by omega)]
theorem jH {l:List α} {n i:Nat} (h:i<n):(l.take n)[i]! =l[i]!:=by
 by_cases hi:i<agb l
 · rw [getElem!_pos (l.take n) i (by simp;omega),getElem!_pos l i hi,List.getElem_take]
 rw [getElem!_neg (l.take n) i (by simp;omega),getElem!_neg l i hi]
theorem rC {l:List α} {n i:Nat}:(l.drop n)[i]! =l[n+i]!:=by
 by_cases hi:n+i<agb l
 · rw [getElem!_pos (l.drop n) i (by simp;omega),getElem!_pos l (n+i) hi,List.getElem_drop]
 rw [getElem!_neg (l.drop n) i (by simp;omega),getElem!_neg l (n+i) hi]
theorem ya {l m:List α} (hl:(agb l)=agb m) (h: ∀i,i<agb l->l[i]! =m[i]!):l=m:=by
 apply List.ext_getElem hl;intro i h1 h2;have:=h i h1
 rwa [getElem!_pos l i h1,getElem!_pos m i h2] at this
theorem S2 {l:List α} {i:Nat} (h:i<agb l):l=l.take i++l[i]!::l.drop (i+1):=by rw [getElem!_pos l i h,List.getElem_cons_drop,List.take_append_drop]
end
theorem bj {α:Type} {l:List α} (h:(agb l)<=1048576):bP l=agc l:=by unfold bP;rw [rc h]
theorem cM {α:Type} {l m:List α} (h:(agb l)+agb m<=1048576):bm l m=agc (l++m):=by unfold bm;rw [rc h]
@[simp] theorem ao {α β:Type} (a:α) (f:α->Option β):(agc a).bind f=f a:=rfl
end Go.Proofs.YthljmpcakagceaaGreat
namespace Go.Proofs.YthljmpcakagceaaGreat
open Go.Vm Classical
theorem jg {n:Int} (h:wa n):gF n=agc (n.natAbs:Int):=by
 unfold gF;simp only [wi,wu]
 by_cases hn:n<0
 · simp only [hn,decide_true,lw,EQ];omega
 simp only [hn,decide_false,pp,EQ];omega
theorem oi {n:Int} (h:wa n):kC n=agc (n.natAbs:Int):=by
 unfold kC;simp only [wu]
 by_cases hn:n<0
 · simp only [hn,decide_true,lw,EQ];omega
 simp only [hn,decide_false,pp,EQ];omega
theorem oZ (m n:Nat):nY m n=agc (If m n:Int):=by
 unfold nY
 induction n using abI generalizing m with
 |ind n ih=>
  by_cases h0:n=0
  · subst h0
    rw [abr];exact aC (by simp [mD])
  have e:mD ((m:Int),(n:Int))=agc (.next ((n:Int),((m%n:Nat):Int))):=by
   have h1:((n:Int) !=0)=age:=by simp;omega
   have h2:((n:Int)==0)=agm:=by simp;omega
   simp only [mD,h1,h2,lw,pp,abY]
  rw [aQ e,ih (m%n) (Nat.mod_lt _ (by omega)) n,aaq m n,Nat.gcd_rec n m,aaq]
theorem zt (m n:Nat):uM m n=agc (If m n:Int):=by
 unfold uM
 induction n using abI generalizing m with
 |ind n ih=>
  by_cases h0:n=0
  · subst h0
    rw [abr];exact aC (by simp [qV])
  have e:qV ((m:Int),(n:Int))=agc (.next ((n:Int),((m%n:Nat):Int))):=by
   have h1:agq (0<(n:Int))=age:=by simp;omega
   have h2:((n:Int)==0)=agm:=by simp;omega
   simp only [qV,h1,h2,lw,pp,abY]
  rw [aQ e,ih (m%n) (Nat.mod_lt _ (by omega)) n,aaq m n,Nat.gcd_rec n m,aaq]
def aW (r:Int×Int):Prop:=1<=r.2/\r.1≠ -9223372036854775808/\If r.2.natAbs r.1.natAbs=1
abbrev iJ (r:Int×Int):Prop:=wa r.1/\wa r.2
theorem c7 {r:Int×Int} (h:iJ r):dH r=agc (if aW r then 0 else 8):=by
 obtain ⟨a,b⟩:=r;obtain ⟨ha,hb⟩:=h;unfold dH aW;dsimp only at ha hb ⊢
 by_cases h1:b<1
 · rw [ut (by omega)];simp [h1]
 by_cases h2:a= -9223372036854775808
 · rw [ut (by omega)];simp [h1,h2]
 have e2:(a== -9223372036854775808)=agm:=by simpa using h2
 have e3:ai .u64 b=(b.natAbs:Int):=by rw [wu];omega
 simp only [h1,decide_false,pp,e2,oi ha,ao,e3,zt];have hp:0<If b.natAbs a.natAbs:=Nat.gcd_pos_of_pos_left _ (by omega)
 by_cases h3:If b.natAbs a.natAbs=1
 · rw [rc ⟨by omega,h2,h3⟩,h3];rfl
 rw [ut (fun h=>h3 h.2.2)]
 have:agq (1<(If b.natAbs a.natAbs:Int))=age:=by simp;omega
 rw [this];rfl
theorem lC {r:Int×Int} (h:iJ r):jR r=agc (if aW r then 0 else 8):=by
 obtain ⟨a,b⟩:=r;obtain ⟨ha,hb⟩:=h;unfold jR aW;dsimp only at ha hb ⊢
 by_cases h1:b<1
 · rw [ut (by omega)];simp [h1]
 by_cases h2:a= -9223372036854775808
 · rw [ut (by omega)];simp [h1,h2]
 have e2:(a== -9223372036854775808)=agm:=by simpa using h2
 have e3:ai .u64 b=(b.natAbs:Int):=by rw [wu];omega
 simp only [h1,decide_false,pp,e2,jg ha,ao,e3,oZ];rw [aaq]
 by_cases h3:If b.natAbs a.natAbs=1
 · rw [rc ⟨by omega,h2,h3⟩,h3];rfl
 rw [ut (fun h=>h3 h.2.2)]
 have:((If b.natAbs a.natAbs:Int) !=1)=age:=by simp;omega
 rw [this];rfl
theorem S3 (x y:Int) (hx:S0 x) (hy:S0 y): ∃p q r s:Int,0<=p/\p<=18446744065119617025/\0<=q/\q<=18446744065119617025/\0<=r/\r<=18446744065119617025/\0<=s/\s<=18446744065119617025/\
 x / 4294967296*(y / 4294967296)=p/\x / 4294967296*(y%4294967296)=q/\x%4294967296*(y / 4294967296)=r/\x%4294967296*(y%4294967296)=s/\
 x*y=p*18446744073709551616+(q+r)*4294967296+s:=by
 have Qs:0<=x / 4294967296/\x / 4294967296<=4294967295:=by omega
 have JJ:0<=x%4294967296/\x%4294967296<=4294967295:=by omega
 have hy1:0<=y / 4294967296/\y / 4294967296<=4294967295:=by omega
 have PA:0<=y%4294967296/\y%4294967296<=4294967295:=by omega
 have ex:x=x / 4294967296*4294967296+x%4294967296:=by omega
 have ey:y=y / 4294967296*4294967296+y%4294967296:=by omega
 generalize x / 4294967296=a at*;generalize x%4294967296=b at*;generalize y / 4294967296=c at*;generalize y%4294967296=d at*;have bd: ∀{u v:Int},0<=u/\u<=4294967295->0<=v/\v<=4294967295->0<=u*v/\u*v<=18446744065119617025:=by
  intro u v hu hv;refine ⟨abg hu.1 hv.1,?_⟩
  calc u*v<=4294967295*4294967295:=aaA hu.2 hv.2 hv.1 (by decide)
   _=_:=by decide
 refine ⟨a*c,a*d,b*c,b*d,(bd Qs hy1).1,(bd Qs hy1).2,(bd Qs PA).1,(bd Qs PA).2,(bd JJ hy1).1,(bd JJ hy1).2,(bd JJ PA).1,(bd JJ PA).2,rfl,rfl,rfl,rfl,?_⟩;rw [ex,ey]
 grind
theorem Fw {x y:Int} (hx:S0 x) (hy:S0 y):gC x y=agc (x*y / 18446744073709551616,x*y%18446744073709551616):=by
 unfold gC;obtain ⟨p,q,r,s,p0,p1,q0,q1,r0,r1,s0,s1,ep,eq,er,es,exy⟩:=S3 x y hx hy;have key: ∀z:Int,Dq .u64 (z%18446744073709551616) 4294967295=z%18446744073709551616%4294967296:=fun z=>Mu (by constructor<;>omega)
 simp only [agy,Mu hx,Mu hy,wu,key,ep,eq,er,es,exy,EQ,aai,and_true];clear ep eq er es exy key hx hy;have e1:s%18446744073709551616=s:=by omega
 have e2:(q+s / 4294967296)%18446744073709551616=q+s / 4294967296:=by omega
 have ep:p%18446744073709551616=p:=by omega
 have eq:q%18446744073709551616=q:=by omega
 have er:r%18446744073709551616=r:=by omega
 rw [e1,ep,eq,er,e2];have e3:s=s / 4294967296*4294967296+s%4294967296:=by omega
 have e4:q+s / 4294967296=(q+s / 4294967296) / 4294967296*4294967296+(q+s / 4294967296)%4294967296:=by omega
 have b1:0<=s%4294967296/\s%4294967296<4294967296:=by omega
 have b2:0<=(q+s / 4294967296)%4294967296/\(q+s / 4294967296)%4294967296<4294967296:=by omega
 have b3:0<=(q+s / 4294967296) / 4294967296/\(q+s / 4294967296) / 4294967296<=4294967295:=by omega
 have b4:0<=s / 4294967296/\s / 4294967296<=4294967295:=by omega
 generalize (q+s / 4294967296) / 4294967296=t1 at*;generalize (q+s / 4294967296)%4294967296=t0 at*;generalize s / 4294967296=c1 at*;generalize s%4294967296=c0 at*;clear e1 e2;have e5:(t0+r)%18446744073709551616=t0+r:=by omega
 rw [e5];have e6:t0+r=(t0+r) / 4294967296*4294967296+(t0+r)%4294967296:=by omega
 have b5:0<=(t0+r)%4294967296/\(t0+r)%4294967296<4294967296:=by omega
 have b6:0<=(t0+r) / 4294967296/\(t0+r) / 4294967296<=4294967295:=by omega
 generalize (t0+r) / 4294967296=u1 at*;generalize (t0+r)%4294967296=u0 at*;omega
theorem Mv {x y:Int} (hx:S0 x) (hy:S0 y):pz x y=agc (agm,x*y / 18446744073709551616,x*y%18446744073709551616):=by
 unfold pz;obtain ⟨p,q,r,s,p0,p1,q0,q1,r0,r1,s0,s1,ep,eq,er,es,exy⟩:=S3 x y hx hy;have t1: ∀a:Int,0<=a->aa6 a 4294967296=a / 4294967296:=fun a h=>aaE h
 have t2: ∀a:Int,0<=a->Int.tmod a 4294967296=a%4294967296:=fun a h=>Int.tmod_eq_emod_of_nonneg h
 simp only [wu];rw [t1 x hx.1,t1 y hy.1,t2 x hx.1,t2 y hy.1];have f1:x / 4294967296%18446744073709551616=x / 4294967296:=by omega
 have f2:y / 4294967296%18446744073709551616=y / 4294967296:=by omega
 simp only [f1,f2,ep,eq,er,es];have g: ∀a:Int,aa6 (a%18446744073709551616) 4294967296=a%18446744073709551616 / 4294967296:=fun a=>t1 _ (by omega)
 have g2: ∀a:Int,Int.tmod (a%18446744073709551616) 4294967296=a%18446744073709551616%4294967296:=fun a=>t2 _ (by omega)
 simp only [g,g2,exy,EQ,aai,true_and];constructor<;>omega
abbrev B64 (a:Bool×Int×Int):Prop:=S0 a.2.1/\S0 a.2.2
theorem yP {n:Int} (h:wa n):S0 (n.natAbs:Int):=by constructor<;>omega
theorem yQ {n:Int} (h:wa n):(n.natAbs:Int)<=9223372036854775808:=by omega
theorem Bm (a b:Int):((a.natAbs:Int)*(b.natAbs:Int))=((a*b).natAbs:Int):=by rw [Int.natAbs_mul];rfl
theorem sg {a b:Int} (ha:wa a) (hb:wa b):((a*b).natAbs:Int)<=85070591730234615865843651857942052864:=by
 rw [<- Bm]
 calc (a.natAbs:Int)*(b.natAbs:Int)<=9223372036854775808*9223372036854775808:=aaA (yQ ha) (yQ hb) (by omega) (by decide)
  _=_:=by decide
theorem wb {a b:Int} (ha:wa a) (hb:wa b):
 jf a b=agc (agq (a*b<0),((a*b).natAbs:Int) / 18446744073709551616,((a*b).natAbs:Int)%18446744073709551616):=by
 unfold jf;simp only [jg ha,jg hb,ao,Mv (yP ha) (yP hb),Bm];have hs:(a*b<0)↔((a<0/\0<b)\/(0<a/\b<0)):=by
  constructor
  · intro h
    rcases aaV a 0 with h1|h1|h1
    · rcases aaV b 0 with h2|h2|h2
      · have:=Int.mul_pos_of_neg_of_neg h1 h2;omega
      · subst h2;simp at h
      exact .inl ⟨h1,h2⟩
    · subst h1;simp at h
    rcases aaV b 0 with h2|h2|h2
    · exact .inr ⟨h1,h2⟩
    · subst h2;simp at h
    have:=Int.mul_pos h1 h2;omega
  rintro (⟨h1,h2⟩|⟨h1,h2⟩)
  · exact aam h1 h2
  exact Int.mul_neg_of_pos_of_neg h1 h2
 have hd:agq (a*b<0)=agq ((a<0/\0<b)\/(0<a/\b<0)):=by simp only [hs]
 rw [hd];clear hd hs;generalize ((a*b).natAbs:Int)=z
 by_cases h1:a<0
 · have Lj: ¬0<a:=by omega
   have aj8:(a !=0)=age:=dN (by omega)
   by_cases h2:b<0
   · have Pp: ¬0<b:=by omega
     simp [h1,h2,Lj,Pp]
   by_cases h3:b=0
   · simp [h1,h3,aj8]
   have h3':0<b:=by omega
   simp [h1,h2,h3',aj8,dN h3]
 by_cases h0:a=0
 · subst h0
   by_cases h2:b<0<;>simp [h2]
 have Lj:0<a:=by omega
 by_cases h2:b<0
 · have Pp:(b !=0)=age:=dN (by omega)
   simp [h1,h2,Lj,dN h0,Pp]
 simp [h1,h2,Lj]
theorem Kq {a b:Int} (ha:wa a) (hb:wa b):
 pR a b=agc (!(agq (a<0)==agq (b<0)),((a*b).natAbs:Int) / 18446744073709551616,((a*b).natAbs:Int)%18446744073709551616):=by
 unfold pR;simp only [oi ha,oi hb,ao,Fw (yP ha) (yP hb),Bm]
def iH (a b:Int):Int:=if a<b then -1 else if b<a then 1 else 0
theorem zu (a b:Int):iT a b=agc (iH a b):=by
 unfold iT mC iH
 by_cases h1:a<b<;>by_cases h2:b<a<;>simp [h1,h2]
theorem Gu (a b:Int):ic a b=agc (iH a b):=by
 unfold ic lO iH
 by_cases h1:a<b<;>by_cases h2:b<a<;>simp [h1,h2]
theorem iu (a b:Int):dm a b=agc (iH a b):=by
 unfold dm cmp_isNaN_int iH
 by_cases h1:a<b<;>by_cases h2:b<a<;>simp [h1,h2]
theorem cN (a b:Int):(a<b/\iH a b= -1)\/(a=b/\iH a b=0)\/(b<a/\iH a b=1):=by
 unfold iH
 by_cases h1:a<b
 · exact .inl ⟨h1,by rw [rc h1]⟩
 by_cases h2:b<a
 · exact .inr (.inr ⟨h2,by rw [ut h1,rc h2]⟩)
 exact .inr (.inl ⟨by omega,by rw [ut h1,ut h2]⟩)
theorem Iz (a b:Bool×Int×Int) (ha:B64 a) (hb:B64 b):oP a b=agc (iH (a.2.1*18446744073709551616+a.2.2) (b.2.1*18446744073709551616+b.2.2)):=by
 obtain ⟨s,ah,al⟩:=a;obtain ⟨t,bh,bl⟩:=b;obtain ⟨⟨a1,a2⟩,a3,a4⟩:=ha;obtain ⟨⟨b1,b2⟩,b3,b4⟩:=hb;dsimp only at*;unfold oP iH;dsimp only
 by_cases h1:ah=bh
 · subst h1
   by_cases h2:al=bl
   · subst h2;simp
   by_cases h3:al<bl
   · simp [dN h2,h3]
   rw [ut (by omega),rc (by omega)];simp [dN h2,h3]
 by_cases h3:ah<bh
 · rw [rc (by omega)];simp [dN h1,h3]
 rw [ut (by omega),rc (by omega)];simp [dN h1,h3]
theorem Mw (a b:Bool×Int×Int) (ha:B64 a) (hb:B64 b):pj a b=agc (iH (a.2.1*18446744073709551616+a.2.2) (b.2.1*18446744073709551616+b.2.2)):=by
 obtain ⟨s,ah,al⟩:=a;obtain ⟨t,bh,bl⟩:=b;obtain ⟨⟨a1,a2⟩,a3,a4⟩:=ha;obtain ⟨⟨b1,b2⟩,b3,b4⟩:=hb;dsimp only at*;unfold pj;simp only [Gu,ao];unfold iH
 by_cases h1:ah=bh
 · subst h1
   by_cases h3:al<bl
   · simp [h3]
   by_cases h2:bl<al
   · rw [ut (show¬(ah*18446744073709551616+al<ah*18446744073709551616+bl) by omega),rc (show ah*18446744073709551616+bl<ah*18446744073709551616+al by omega)];simp [h2,h3]
   have:al=bl:=by omega
   subst this;simp
 by_cases h3:ah<bh
 · rw [rc (show ah*18446744073709551616+al<bh*18446744073709551616+bl by omega)];simp [h3]
 rw [ut (show¬(ah*18446744073709551616+al<bh*18446744073709551616+bl) by omega),rc (show bh*18446744073709551616+bl<ah*18446744073709551616+al by omega)];simp [h3,show bh<ah by omega]
theorem tf (a:Bool) {n:Int} (h0:0<=n) (h:n<=85070591730234615865843651857942052864):B64 (a,n / 18446744073709551616,n%18446744073709551616):=by constructor<;>constructor<;>dsimp only<;>omega
theorem IA {n:Int} (h:(n.natAbs:Int)<=85070591730234615865843651857942052864):jY (agq (n<0),(n.natAbs:Int) / 18446744073709551616,(n.natAbs:Int)%18446744073709551616)=agc (iH n 0):=by
 unfold jY iH;dsimp only
 by_cases h0:n=0
 · subst h0;simp
 by_cases h1:n<0
 · rw [rc h1]
   by_cases h2:(n.natAbs:Int) / 18446744073709551616=0
   · have h3: ¬((n.natAbs:Int)%18446744073709551616=0):=by omega
     simp [h1,h2,eD h3]
   simp [h1,eD h2]
 rw [ut h1,rc (by omega)]
 by_cases h2:(n.natAbs:Int) / 18446744073709551616=0
 · have h3: ¬((n.natAbs:Int)%18446744073709551616=0):=by omega
   simp [h1,h2,eD h3]
 simp [h1,eD h2]
def dC (a b:Int×Int):Int:=iH (a.1*b.2) (b.1*a.2)
theorem wc {a b:Int×Int} (ha:iJ a) (hb:iJ b):kD a b=agc (dC a b):=by
 unfold kD dC;have n1:=sg ha.1 hb.2;have n2:=sg hb.1 ha.2;simp only [wb ha.1 hb.2,wb hb.1 ha.2,ao,IA n1,IA n2];generalize a.1*b.2=x at*;generalize b.1*a.2=y at*;rw [Iz _ _ (tf _ (by omega) n1) (tf _ (by omega) n2),Iz _ _ (tf _ (by omega) n2) (tf _ (by omega) n1)];have ex:((x.natAbs:Int) / 18446744073709551616)*18446744073709551616+(x.natAbs:Int)%18446744073709551616=(x.natAbs:Int):=by omega
 have ey:((y.natAbs:Int) / 18446744073709551616)*18446744073709551616+(y.natAbs:Int)%18446744073709551616=(y.natAbs:Int):=by omega
 simp only [ex,ey,ao];rcases cN x 0 with ⟨h1,e1⟩|⟨h1,e1⟩|⟨h1,e1⟩<;>rcases cN y 0 with ⟨h2,e2⟩|⟨h2,e2⟩|⟨h2,e2⟩<;>rw [e1,e2]<;>simp<;>
  unfold iH<;>(repeat' split)<;>first|rfl|omega
theorem ZH {a b:Int×Int} (ha:iJ a) (hb:iJ b):vM a b=agc (if aW a/\aW b then 0 else 8):=by
 unfold vM;simp only [c7 ha,c7 hb,ao]
 by_cases h1:aW a<;>by_cases h2:aW b<;>simp [h1,h2]
theorem Cw {a b:Int×Int} (ha:iJ a) (hb:iJ b):ng a b=agc (if aW a/\aW b then (dC a b,0) else (0,8)):=by
 unfold ng;rw [ZH ha hb]
 by_cases h:aW a/\aW b
 · rw [rc h,rc h]
   obtain ⟨⟨a1,a2,a3⟩,b1,b2,b3⟩:=h;have n1:=sg ha.1 hb.2;have n2:=sg hb.1 ha.2;simp only [ao,zu,Kq ha.1 hb.2,Kq hb.1 ha.2];rw [Mw _ _ (tf _ (by omega) n1) (tf _ (by omega) n2)];have ex:((a.1*b.2).natAbs:Int) / 18446744073709551616*18446744073709551616+((a.1*b.2).natAbs:Int)%18446744073709551616=((a.1*b.2).natAbs:Int):=by omega
   have ey:((b.1*a.2).natAbs:Int) / 18446744073709551616*18446744073709551616+((b.1*a.2).natAbs:Int)%18446744073709551616=((b.1*a.2).natAbs:Int):=by omega
   simp only [ex,ey,ao];unfold dC;have s1:(a.1<0↔a.1*b.2<0):=by
    constructor
    · intro h;exact aam h (by omega)
    intro h;rcases lt_or_ge a.1 0 with h1|h1
    · exact h1
    have:=abg h1 (show 0<=b.2 by omega);omega
   have s2:(b.1<0↔b.1*a.2<0):=by
    constructor
    · intro h;exact aam h (by omega)
    intro h;rcases lt_or_ge b.1 0 with h1|h1
    · exact h1
    have:=abg h1 (show 0<=a.2 by omega);omega
   generalize a.1*b.2=x at*;generalize b.1*a.2=y at*
   by_cases h1:a.1<0<;>by_cases h2:b.1<0
   · have h3:=s1.1 h1;have h4:=s2.1 h2
     have:ai .i64 (-iH (x.natAbs:Int) (y.natAbs:Int))=iH x y:=by rw [wi];unfold iH;(repeat' split)<;>omega
     simp [h1,h2,this]
   · have h3:=s1.1 h1;have h4: ¬y<0:=fun h=>h2 (s2.2 h)
     have:iH a.1 b.1=iH x y:=by unfold iH;(repeat' split)<;>omega
     simp [h1,h2,this]
   · have h3: ¬x<0:=fun h=>h1 (s1.2 h);have h4:=s2.1 h2
     have:iH a.1 b.1=iH x y:=by unfold iH;(repeat' split)<;>omega
     simp [h1,h2,this]
   have h3: ¬x<0:=fun h=>h1 (s1.2 h);have h4: ¬y<0:=fun h=>h2 (s2.2 h)
   have:iH (x.natAbs:Int) (y.natAbs:Int)=iH x y:=by unfold iH;(repeat' split)<;>omega
   simp [h1,h2,this]
 rw [ut h,ut h];rfl
abbrev Pt:=Int×Int×Int
def fh (p:Pt):Prop:=0<=p.1/\p.1<=65535/\ -1048576<=p.2.1/\p.2.1<=1048576/\ -1048576<=p.2.2/\p.2.2<=1048576
theorem wQ (p:Pt):lN p=agc (if fh p then 0 else 8):=by
 obtain ⟨i,a,b⟩:=p;unfold lN nP fh;dsimp only
 by_cases h1:i<0
 · rw [ut (by omega)];simp [h1]
 by_cases h2:65535<i
 · rw [ut (by omega)];simp [h1,h2]
 by_cases h3:a< -1048576
 · rw [ut (by omega)];simp [h1,h2,h3]
 by_cases h4:1048576<a
 · rw [ut (by omega)];simp [h1,h2,h3,h4]
 by_cases h5:b< -1048576
 · rw [ut (by omega)];simp [h1,h2,h3,h4,h5]
 by_cases h6:1048576<b
 · rw [ut (by omega)];simp [h1,h2,h3,h4,h5,h6]
 rw [rc (by omega)];simp [h1,h2,h3,h4,h5,h6]
theorem Fx (p:Pt):s4 p=agc (if fh p then 0 else 8):=by
 obtain ⟨i,a,b⟩:=p;unfold s4 fh;dsimp only
 by_cases h1:i<0
 · rw [ut (by omega)];simp [h1]
 by_cases h2:65535<i
 · rw [ut (by omega)];simp [h1,h2]
 by_cases h3:a< -1048576
 · rw [ut (by omega)];simp [h1,h2,h3]
 by_cases h4:1048576<a
 · rw [ut (by omega)];simp [h1,h2,h3,h4]
 by_cases h5:b< -1048576
 · rw [ut (by omega)];simp [h1,h2,h3,h4,h5]
 by_cases h6:1048576<b
 · rw [ut (by omega)];simp [h1,h2,h3,h4,h5,h6]
 rw [rc (by omega)];simp [h1,h2,h3,h4,h5,h6]
theorem uO {x y:Int} (hx:wa x) (hy:wa y): -85070591730234615865843651857942052864<=x*y/\x*y<=85070591730234615865843651857942052864:=by have:=sg hx hy;omega
theorem aa' {x y:Int} (hx:wa x) (hy:wa y):(x%18446744073709551616)*(y%18446744073709551616)=x*y+(if x<0 then y else 0)*18446744073709551616+(if y<0 then x else 0)*18446744073709551616+(if x<0/\y<0 then 340282366920938463463374607431768211456 else 0):=by
 by_cases h1:x<0<;>by_cases h2:y<0
 · have e1:x%18446744073709551616=x+18446744073709551616:=by omega
   have e2:y%18446744073709551616=y+18446744073709551616:=by omega
   rw [e1,e2,rc h1,rc h2,rc ⟨h1,h2⟩];grind
 · have e1:x%18446744073709551616=x+18446744073709551616:=by omega
   have e2:y%18446744073709551616=y:=by omega
   rw [e1,e2,rc h1,ut h2,ut (fun h=>h2 h.2)];grind
 · have e1:x%18446744073709551616=x:=by omega
   have e2:y%18446744073709551616=y+18446744073709551616:=by omega
   rw [e1,e2,ut h1,rc h2,ut (fun h=>h1 h.1)];grind
 have e1:x%18446744073709551616=x:=by omega
 have e2:y%18446744073709551616=y:=by omega
 rw [e1,e2,ut h1,ut h2,ut (fun h=>h1 h.1)];grind
theorem Kr {a b:Int} (ha:0<=a) (hb:0<=b):oI a b 0=agc ((a+b)%18446744073709551616,(a+b) / 18446744073709551616):=by unfold oI;simp [ha,hb]
theorem S4 {a b c d u v:Int} (ha:wa a) (hb:wa b):mj (a,b,c,d,0,u,v,0,0)=agc (.next (a,b,c,d,1,u,v,a*b / 18446744073709551616,a*b%18446744073709551616)):=by
 unfold mj;have hm:=Fw (x:=ai .u64 a) (y:=ai .u64 b) (by rw [wu];constructor<;>omega) (by rw [wu];constructor<;>omega);have TW:=uO ha hb;have hu:=aa' ha hb;simp only [hm,ao];simp only [wu,hu];generalize a*b=x at*
 by_cases h1:a<0<;>by_cases h2:b<0
 all_goals
  simp only [h1,h2,decide_true,decide_false,lw,pp,if_true,if_false,and_self,and_false,false_and];rw [Kr (by omega) (by omega)];simp only [wi,ao,show agq ((0:Int)<2)=age from rfl,lw,show ((0:Int)==0)=age from rfl,EQ,Step.next.injEq,aai,true_and];refine ⟨by omega,?_,?_⟩<;>omega
theorem S5 {a b c d u v h l:Int} (hc:wa c) (hd:wa d) (hl:S0 l)
 (_hh: -9223372036854775808<=h/\h<9223372036854775808) (hs: -170141183460469231731687303715884105728<=h*18446744073709551616+l+c*d/\h*18446744073709551616+l+c*d<170141183460469231731687303715884105728):
 mj (a,b,c,d,1,u,v,h,l)=agc (.next (a,b,c,d,2,u,v,(h*18446744073709551616+l+c*d) / 18446744073709551616,(h*18446744073709551616+l+c*d)%18446744073709551616)):=by
 unfold mj;have hm:=Fw (x:=ai .u64 c) (y:=ai .u64 d) (by rw [wu];constructor<;>omega) (by rw [wu];constructor<;>omega);have TW:=uO hc hd;have hu:=aa' hc hd;simp only [hm,ao];simp only [wu,hu];generalize c*d=x at*
 by_cases h1:c<0<;>by_cases h2:d<0
 all_goals
  simp only [h1,h2,decide_true,decide_false,lw,pp,if_true,if_false,and_self,and_false,false_and];rw [Kr (by omega) (by omega)];simp only [wi,ao,show agq ((1:Int)<2)=age from rfl,lw,pp,show ((1:Int)==0)=agm from rfl,show ((1:Int)==1)=age from rfl,EQ,Step.next.injEq,aai,true_and];refine ⟨by omega,?_,?_⟩<;>omega
theorem Gv {a b c d:Int} (ha:wa a) (hb:wa b) (hc:wa c) (hd:wa d) (hs: -170141183460469231731687303715884105728<=a*b+c*d/\a*b+c*d<170141183460469231731687303715884105728):
 vO (a,b,c,d)=agc ((a*b+c*d) / 18446744073709551616,(a*b+c*d)%18446744073709551616):=by
 unfold vO;dsimp only;have TW:=uO ha hb;have e:a*b / 18446744073709551616*18446744073709551616+a*b%18446744073709551616+c*d=a*b+c*d:=by omega
 rw [aQ (S4 ha hb),aQ (S5 hc hd (by constructor<;>omega) (by constructor<;>omega) (by rw [e];exact hs)),e];exact aC rfl
def wR (p q:Pt) (t:Int×Int):Int:=(p.2.1-q.2.1)*t.2+(p.2.2-q.2.2)*t.1
def leads (p q:Pt) (t:Int×Int):Prop:=0<wR p q t\/(wR p q t=0/\(q.2.2<p.2.2\/(p.2.2=q.2.2/\p.1<q.1)))
def Mx (p q:Pt) (t:Int×Int):Int:=if wR p q t<0 then -1 else if 0<wR p q t then 1 else if p.2.2<q.2.2 then -1 else if q.2.2<p.2.2 then 1 else iH q.1 p.1
theorem Fy (p q:Pt) (t:Int×Int):0<Mx p q t↔leads p q t:=by
 unfold Mx leads
 by_cases h1:wR p q t<0
 · rw [rc h1];omega
 by_cases h2:0<wR p q t
 · rw [ut h1,rc h2];simp [h2]
 rw [ut h1,ut h2]
 by_cases h3:p.2.2<q.2.2
 · rw [rc h3];omega
 by_cases h4:q.2.2<p.2.2
 · rw [ut h3,rc h4];omega
 rw [ut h3,ut h4]
 rcases cN q.1 p.1 with ⟨h,e⟩|⟨h,e⟩|⟨h,e⟩<;>rw [e]<;>omega
theorem yR (a b:Int):lh [a,b]=agc (if a≠0 then a else b):=by
 unfold lh
 by_cases h1:a=0
 · subst h1
   rw [aQ (y:=(0,[0,b],2,1)) (by rfl)]
   by_cases h2:b=0
   · subst h2
     rw [aQ (y:=(0,[0,0],2,2)) (by rfl)];exact aC rfl
   refine (aC (r:=b) ?_).trans (by simp)
   have e:tK (0,[0,b],2,1)=(bif b !=0 then agc (.done b) else agc (.next (0,[0,b],2,ai .i64 (1+1)))):=rfl;rw [e,dN h2];rfl
 refine (aC (r:=a) ?_).trans (by simp [h1])
 have e:tK (0,[a,b],AC [a,b].length,0)=(bif a !=0 then agc (.done a) else agc (.next (0,[a,b],AC [a,b].length,ai .i64 (0+1)))):=rfl;rw [e,dN h1];rfl
theorem S6 {p q:Pt} {t:Int×Int} (hp:fh p) (hq:fh q) (ht:iJ t):wa (p.2.1-q.2.1)/\wa (p.2.2-q.2.2)/\ -170141183460469231731687303715884105728<=wR p q t/\wR p q t<170141183460469231731687303715884105728:=by
 obtain ⟨a1,a2,a3,a4,a5,a6⟩:=hp;obtain ⟨b1,b2,b3,b4,b5,b6⟩:=hq;have h1:wa (p.2.1-q.2.1):=by constructor<;>omega
 have h2:wa (p.2.2-q.2.2):=by constructor<;>omega
 refine ⟨h1,h2,?_⟩;have k: ∀{x y:Int},-2097152<=x/\x<=2097152->wa y-> -19342813113834066795298816<=x*y/\x*y<=19342813113834066795298816:=by
  intro x y hx hy;have:((x*y).natAbs:Int)<=2097152*9223372036854775808:=by rw [<- Bm];exact aaA (by omega) (yQ hy) (by omega) (by decide)
  omega
 have k1:=k (x:=p.2.1-q.2.1) (by omega) ht.2;have k2:=k (x:=p.2.2-q.2.2) (by omega) ht.1;unfold wR;omega
theorem tg {p q:Pt} {t:Int×Int} (hp:fh p) (hq:fh q) (ht:iJ t):lr p q t=agc (Mx p q t):=by
 obtain ⟨g1,g2,g3⟩:=S6 hp hq ht;unfold lr;rw [Bl g1,Bl g2,Gv g1 ht.2 g2 ht.1 g3];simp only [ao,zu,iu,yR];rw [show (p.2.1-q.2.1)*t.2+(p.2.2-q.2.2)*t.1=wR p q t from rfl];unfold Mx;generalize wR p q t=n at*
 by_cases h1:n<0
 · have e1:(n / 18446744073709551616==0)=agm:=by simp;omega
   have e2:agq (n / 18446744073709551616<0)=age:=by simp;omega
   rw [rc h1];simp [e1,e2]
 by_cases h2:0<n
 · have e1:((n / 18446744073709551616==0)&&(n%18446744073709551616==0))=agm:=by simp;omega
   have e2:agq (n / 18446744073709551616<0)=agm:=by simp;omega
   rw [ut h1,rc h2];simp only [e1,e2,IR,lw,pp]
 have:n=0:=by omega
 subst this;rw [ut h1,ut h2];unfold iH
 by_cases h3:p.2.2<q.2.2
 · simp [h3]
 by_cases h4:q.2.2<p.2.2
 · simp [h3,h4]
 simp [h3,h4]
theorem ZI {x y:Int} (hx: -85070591730234615865843651857942052864<=x/\x<=85070591730234615865843651857942052864) (hy: -85070591730234615865843651857942052864<=y/\y<=85070591730234615865843651857942052864):
 vR (agq (x<0),(x.natAbs:Int) / 18446744073709551616,(x.natAbs:Int)%18446744073709551616) (agq (y<0),(y.natAbs:Int) / 18446744073709551616,(y.natAbs:Int)%18446744073709551616)=
  agc (agq (x+y<0),((x+y).natAbs:Int) / 18446744073709551616,((x+y).natAbs:Int)%18446744073709551616):=by
 have n1:(x.natAbs:Int)<=85070591730234615865843651857942052864:=by omega
 have n2:(y.natAbs:Int)<=85070591730234615865843651857942052864:=by omega
 unfold vR;rw [Iz _ _ (tf _ (by omega) n1) (tf _ (by omega) n2)];have ex:((x.natAbs:Int) / 18446744073709551616)*18446744073709551616+(x.natAbs:Int)%18446744073709551616=(x.natAbs:Int):=by omega
 have ey:((y.natAbs:Int) / 18446744073709551616)*18446744073709551616+(y.natAbs:Int)%18446744073709551616=(y.natAbs:Int):=by omega
 simp only [ex,ey,ao];have same: ∀{X Y Z:Int},0<=X->0<=Y->X<=85070591730234615865843651857942052864->Y<=85070591730234615865843651857942052864->Z=X+Y-> ∀b:Bool,
  (bif agq (ai .u64 (X%18446744073709551616+Y%18446744073709551616)<X%18446744073709551616) then agc (b,ai .u64 (ai .u64 (X / 18446744073709551616+Y / 18446744073709551616)+1),ai .u64 (X%18446744073709551616+Y%18446744073709551616))
   else agc (b,ai .u64 (X / 18446744073709551616+Y / 18446744073709551616),ai .u64 (X%18446744073709551616+Y%18446744073709551616)))=agc (b,Z / 18446744073709551616,Z%18446744073709551616):=by
  intro X Y Z h1 h2 h3 h4 h5 b;subst h5;simp only [wu]
  by_cases h:(X%18446744073709551616+Y%18446744073709551616)%18446744073709551616<X%18446744073709551616
  · simp only [h,decide_true,lw,EQ,aai,true_and];constructor<;>omega
  simp only [h,decide_false,pp,EQ,aai,true_and];constructor<;>omega
 have minus: ∀{X Y Z:Int} (b c:Bool),0<=X->0<=Y->X<=85070591730234615865843651857942052864->Y<=X->Z=X-Y->qd (b,X / 18446744073709551616,X%18446744073709551616) (c,Y / 18446744073709551616,Y%18446744073709551616)=agc (agm,Z / 18446744073709551616,Z%18446744073709551616):=by
  intro X Y Z b c h1 h2 h3 h4 h5;subst h5;unfold qd;simp only [wu]
  by_cases h:X%18446744073709551616<Y%18446744073709551616
  · simp only [h,decide_true,lw,EQ,aai,true_and];constructor<;>omega
  simp only [h,decide_false,pp,EQ,aai,true_and];constructor<;>omega
 by_cases h1:x<0<;>by_cases h2:y<0
 · have h3:x+y<0:=by omega
   simp only [h1,h2,h3,decide_true,beq_self_eq_true,lw];exact same (by omega) (by omega) n1 n2 (by omega) age
 · simp only [h1,h2,decide_true,decide_false,show (age==agm)=agm from rfl,pp,lw]
   by_cases h3:(y.natAbs:Int)<=(x.natAbs:Int)
   · have e:agq (0<=iH (x.natAbs:Int) (y.natAbs:Int))=age:=by
      rcases cN (x.natAbs:Int) (y.natAbs:Int) with ⟨h,e⟩|⟨h,e⟩|⟨h,e⟩<;>rw [e]<;>first|rfl|omega
     rw [e,minus (Z:=((x+y).natAbs:Int)) _ _ (by omega) (by omega) n1 h3 (by omega)];simp only [lw,ao]
     by_cases h4:x+y=0
     · rw [h4];rfl
     have h5:x+y<0:=by omega
     by_cases h6:0<((x+y).natAbs:Int) / 18446744073709551616
     · simp [h5,h6]
     have h7:0<((x+y).natAbs:Int)%18446744073709551616:=by omega
     simp only [h5,h6,h7,decide_true,decide_false,pp]
   have e:agq (0<=iH (x.natAbs:Int) (y.natAbs:Int))=agm:=by
    rcases cN (x.natAbs:Int) (y.natAbs:Int) with ⟨h,e⟩|⟨h,e⟩|⟨h,e⟩<;>rw [e]<;>first|rfl|omega
   rw [e,minus (Z:=((x+y).natAbs:Int)) _ _ (by omega) (by omega) n2 (by omega) (by omega)];have h5: ¬(x+y<0):=by omega
   simp [h5]
 · simp only [h1,h2,decide_true,decide_false,show (agm==age)=agm from rfl,pp]
   by_cases h3:(y.natAbs:Int)<=(x.natAbs:Int)
   · have e:agq (0<=iH (x.natAbs:Int) (y.natAbs:Int))=age:=by
      rcases cN (x.natAbs:Int) (y.natAbs:Int) with ⟨h,e⟩|⟨h,e⟩|⟨h,e⟩<;>rw [e]<;>first|rfl|omega
     rw [e,minus (Z:=((x+y).natAbs:Int)) _ _ (by omega) (by omega) n1 h3 (by omega)];have h5: ¬(x+y<0):=by omega
     simp [h5]
   have e:agq (0<=iH (x.natAbs:Int) (y.natAbs:Int))=agm:=by
    rcases cN (x.natAbs:Int) (y.natAbs:Int) with ⟨h,e⟩|⟨h,e⟩|⟨h,e⟩<;>rw [e]<;>first|rfl|omega
   rw [e,minus (Z:=((x+y).natAbs:Int)) _ _ (by omega) (by omega) n2 (by omega) (by omega)];have h5:x+y<0:=by omega
   simp [h5]
 have h3: ¬(x+y<0):=by omega
 simp only [h1,h2,h3,decide_false,beq_self_eq_true,lw];exact same (by omega) (by omega) n1 n2 (by omega) agm
theorem agz {p q:Pt} {t:Int×Int} (hp:fh p) (hq:fh q) (ht:iJ t):yM p q t=agc (iH (wR p q t) 0):=by
 obtain ⟨g1,g2,g3⟩:=S6 hp hq ht;unfold yM;rw [Bl g1,Bl g2,wb g1 ht.2,wb g2 ht.1];simp only [ao];rw [ZI (uO g1 ht.2) (uO g2 ht.1)];simp only [ao];rw [show (p.2.1-q.2.1)*t.2+(p.2.2-q.2.2)*t.1=wR p q t from rfl];obtain ⟨a1,a2,a3,a4,a5,a6⟩:=hp;obtain ⟨b1,b2,b3,b4,b5,b6⟩:=hq;have k: ∀{x y:Int},-2097152<=x/\x<=2097152->wa y-> -19342813113834066795298816<=x*y/\x*y<=19342813113834066795298816:=by
  intro x y hx hy;have:((x*y).natAbs:Int)<=2097152*9223372036854775808:=by rw [<- Bm];exact aaA (by omega) (yQ hy) (by omega) (by decide)
  omega
 have k1:=k (x:=p.2.1-q.2.1) (by omega) ht.2;have k2:=k (x:=p.2.2-q.2.2) (by omega) ht.1;have:((wR p q t).natAbs:Int)<=85070591730234615865843651857942052864:=by unfold wR;omega
 rw [IA this];rfl
theorem Fz {p q:Pt} {t:Int×Int} (hp:fh p) (hq:fh q) (ht:iJ t):nj p q t=agc (agq (leads p q t)):=by
 unfold nj leads;rw [agz hp hq ht];simp only [ao];rcases cN (wR p q t) 0 with ⟨h,e⟩|⟨h,e⟩|⟨h,e⟩<;>rw [e]
 · have h1: ¬(0<wR p q t):=by omega
   have h2: ¬(wR p q t=0):=by omega
   simp [h1,h2]
 · rw [h]
   by_cases h3:p.2.2=q.2.2
   · simp [h3]
   simp [h3,dN h3]
 simp [h]
theorem pG {p q:Pt} {t:Int×Int} (ht:iJ t):oL p q t=agc (if fh p/\fh q/\aW t then (if p.1=q.1 then 2 else 0) else 8):=by
 unfold oL;simp only [wQ,c7 ht,ao]
 by_cases h4:p.1=q.1
 · by_cases h1:fh p<;>by_cases h2:fh q<;>by_cases h3:aW t<;>simp [h1,h2,h3,h4]
 have h5:=eD h4
 by_cases h1:fh p<;>by_cases h2:fh q<;>by_cases h3:aW t<;>simp [h1,h2,h3,h4,h5]
theorem Oe {n d:Int} (hn:wa n) (hd:wa d):vL n d=lz n d:=by
 unfold vL lz
 by_cases h0:d=0
 · subst h0;rfl
 have e0:(d==0)=agm:=by simpa using h0
 simp only [e0,pp,oi hn,oi hd,jg hn,jg hd,ao,zt,oZ];have hp:0<If n.natAbs d.natAbs:=ab1 _ (by omega);have e1:((If n.natAbs d.natAbs:Int)==0)=agm:=by simp;omega
 simp only [e1,pp];unfold xT oQ;simp only [show agq ((0:Int)<0)=agm from rfl,pp]
 by_cases h3:n=0
 · subst h3
   have z: ∀k:Int,ai .u64 (aa6 (((0:Int).natAbs:Nat):Int) k)=0:=fun k=>by rw [show (((0:Int).natAbs:Nat):Int)=0 from rfl,Int.zero_tdiv];rfl
   have z2:ai .i64 0=0:=rfl;have z3:ai .i64 (0-0)=0:=rfl;simp only [z,z2,z3,show ((0:Int) !=0)=agm from rfl,pp,show agq ((0:Int)<0)=agm from rfl];cases (!(agm==agq (d<0)))<;>simp
 simp only [dN h3]
 cases (!(agq (n<0)==agq (d<0)))<;>rfl
noncomputable def met (p q:Pt):Int×Int:=((lz (p.2.1-q.2.1) (q.2.2-p.2.2)).getD ((0,0),0)).1
theorem My {n d:Int} (hn: -2097152<=n/\n<=2097152) (hd: -2097152<=d/\d<=2097152) (h0:d≠0): ∃r,lz n d=agc (r,0)/\aW r/\iJ r/\r.1*d=n*r.2:=by
 have hn':wa n:=by constructor<;>omega
 have hd':wa d:=by constructor<;>omega
 unfold lz;have e0:(d==0)=agm:=by simpa using h0
 have hp:0<If n.natAbs d.natAbs:=ab1 _ (by omega);have e1:((If n.natAbs d.natAbs:Int)==0)=agm:=by simp;omega
 simp only [e0,pp,jg hn',jg hd',ao,oZ,e1];have q1:aa6 (n.natAbs:Int) (If n.natAbs d.natAbs:Int)=((n.natAbs / If n.natAbs d.natAbs:Nat):Int):=by rw [acj]
 have q2:aa6 (d.natAbs:Int) (If n.natAbs d.natAbs:Int)=((d.natAbs / If n.natAbs d.natAbs:Nat):Int):=by rw [acj]
 rw [q1,q2];have l1:n.natAbs / If n.natAbs d.natAbs<=2097152:=adc (abK _ _) (by omega);have l2:d.natAbs / If n.natAbs d.natAbs<=2097152:=adc (abK _ _) (by omega);have l3:1<=d.natAbs / If n.natAbs d.natAbs:=Nat.div_pos (Nat.le_of_dvd (by omega) (aaX _ _)) hp;have co:If (d.natAbs / If n.natAbs d.natAbs) (n.natAbs / If n.natAbs d.natAbs)=1:=by rw [aaq,Nat.gcd_div (abx _ _) (aaX _ _)];exact Nat.div_self hp
 have v1:n.natAbs=If n.natAbs d.natAbs*(n.natAbs / If n.natAbs d.natAbs):=(abo (abx _ _)).symm;have v2:d.natAbs=If n.natAbs d.natAbs*(d.natAbs / If n.natAbs d.natAbs):=(abo (aaX _ _)).symm;have val:(n.natAbs:Int)*((d.natAbs / If n.natAbs d.natAbs:Nat):Int)=(d.natAbs:Int)*((n.natAbs / If n.natAbs d.natAbs:Nat):Int):=by
  generalize n.natAbs / If n.natAbs d.natAbs=a at*;generalize d.natAbs / If n.natAbs d.natAbs=b at*;generalize If n.natAbs d.natAbs=g at*;rw [v1,v2,abQ,abQ,acl,acl,aav (a:Int) (b:Int)]
 clear v1 v2;generalize n.natAbs / If n.natAbs d.natAbs=a at*;generalize d.natAbs / If n.natAbs d.natAbs=b at*;have w1:ai .u64 (a:Int)=a:=by rw [wu];omega
 have w2:ai .u64 (b:Int)=b:=by rw [wu];omega
 have made: ∀s:Bool,oQ s (agm,0,(a:Int)) (agm,0,(b:Int))=agc ((if s=age then -(a:Int) else a,(b:Int)),0):=by
  intro s;unfold oQ;have d1:agq (9223372036854775807<(a:Int))=agm:=by simp;omega
  have d2:agq (9223372036854775807<(b:Int))=agm:=by simp;omega
  have v1:ai .i64 (a:Int)=a:=by rw [wi];omega
  have v2:ai .i64 (b:Int)=b:=by rw [wi];omega
  have v3:ai .i64 (0- (a:Int))= -(a:Int):=by rw [wi];omega
  simp only [show agq ((0:Int)<0)=agm from rfl,pp,d1,d2,v1,v2,v3];cases s<;>simp
 have fin: ∀s:Bool,(if s=age then -(a:Int) else a)*d=n*b-> ∃r,(agc ((if s=age then -(a:Int) else a,(b:Int)),(0:Int)):Option ((Int×Int)×Int))=agc (r,0)/\aW r/\iJ r/\r.1*d=n*r.2:=by
  intro s hv;refine ⟨_,rfl,?_,?_,hv⟩
  · unfold aW
    dsimp only;refine ⟨by omega,?_,?_⟩
    · cases s
      · simp only [abt,if_false];omega
      simp only [if_true];omega
    rw [show (if s=age then -(a:Int) else (a:Int)).natAbs=a by cases s<;>simp,show ((b:Int)).natAbs=b by omega];exact co
  constructor
  · dsimp only;cases s
    · simp only [abt,if_false];constructor<;>omega
    simp only [if_true];constructor<;>omega
  dsimp only;constructor<;>omega
 simp only [w1,w2,made,ao]
 by_cases h1:(!(agq (n<0)==agq (d<0)))=age
 · rw [h1]
   refine fin (n !=0) ?_
   by_cases Qp:n=0
   · subst Qp
     have a0:(a:Int)=0:=by
      have:((d.natAbs:Nat):Int)*(a:Int)=0:=by rw [<- val];simp
      rcases Int.mul_eq_zero.1 this with h|h
      · omega
      exact h
     simp [a0]
   have e:(n !=0)=age:=by simpa using Qp
   rw [e,rc rfl]
   by_cases S7:n<0
   · have hd0: ¬d<0:=fun k=>by simp [S7,k] at h1
     have x1:(n.natAbs:Int)= -n:=by omega
     have x2:(d.natAbs:Int)=d:=by omega
     rw [x1,x2,aas] at val;rw [aas,aav];omega
   have hd0:d<0:=by
    by_cases k:d<0
    · exact k
    simp [S7,k] at h1
   have x1:(n.natAbs:Int)=n:=by omega
   have x2:(d.natAbs:Int)= -d:=by omega
   rw [x1,x2,aas] at val;rw [aas,aav];omega
 rw [ab5] at h1;rw [h1]
 refine fin agm ?_;rw [ut (by simp)]
 by_cases S7:n<0
 · have hd0:d<0:=by
    by_cases k:d<0
    · exact k
    simp [S7,k] at h1
   have x1:(n.natAbs:Int)= -n:=by omega
   have x2:(d.natAbs:Int)= -d:=by omega
   rw [x1,x2,aas,aas] at val;rw [aav];omega
 have hd0: ¬d<0:=fun k=>by simp [S7,k] at h1
 have x1:(n.natAbs:Int)=n:=by omega
 have x2:(d.natAbs:Int)=d:=by omega
 rw [x1,x2] at val;rw [aav];omega
theorem tT {p q:Pt} (hp:fh p) (hq:fh q) (h:p.2.2≠q.2.2):lz (p.2.1-q.2.1) (q.2.2-p.2.2)=agc (met p q,0)/\aW (met p q)/\iJ (met p q)/\(met p q).1*(q.2.2-p.2.2)=(p.2.1-q.2.1)*(met p q).2:=by
 obtain ⟨a1,a2,a3,a4,a5,a6⟩:=hp;obtain ⟨b1,b2,b3,b4,b5,b6⟩:=hq;obtain ⟨r,h1,h2,h3⟩:=My (n:=p.2.1-q.2.1) (d:=q.2.2-p.2.2) (by omega) (by omega) (by omega);have:met p q=r:=by unfold met;rw [h1];rfl
 rw [this];exact ⟨h1,h2,h3⟩
theorem Cx {p q:Pt} (hp:fh p) (hq:fh q):ai .i64 (p.2.1-q.2.1)=p.2.1-q.2.1/\ai .i64 (q.2.2-p.2.2)=q.2.2-p.2.2/\wa (p.2.1-q.2.1)/\wa (q.2.2-p.2.2):=by
 obtain ⟨a1,a2,a3,a4,a5,a6⟩:=hp;obtain ⟨b1,b2,b3,b4,b5,b6⟩:=hq;have h1:wa (p.2.1-q.2.1):=by constructor<;>omega
 have h2:wa (q.2.2-p.2.2):=by constructor<;>omega
 exact ⟨Bl h1,Bl h2,h1,h2⟩
noncomputable def jI (h l:Pt) (t:Int×Int):(Int×Int)×Bool:=if leads l h t then (t,age) else if h.2.2<l.2.2 then (met h l,age) else ((0,0),agm)
theorem agA {p q:Pt} (hp:fh p) (hq:fh q) (h:p.2.2≠q.2.2):yN p q=agc (met p q):=by obtain ⟨w1,w2,_,_⟩:=Cx hp hq;unfold yN;rw [w1,w2,(tT hp hq h).1];rfl
theorem Mz {h l:Pt} {t:Int×Int} (hh:fh h) (hl:fh l) (ht:iJ t):pA h l t=agc (jI h l t):=by
 unfold pA jI;rw [Fz hl hh ht];simp only [ao]
 by_cases h1:leads l h t
 · simp [h1]
 simp only [h1,decide_false,pp,if_false]
 by_cases h2:h.2.2<l.2.2
 · simp [h2,agA hh hl (by omega)]
 simp [h2]
theorem Kt:aW (0,1):=by unfold aW;decide
theorem Dx {h l:Pt} {t:Int×Int} (ht:iJ t):
 qW h l t=agc (if fh h/\fh l/\aW t/\h.1≠l.1 then ((jI h l t).1,(jI h l t).2,0) else ((0,0),agm,if fh h/\fh l/\aW t then 2 else 8)):=by
 unfold qW;rw [pG ht]
 by_cases h1:fh h/\fh l/\aW t
 · rw [rc h1]
   by_cases h2:h.1=l.1
   · simp [h1,h2]
   obtain ⟨hh,hl,hr⟩:=h1
   rw [ut h2,rc ⟨hh,hl,hr,h2⟩];simp only [ao,show ((0:Int) !=0)=agm from rfl,pp,tg hl hh ht];unfold jI
   by_cases h3:leads l h t
   · have:agq (0<Mx l h t)=age:=by simpa using (Fy l h t).2 h3
     rw [this];simp [h3]
   have:agq (0<Mx l h t)=agm:=decide_eq_false fun k=>h3 ((Fy l h t).1 k)
   rw [this,ut h3];simp only [pp]
   by_cases h4:h.2.2<l.2.2
   · have e:agq (l.2.2<=h.2.2)=agm:=by simp;omega
     rw [e,rc h4];unfold dZ;obtain ⟨w1,w2,i1,i2⟩:=Cx hh hl;have e2:(h.2.2==l.2.2)=agm:=by simp;omega
     rw [pG (by constructor<;>constructor<;>decide),rc ⟨hh,hl,Kt⟩,ut h2];simp only [ao,show ((0:Int) !=0)=agm from rfl,pp,e2,w1,w2,Oe i1 i2,(tT hh hl (by omega)).1];rfl
   have e:agq (l.2.2<=h.2.2)=age:=by simp;omega
   rw [e,ut h4];rfl
 rw [ut h1,ut (fun h=>h1 ⟨h.1,h.2.1,h.2.2.1⟩),ut h1];rfl
theorem Bn {h l:Pt} {t:Int×Int} (hh:fh h) (hl:fh l) (ht:iJ t) (hr:aW t) (h2:(jI h l t).2=age):aW (jI h l t).1/\iJ (jI h l t).1:=by
 unfold jI at*
 by_cases h3:leads l h t
 · rw [rc h3];exact ⟨hr,ht⟩
 rw [ut h3] at h2 ⊢
 by_cases h4:h.2.2<l.2.2
 · rw [rc h4];have:=(tT hh hl (by omega)).2;exact ⟨this.1,this.2.1⟩
 rw [ut h4] at h2;cases h2
theorem MA: ∀(n:Nat) (l:List Nat),l.Nodup->(∀x∈l,x<n)->agb l<=n
 |0,l,_,h=>by
  cases l with
  |nil=>simp
  |cons a l=>exact absurd (h a (by simp)) (by omega)
 |n+1,l,hd,h=>by
  have h1:=MA n (l.filter (fun x=>x≠n)) (hd.filter _) (by
   intro x hx;rw [abW] at hx;have:=h x hx.1;have h2:x≠n:=by simpa using hx.2
   omega)
  have h2:(agb l)<=(l.filter (fun x=>x≠n)).length+1:=by
   clear h1 h
   induction l with
   |nil=>simp
   |cons a l ih=>
    rw [aat] at hd;have:=ih hd.2
    by_cases ha:a=n
    · subst ha
      have e:l.filter (fun x=>decide (x≠a))=l:=by rw [List.filter_eq_self];intro x hx;simp only [ne_eq,decide_eq_true_eq];rintro rfl;exact hd.1 hx
      rw [List.filter_cons_of_neg (by simp),e];simp
    rw [List.filter_cons_of_pos (by simpa using ha)]
    simp only [abz];omega
  omega
theorem C7 {n:Nat} {l:List Nat} (hd:l.Nodup) (h: ∀x∈l,x<n) (hn:n<=agb l): ∀x,x<n->x∈l:=by
 intro x hx;refine PP fun hc=>?_
 have:=MA n (x::l) (by rw [aat];exact ⟨hc,hd⟩) (by
  intro y hy;rcases acm.1 hy with rfl|hy
  · exact hx
  exact h y hy)
 simp only [abz] at this;omega
def gR (l:List Pt):Prop:= ∀i,i+1<agb l->(l[i]!).1<(l[i+1]!).1
def bF (l:List Pt):Prop:=agb l<=64/\(∀p∈l,fh p)/\gR l
noncomputable def si (l:List Pt):Int:=if 64<(agb l) then 4 else if¬(∀p∈l,fh p) then 8 else if¬gR l then 32 else 0
theorem jT {l:List Pt}:si l=0↔bF l:=by
 unfold si bF
 by_cases h1:64<agb l
 · rw [rc h1];simp;omega
 rw [ut h1]
 by_cases h2: ∀p∈l,fh p
 · rw [ut (ww.2 h2)]
   by_cases h3:gR l
   · rw [ut (ww.2 h3)]
     exact ⟨fun _=>⟨by omega,h2,h3⟩,fun _=>rfl⟩
   rw [rc h3]
   exact ⟨fun h=>(by cases h),fun h=>absurd h.2.2 h3⟩
 rw [rc h2]
 constructor
 · intro h;cases h
 intro h;exact absurd h.2.1 h2
theorem aV {n:Nat} (h:n<1000000000):ai .i64 ((n:Int)+1)=((n+1:Nat):Int):=by rw [wi];omega
theorem we {n:Nat} (h:n<1000000000) (h1:1<=n):ai .i64 ((n:Int) -1)=((n-1:Nat):Int):=by rw [wi];omega
theorem ay (n:Nat):AC n=(n:Int):=rfl
theorem Ku (l:List Pt) (h:(agb l)<=64):aB iq (1,l)=agc (.done (if gR l then 0 else 32)):=by
 by_cases hl:(agb l)<=1
 · have:gR l:=fun i hi=>by omega
   rw [rc this];refine aC ?_;unfold iq;rw [ay];have:agq ((1:Int)<((agb l):Int))=agm:=by simp;omega
   simp [this]
 have key:=cP (body:=iq) (fun i=>(((i+1:Nat):Int),l)) (agb l-1) (fun i=>(l[i+1]!).1<=(l[i]!).1) (r:= .done 32) (e:= .done 0) (by
  intro i hi;have e1:agq (((i+1:Nat):Int)<((agb l):Int))=age:=by simp;omega
  have e2:ai .i64 (((i+1:Nat):Int) -1)=(i:Int):=by rw [wi];omega
  have hb:iq (((i+1:Nat):Int),l)=bif agq ((l[i+1]!).1<=(l[i]!).1) then agc (.done (.done 32)) else agc (.next (((i+1+1:Nat):Int),l)):=by unfold iq;simp only [ay,e1,lw,e2,aq l i (by omega),aq l (i+1) (by omega),ao,aV (show i+1<1000000000 by omega)]
  constructor
  · intro hc;rw [hb,decide_eq_true hc];rfl
  · intro hc;rw [hb,decide_eq_false hc];rfl) (by
  unfold iq;have:agq (((agb l-1+1:Nat):Int)<AC (agb l))=agm:=by rw [ay];simp;omega
  simp only [this,pp])
 by_cases hs:gR l
 · rw [rc hs]
   refine key.2 fun i hi=>?_
   have:=hs i (by omega);omega
 rw [ut hs]
 refine key.1 ?_;unfold gR at hs;simp only [M2] at hs;obtain ⟨i,hi,h2⟩:=hs;exact ⟨i,by omega,by omega⟩
theorem FA (f:Field):s5 f=agc (si f.am):=by
 unfold s5 si;rw [ay]
 by_cases h:64<agb f.am
 · have:agq ((64:Int)<((agb f.am):Int))=age:=by simp;omega
   rw [this,rc h];rfl
 have:agq ((64:Int)<((agb f.am):Int))=agm:=by simp;omega
 rw [this,ut h];simp only [pp];generalize f.am=l at*;have key:=cP (body:=ly) (fun i=>((i:Int),l)) (agb l) (fun i=> ¬fh l[i]!) (r:=8) (e:=if gR l then 0 else 32) (by
  intro i hi;have e1:agq ((i:Int)<((agb l):Int))=age:=by simp;omega
  have hb:ly ((i:Int),l)=bif (if fh l[i]! then (0:Int) else 8) !=0 then agc (.done 8) else agc (.next (((i+1:Nat):Int),l)):=by unfold ly;simp only [ay,e1,lw,aq l i (by omega),ao,Fx,aV (show i<1000000000 by omega)]
  constructor
  · intro hc;rw [hb,ut hc];rfl
  · intro hc;rw [hb,rc (ww.1 hc)];rfl) (by
  unfold ly;have:agq (((agb l):Int)<AC (agb l))=agm:=by rw [ay];simp
  simp only [this,pp];exact Ku l (by omega))
 by_cases hp: ∀p∈l,fh p
 · rw [ut (ww.2 hp)]
   refine (key.2 fun i hi=>?_).trans ?_
   · exact ww.2 (hp _ (aN hi))
   by_cases hs:gR l
   · simp [hs]
   simp [hs]
 rw [rc hp]
 refine key.1 ?_;obtain ⟨p,hp⟩:=M2.1 hp;obtain ⟨hm,h2⟩:=aar.1 hp;obtain ⟨i,hi,rfl⟩:=aP.1 hm;exact ⟨i,hi,h2⟩
theorem Kv (l:List Pt) (h:(agb l)<=64):aB ie (l,((agb l):Int),0,l)=agc (.done (if gR l then 0 else 32)):=by
 have key:=cP (body:=ie) (fun i=>(l,((agb l):Int),(i:Int),l)) (agb l) (fun i=>0<i/\(l[i]!).1<=(l[i-1]!).1) (r:= .done 32) (e:= .done 0) (by
  intro i hi;have e1:agq ((i:Int)<((agb l):Int))=age:=by simp;omega
  by_cases h0:0<i
  · have e3:agq ((0:Int)<(i:Int))=age:=by simp;omega
    have hb:ie (l,((agb l):Int),(i:Int),l)=bif agq ((l[i]!).1<=(l[i-1]!).1) then agc (.done (.done 32)) else agc (.next (l,((agb l):Int),((i+1:Nat):Int),l)):=by unfold ie;simp only [e1,e3,lw,aq l i (by omega),we (show i<1000000000 by omega) h0,aq l (i-1) (by omega),ao,aV (show i<1000000000 by omega)]
    constructor
    · intro hc;rw [hb,decide_eq_true hc.2];rfl
    intro hc
    have: ¬(l[i]!).1<=(l[i-1]!).1:=fun h=>hc ⟨h0,h⟩
    rw [hb,decide_eq_false this];rfl
  · have e3:agq ((0:Int)<(i:Int))=agm:=by simp;omega
    constructor
    · intro hc;exact absurd hc.1 h0
    intro _
    unfold ie;simp only [e1,e3,lw,pp,aq l i (by omega),ao,aV (show i<1000000000 by omega)]) (by
  unfold ie;have:agq (((agb l):Int)<((agb l):Int))=agm:=by simp
  simp only [this,pp])
 by_cases hs:gR l
 · rw [rc hs]
   refine key.2 fun i hi=>?_
   rintro ⟨h0,h1⟩;have:=hs (i-1) (by omega);rw [show i-1+1=i by omega] at this;omega
 rw [ut hs]
 refine key.1 ?_;unfold gR at hs;simp only [M2] at hs;obtain ⟨i,hi,h2⟩:=hs;exact ⟨i+1,by omega,by omega,by rw [show i+1-1=i by omega];omega⟩
theorem jJ (f:Field):ec f=agc (si f.am):=by
 unfold ec si;rw [ay]
 by_cases h:64<agb f.am
 · have:agq ((64:Int)<((agb f.am):Int))=age:=by simp;omega
   rw [this,rc h];rfl
 have:agq ((64:Int)<((agb f.am):Int))=agm:=by simp;omega
 rw [this,ut h];simp only [pp];generalize f.am=l at*;have key:=cP (body:=lq) (fun i=>(l,((agb l):Int),(i:Int),l)) (agb l) (fun i=> ¬fh l[i]!) (r:=8) (e:=if gR l then 0 else 32) (by
  intro i hi;have e1:agq ((i:Int)<((agb l):Int))=age:=by simp;omega
  have hb:lq (l,((agb l):Int),(i:Int),l)=bif (if fh l[i]! then (0:Int) else 8) !=0 then agc (.done (if fh l[i]! then (0:Int) else 8)) else agc (.next (l,((agb l):Int),((i+1:Nat):Int),l)):=by unfold lq;simp only [e1,lw,aq l i (by omega),ao,wQ,aV (show i<1000000000 by omega)]
  constructor
  · intro hc;rw [hb,ut hc];rfl
  · intro hc;rw [hb,rc (ww.1 hc)];rfl) (by
  unfold lq;have:agq (((agb l):Int)<((agb l):Int))=agm:=by simp
  simp only [this,pp];exact Kv l (by omega))
 by_cases hp: ∀p∈l,fh p
 · rw [ut (ww.2 hp)]
   refine (key.2 fun i hi=>?_).trans ?_
   · exact ww.2 (hp _ (aN hi))
   by_cases hs:gR l
   · simp [hs]
   simp [hs]
 rw [rc hp]
 refine key.1 ?_;obtain ⟨p,hp⟩:=M2.1 hp;obtain ⟨hm,h2⟩:=aar.1 hp;obtain ⟨i,hi,rfl⟩:=aP.1 hm;exact ⟨i,hi,h2⟩
theorem rD {l:List Pt} (h:gR l) {i j:Nat} (k9:i<j) (hj:j<agb l):(l[i]!).1<(l[j]!).1:=by
 induction j with
 |zero=>omega
 |succ j ih=>
  have h1:=h j hj
  by_cases he:i=j
  · subst he;exact h1
  have:=ih (by omega) (by omega);omega
theorem mP {l:List Pt} (h:gR l) {i j:Nat} (hi:i<agb l) (hj:j<agb l) (he:(l[i]!).1=(l[j]!).1):i=j:=by
 rcases Nat.lt_trichotomy i j with h1|h1|h1
 · have:=rD h h1 hj;omega
 · exact h1
 have:=rD h h1 hi;omega
theorem C8 (l:List Pt) (id:Int) (hl:(agb l)<=1000000):(∀k,k<agb l->(l[k]!).1=id->(∀j,j<k->(l[j]!).1≠id)->iX ⟨l⟩ id=agc (k:Int))/\((∀k,k<agb l->(l[k]!).1≠id)->iX ⟨l⟩ id=agc (-1)):=by
 unfold iX;refine jS (body:=p9) (fun i=>(id,(i:Int),l)) (agb l) (fun i=>(l[i]!).1=id) (fun i=>(i:Int)) (fun i hi=>?_) ?_
 · have e1:agq ((i:Int)<((agb l):Int))=age:=by simp;omega
   have hb:p9 (id,(i:Int),l)=bif (l[i]!).1==id then agc (.done (i:Int)) else agc (.next (id,((i+1:Nat):Int),l)):=by unfold p9;simp only [ay,e1,lw,aq l i hi,ao,aV (show i<1000000000 by omega)]
   constructor
   · intro hc;rw [hb,ed hc];rfl
   intro hc;rw [hb,eD hc];rfl
 unfold p9
 have:agq (((agb l):Int)<((agb l):Int))=agm:=by simp
 simp only [ay,this,pp]
theorem P3 {l:List Pt} (hs:gR l) (hl:(agb l)<=1000000) {k:Nat} (hk:k<agb l) {id:Int} (he:(l[k]!).1=id):iX ⟨l⟩ id=agc (k:Int):=by
 refine (C8 l id hl).1 k hk he fun j hj hc=>?_
 have:=rD hs hj hk;omega
theorem ZJ {l:List Pt} (hl:(agb l)<=1000000) {id:Int} (h: ∀k,k<agb l->(l[k]!).1≠id):iX ⟨l⟩ id=agc (-1):=(C8 l id hl).2 h
theorem Kw (f:Nat->Int) (id:Int): ∀(n:Nat),(∀i j,i<j->j<n->f i<f j)-> ∃m,m<=n/\(∀i,i<m->f i<id)/\(∀i,m<=i->i<n->id<=f i)
 |0,_=>⟨0,abe _,fun i h=>by omega,fun i _ h=>by omega⟩
 |n+1,h=>by
  obtain ⟨m,h1,h2,h3⟩:=Kw f id n fun i j a b=>h i j a (by omega)
  by_cases hm:m=n
  · by_cases hf:f n<id
    · refine ⟨n+1,abe _,fun i hi=>?_,fun i a b=>by omega⟩
      by_cases he:i=n
      · subst he;exact hf
      exact h2 i (by omega)
    refine ⟨n,by omega,fun i hi=>h2 i (by omega),fun i a b=>?_⟩
    have:i=n:=by omega
    subst this;omega
  refine ⟨m,by omega,h2,fun i a b=>?_⟩
  by_cases he:i=n
  · subst he
    have:=h m i (by omega) (by omega);have:=h3 m (abe _) (by omega);omega
  exact h3 i a (by omega)
theorem eL {α:Type} [Inhabited α] {l:List α}:l.Nodup↔ ∀i j,i<j->j<agb l->l[i]!≠l[j]!:=by
 unfold List.Nodup;rw [List.pairwise_iff_getElem];constructor
 · intro h i j k9 hj
   rw [getElem!_pos l i (by omega),getElem!_pos l j hj];exact h i j (by omega) hj k9
 intro h i j hi hj k9
 have:=h i j k9 hj
 rwa [getElem!_pos l i hi,getElem!_pos l j hj] at this
theorem ck {α:Type} [Inhabited α] {l:List α} {k:Nat} {x:α}:x∈l.take k↔ ∃i,i<k/\i<agb l/\l[i]! =x:=by
 rw [aP];constructor
 · rintro ⟨i,hi,rfl⟩
   rw [aal] at hi;exact ⟨i,by omega,by omega,(jH (by omega)).symm⟩
 rintro ⟨i,h1,h2,rfl⟩
 exact ⟨i,by rw [aal];omega,jH h1⟩
theorem iv {α:Type} [Inhabited α] {l:List α} {k:Nat} (h:k<agb l):l.take (k+1)=l.take k++[l[k]!]:=by rw [List.take_add_one,ab0 h,getElem!_pos l k h];rfl
def marks (l:List Bool):List Int->List Bool
 | []=>l
 |x::r=>marks (bO l x age) r
theorem lS: ∀(r:List Int) (l:List Bool),(marks l r).length=agb l
 | [],_=>rfl
 |x::r,l=>by rw [marks,lS r,xG]
theorem Aq: ∀(r:List Int) (l:List Bool) (x:Int),marks l (r++[x])=bO (marks l r) x age
 | [],_,_=>rfl
 |y::r,l,x=>by show marks (bO l y age) (r++[x])=_;rw [Aq r];rfl
theorem np : ∀ (r : List Int) (l : List Bool) (i : Nat), (∀ x ∈ r, 0 <= x) -> i < (agb l) -> (marks l r)[i]! = (l[i]! || agq ((i : Int) ∈ r))
  | [], l, i, _, _ => by simp [marks]
  | x :: r, l, i, h, hi => by
    rw [marks, np r _ i (fun y hy => h y (by simp [hy])) (by rw [xG]; exact hi)]
    obtain ⟨k, rfl⟩ := aap (h x (by simp))
    rw [lB, ba]
    by_cases e : i = k
    · subst e; rw [rc ⟨rfl, hi⟩]; simp
    rw [ut (fun h => e h.1)]
    have : ((i : Int) ∈ (k : Int) :: r) ↔ (i : Int) ∈ r := by
      rw [acm]
      constructor
      · rintro (h | h)
        · omega
        exact h
      exact .inr
    simp only [this]
theorem FB (l:List Bool) (h:(agb l)<=1000000):dI l agm=agc (agq (agm∈l)):=by
 unfold dI nS;have key:=jS (body:=fV) (fun i=>(l,agm,((agb l):Int),(i:Int))) (agb l) (fun i=>l[i]! =agm) (fun i=>(i:Int)) (e:= -1) (fun i hi=>by
  have e1:agq ((i:Int)<((agb l):Int))=age:=by simp;omega
  have hb:fV (l,agm,((agb l):Int),(i:Int))=bif agm==l[i]! then agc (.done (i:Int)) else agc (.next (l,agm,((agb l):Int),((i+1:Nat):Int))):=by unfold fV;simp only [e1,lw,aq l i hi,ao,aV (show i<1000000000 by omega)]
  constructor
  · intro hc;rw [hb,hc];rfl
  · intro hc
    have:l[i]! =age:=by simpa using hc
    rw [hb,this];rfl) (by
  unfold fV;have:agq (((agb l):Int)<((agb l):Int))=agm:=by simp
  simp only [this,pp])
 rw [ay]
 by_cases hx:agm∈l
 · obtain ⟨i,hi,he⟩:=aP.1 hx
   obtain ⟨k,h1,h2,h3⟩:=least (c:=fun i=>l[i]! =agm) ⟨i,hi,he⟩;have:=key.1 k h1 h2 h3;rw [show ((0:Nat):Int)=0 from rfl] at this;rw [this];have e:agq ((0:Int)<=(k:Int))=age:=by simp
   simp [hx]
 have:=key.2 fun i hi he=>hx (aP.2 ⟨i,hi,he⟩)
 rw [show ((0:Nat):Int)=0 from rfl] at this;rw [this];simp [hx]
structure ef (s:aU):Prop where
 n1:1<=agb s.ar
 n2:(agb s.ar)<=200
 ul:(agb s.be)=agb s.ar
 fr: ∀x∈s.bi,0<=x/\x<agb s.ar
 fd:s.bi.Nodup
 uf: ∀i,i<agb s.ar->(s.be[i]! =age↔(i:Int)∉s.bi)
 us: ∀i,i<agb s.ar->0<=s.ar[i]!/\s.ar[i]!<=1000000/\(s.be[i]! =age->1<=s.ar[i]!)
theorem MB (ar:List Int) (be:List Bool) (fr:List Int) (h1:(agb ar)<=200) (h2:(agb be)=agb ar):
 aB fS (ar,((agb ar):Int),0,ar,be,fr)=agc (.done (if∀i,i<agb ar->0<=ar[i]!/\ar[i]!<=1000000/\(be[i]! =age->1<=ar[i]!) then 0 else 8)):=by
 have key:=cP (body:=fS) (fun i=>(ar,((agb ar):Int),(i:Int),ar,be,fr)) (agb ar) (fun i=> ¬(0<=ar[i]!/\ar[i]!<=1000000/\(be[i]! =age->1<=ar[i]!))) (r:= .done 8) (e:= .done 0) (fun i hi=>by
  have e1:agq ((i:Int)<((agb ar):Int))=age:=by simp;omega
  have hb:fS (ar,((agb ar):Int),(i:Int),ar,be,fr)=bif agq (ar[i]!<0) then agc (.done (.done 8)) else bif agq (1000000<ar[i]!) then agc (.done (.done 8)) else bif ar[i]! ==0 then (bif be[i]! then agc (.done (.done 8)) else agc (.next (ar,((agb ar):Int),((i+1:Nat):Int),ar,be,fr))) else agc (.next (ar,((agb ar):Int),((i+1:Nat):Int),ar,be,fr)):=by unfold fS;simp only [e1,lw,aq ar i hi,aq be i (by omega),ao,aV (show i<1000000000 by omega)]
  rw [hb];generalize ar[i]! =u at*
  by_cases a1:u<0
  · simp [a1];omega
  · by_cases a2:1000000<u
    · simp [a1,a2];omega
    by_cases a3:u=0
    · subst a3
      cases be[i]!<;>simp
    have a4:1<=u:=by omega
    have a5:0<=u:=by omega
    have a6:u<=1000000:=by omega
    simp [a1,a2,eD a3,a4,a5,a6]) (by
  unfold fS;have:agq (((agb ar):Int)<((agb ar):Int))=agm:=by simp
  simp only [this,pp])
 by_cases hc: ∀i,i<agb ar->0<=ar[i]!/\ar[i]!<=1000000/\(be[i]! =age->1<=ar[i]!)
 · rw [rc hc]
   exact key.2 fun i hi=>ww.2 (hc i hi)
 rw [ut hc]
 simp only [M2] at hc;obtain ⟨i,hi,hx⟩:=hc;exact key.1 ⟨i,hi,by simpa only [M2] using hx⟩
theorem tU (s:aU) (hf:(agb s.bi)<=1000000):oN s=agc (if ef s then 0 else 8):=by
 obtain ⟨ar,be,fr⟩:=s;dsimp only at hf;unfold oN;simp only [ay]
 by_cases a1:(agb ar)<1
 · have e:agq (((agb ar):Int)<1)=age:=by simp;omega
   rw [e,ut (fun h=>by have:=h.n1;dsimp only at this;omega)];rfl
 have e1:agq (((agb ar):Int)<1)=agm:=by simp;omega
 by_cases a2:200<agb ar
 · have e:agq (200<((agb ar):Int))=age:=by simp;omega
   rw [e1,e,ut (fun h=>by have:=h.n2;dsimp only at this;omega)];rfl
 have e2:agq (200<((agb ar):Int))=agm:=by simp;omega
 by_cases a3:(agb be)=agb ar
 case neg=>
  have e:(((agb be):Int) !=((agb ar):Int))=age:=by simp;omega
  rw [e1,e2,e,ut (fun h=>a3 h.ul)];rfl
 have e3:(((agb be):Int) !=((agb ar):Int))=agm:=by simp;omega
 simp only [e1,e2,e3,pp,bj (show (agb be)<=1048576 by omega),ao];have FC:=MB ar be fr (by omega) a3;have key:=cP (body:=px be) (fun k=>(fr,((agb fr):Int),(k:Int),ar,be,fr,((agb ar):Int),marks be (fr.take k))) (agb fr)
  (fun k=>fr[k]!<0\/((agb ar):Int)<=fr[k]!\/(marks be (fr.take k))[(fr[k]!).toNat]! =age) (r:=8)
  (e:=if agm∈marks be fr then 8 else if∀i,i<agb ar->0<=ar[i]!/\ar[i]!<=1000000/\(be[i]! =age->1<=ar[i]!) then 0 else 8) (fun k hk=>by
   have f1:agq ((k:Int)<((agb fr):Int))=age:=by simp;omega
   have f2:((marks be (fr.take k)).length==agb be)=age:=by rw [lS];simp
   have f3:agq ((0:Int)<=(k:Int))=age:=by simp
   have f4: ∀x:Int,((bO (marks be (fr.take k)) x age).length==(marks be (fr.take k)).length)=age:=by intro x;rw [xG];simp
   have f5:marks be (fr.take (k+1))=bO (marks be (fr.take k)) fr[k]! age:=by rw [iv hk,Aq]
   unfold px;simp only [f1,f2,f3,f4,lw,beq_self_eq_true,aq fr k hk,ao,aV (show k<1000000000 by omega),f5];clear f5;generalize fr[k]! =x
   by_cases b1:x<0
   · simp [b1]
   · by_cases b2:((agb ar):Int)<=x
     · simp [b1,b2]
     simp only [b1,b2,decide_false,pp,false_or]
     rw [c6 (l:=marks be (fr.take k)) (i:=x) (by omega) (by rw [lS];omega)];simp only [ao];cases (marks be (fr.take k))[x.toNat]!<;>simp) (by
   have f1:agq (((agb fr):Int)<((agb fr):Int))=agm:=by simp
   unfold px;simp only [f1,pp,abE];rw [FB _ (by rw [lS];omega)];have f2:((marks be fr).length==agb be)=age:=by rw [lS];simp
   simp only [f2,lw,ao,ay,FC]
   by_cases hx:agm∈marks be fr
   · simp [hx]
   simp [hx])
 have h0:marks be (fr.take 0)=be:=rfl;rw [show ((0:Nat):Int)=0 from rfl,h0] at key
 by_cases bad: ∃k,k<agb fr/\(fr[k]!<0\/((agb ar):Int)<=fr[k]!\/(marks be (fr.take k))[(fr[k]!).toNat]! =age)
 · rw [key.1 bad,ut]
   intro ok;obtain ⟨k,hk,hb⟩:=bad;have hr:=ok.fr fr[k]! (aN hk);dsimp only at hr;rcases hb with hb|hb|hb
   · omega
   · omega
   rw [np _ _ _ (fun x hx=>(ok.fr x (aak hx)).1) (by omega)] at hb
   have hi:((fr[k]!).toNat:Int)=fr[k]!:=by omega
   rw [hi,Bool.or_eq_true] at hb;rcases hb with hb|hb
   · have:=(ok.uf (fr[k]!).toNat (by show _<agb ar;omega)).1 hb
     rw [hi] at this;exact this (aN hk)
   have hm:fr[k]!∈fr.take k:=by simpa using hb
   obtain ⟨j,h1,h2,h3⟩:=ck.1 hm;exact eL.1 ok.fd j k h1 hk h3
 have MC: ∀k,k<agb fr->0<=fr[k]!/\fr[k]!<agb ar/\(marks be (fr.take k))[(fr[k]!).toNat]! =agm:=by
  intro k hk;refine ⟨?_,?_,?_⟩
  · exact Int.not_lt.1 fun h=>bad ⟨k,hk,.inl h⟩
  · exact Int.not_le.1 fun h=>bad ⟨k,hk,.inr (.inl h)⟩
  exact ab5 _▸fun h=>bad ⟨k,hk,.inr (.inr h)⟩
 rw [key.2 fun k hk hb=>bad ⟨k,hk,hb⟩];have rng: ∀x∈fr,0<=x/\x<((agb ar):Int):=by intro x hx;obtain ⟨k,hk,rfl⟩:=aP.1 hx;exact ⟨(MC k hk).1,(MC k hk).2.1⟩
 have g2: ∀k,k<agb fr->be[(fr[k]!).toNat]! =agm/\fr[k]!∉fr.take k:=by intro k hk;obtain ⟨c1,c2,c3⟩:=MC k hk;rw [np _ _ _ (fun x hx=>(rng x (aak hx)).1) (by omega),show ((fr[k]!).toNat:Int)=fr[k]! by omega,abj] at c3;exact ⟨c3.1,by simpa using c3.2⟩
 have nd:fr.Nodup:=eL.2 fun i j k9 hj he=>(g2 j hj).2 (ck.2 ⟨i,k9,by omega,he⟩)
 by_cases hx:agm∈marks be fr
 · rw [rc hx,ut]
   intro ok;obtain ⟨i,hi,he⟩:=aP.1 hx;rw [lS] at hi;rw [np _ _ _ (fun x hx=>(rng x hx).1) hi,abj] at he;have h3:(i:Int)∉fr:=by simpa using he.2
   have:=(ok.uf i (by show _<agb ar;omega)).2 h3;rw [show be[i]! =agm from he.1] at this;cases this
 rw [ut hx]
 by_cases hu: ∀i,i<agb ar->0<=ar[i]!/\ar[i]!<=1000000/\(be[i]! =age->1<=ar[i]!)
 · rw [rc hu,rc]
   refine ⟨by show 1<=agb ar;omega,by show (agb ar)<=200;omega,a3,rng,nd,fun i hi=>?_,hu⟩;dsimp only at hi ⊢;constructor
   · intro h1 h2
     obtain ⟨k,hk,he⟩:=aP.1 h2;have:=(g2 k hk).1;rw [he,show ((i:Int)).toNat=i by omega,h1] at this;cases this
   intro h1
   refine PP fun h2=>hx ?_
   refine aP.2 ⟨i,by rw [lS];omega,?_⟩;rw [np _ _ _ (fun x hx=>(rng x hx).1) (by omega)];have:be[i]! =agm:=by simpa using h2
   rw [this];simpa using h1
 rw [ut hu,ut]
 intro ok;exact hu ok.us
theorem ef.fl {s:aU} (ok:ef s):(agb s.bi)<=(agb s.ar):=by
 have h:=MA (agb s.ar) (s.bi.map acr) (by
  rw [eL];intro i j k9 hj he;rw [aau] at hj;have e: ∀k,k<agb s.bi->(s.bi.map acr)[k]! =(s.bi[k]!).toNat:=by intro k hk;rw [getElem!_pos _ k (by simpa using hk),List.getElem_map,getElem!_pos s.bi k hk]
  rw [e i (by omega),e j hj] at he;have h1:=(ok.fr _ (aN (show i<(agb s.bi) by omega))).1;have h2:=(ok.fr _ (aN hj)).1;exact eL.1 ok.fd i j k9 hj (by omega)) (by
  intro x hx;obtain ⟨y,hy,rfl⟩:=aaj.1 hx;have:=ok.fr y hy;omega)
 rwa [aau] at h
def th (s:aU) (h:Int×Int):Prop:=0<=h.1/\h.1<agb s.ar/\s.be[h.1.toNat]! =age/\s.ar[h.1.toNat]! =h.2
def fc (s:aU) (h:Int×Int):aU:=⟨s.ar,s.be.set h.1.toNat agm,s.bi++[h.1]⟩
def cB (s:aU):Nat:=(s.bi[agb s.bi-1]!).toNat
def uP (s:aU):Prop:=0<agb s.bi/\s.ar[cB s]!<1000000
def fO (s:aU):aU:=⟨s.ar.set (cB s) (s.ar[cB s]!+1),s.be.set (cB s) age,s.bi.take (agb s.bi-1)⟩
def j0 (s:aU):Int×Int:=((cB s:Int),s.ar[cB s]!+1)
theorem C9 {s:aU} (ok:ef s) (h:Int×Int):xW s h=agc (agq (th s h),0):=by
 have hl:=ok.fl;have hn:=ok.n2;have hu:=ok.ul;unfold xW th;rw [tU s (by omega),rc ok];simp only [ao,show ((0:Int) !=0)=agm from rfl,pp,ay]
 by_cases a1:0<=h.1
 · by_cases a2:h.1<agb s.ar
   · have e2:agq (h.1<((agb s.be):Int))=age:=by simp;omega
     simp only [a1,a2,e2,decide_true,lw,c6 (l:=s.be) a1 (by omega),c6 (l:=s.ar) a1 a2,ao,true_and];generalize s.ar[h.1.toNat]! =u;cases s.be[h.1.toNat]!<;>simp [Ob]
   have e2:agq (h.1<((agb s.be):Int))=agm:=by simp;omega
   simp [a1,a2,e2]
 simp [a1]
theorem IB {s:aU} (ok:ef s) {h:Int×Int} (lv:th s h):yK s h=agc (fc s h,0):=by
 have hl:=ok.fl;have hn:=ok.n2;have hu:=ok.ul;unfold yK;rw [C9 ok,decide_eq_true lv];unfold qA;obtain ⟨l1,l2,l3,l4⟩:=lv;have e1:bO s.be h.1 agm=s.be.set h.1.toNat agm:=rfl;simp only [ao,show ((0:Int) !=0)=agm from rfl,pp,NE,bj (show (agb s.ar)<=1048576 by omega),bj (show (agb s.be)<=1048576 by omega),bj (show (agb s.bi)<=1048576 by omega),
  cM (show (agb s.bi)+[h.1].length<=1048576 by simp;omega),c6 (l:=s.be) l1 (by omega),e1,fc]
theorem tV {s:aU} (ok:ef s):rZ s=agc s:=by have hl:=ok.fl;have hn:=ok.n2;have hu:=ok.ul;unfold rZ;simp only [ao,bj (show (agb s.ar)<=1048576 by omega),bj (show (agb s.be)<=1048576 by omega),bj (show (agb s.bi)<=1048576 by omega)]
theorem FD {s:aU} (ok:ef s) {h:Int×Int} (lv:th s h):qh s h=agc (fc s h):=by have hl:=ok.fl;have hn:=ok.n2;have hu:=ok.ul;obtain ⟨l1,l2,l3,l4⟩:=lv;unfold qh;rw [tV ok];have e1:bO s.be h.1 agm=s.be.set h.1.toNat agm:=rfl;simp only [ao,cM (show (agb s.bi)+[h.1].length<=1048576 by simp;omega),c6 (l:=s.be) l1 (by omega),e1,fc]
theorem S8 {s:aU} (ok:ef s) {h:Int×Int} (lv:th s h):ef (fc s h):=by
 have hl:=ok.fl;have hn:=ok.n2;have hu:=ok.ul;obtain ⟨l1,l2,l3,l4⟩:=lv;have nf:h.1∉s.bi:=by
  have:=(ok.uf h.1.toNat (by omega)).1 l3
  rwa [show (h.1.toNat:Int)=h.1 by omega] at this
 refine ⟨ok.n1,ok.n2,?_,?_,?_,?_,?_⟩
 · show (s.be.set _ _).length=_;rw [v6];exact hu
 · intro x hx
   rcases aba.1 hx with hx|hx
   · exact ok.fr x hx
   rw [aaF] at hx;subst hx;exact ⟨l1,l2⟩
 · show (s.bi++[h.1]).Nodup
   rw [List.nodup_append];refine ⟨ok.fd,by simp,?_⟩;intro x hx y hy he;rw [aaF] at hy;subst hy;subst he;exact nf hx
 · intro i hi
   change i<(agb s.ar) at hi;show (s.be.set h.1.toNat agm)[i]! =age↔(i:Int)∉s.bi++[h.1];rw [ba,aba,aaF]
   by_cases e:i=h.1.toNat
   · rw [rc ⟨e,by omega⟩]
     have:(i:Int)=h.1:=by omega
     simp [this]
   rw [ut (fun k=>e k.1),ok.uf i hi]
   have: ¬(i:Int)=h.1:=by omega
   simp [this]
 intro i hi
 change i<(agb s.ar) at hi;obtain ⟨u1,u2,u3⟩:=ok.us i hi;refine ⟨u1,u2,?_⟩;show (s.be.set h.1.toNat agm)[i]! =age->_;rw [ba];split
 · intro h;cases h
 exact u3
theorem wg {s:aU} (ok:ef s) (h:0<agb s.bi):cB s<agb s.ar/\(cB s:Int)=s.bi[agb s.bi-1]!/\(cB s:Int)∈s.bi:=by
 have hm:=aN (l:=s.bi) (i:=agb s.bi-1) (by omega);have:=ok.fr _ hm;have e:(cB s:Int)=s.bi[agb s.bi-1]!:=by unfold cB;omega
 refine ⟨by omega,e,by rw [e];exact hm⟩
theorem kF {α:Type} (l:List α) (n:Nat) (h:n<=agb l):gO l 0 (n:Int)=agc (l.take n):=by unfold gO;rw [rc ⟨by omega,by omega,by omega⟩];simp
theorem Bo {s:aU} (ok:ef s):yL s=agc (if uP s then (fO s,j0 s,0) else (⟨[],[],[]⟩,(0,0),18)):=by
 have hl:=ok.fl;have hn:=ok.n2;have hu:=ok.ul;unfold yL uP;rw [tU s (by omega),rc ok];simp only [ao,show ((0:Int) !=0)=agm from rfl,pp,ay]
 by_cases a1:0<agb s.bi
 · obtain ⟨n1,n2,n3⟩:=wg ok a1
   have e1:(((agb s.bi):Int)==0)=agm:=eD (by omega);have e2:ai .i64 (((agb s.bi):Int) -1)=((agb s.bi-1:Nat):Int):=we (by omega) (by omega);unfold rU;simp only [e1,pp,ay,e2,kF s.bi (agb s.bi-1) (by omega),ao,bj (show (s.bi.take (agb s.bi-1)).length<=1048576 by rw [aal];omega),
    aq s.bi (agb s.bi-1) (by omega),<- n2,aq s.ar (cB s) n1]
   obtain ⟨u1,u2,u3⟩:=ok.us (cB s) n1
   by_cases a2:s.ar[cB s]! =1000000
   · have e3:(s.ar[cB s]! ==1000000)=age:=by simpa using a2
     rw [e3,ut (by omega)];rfl
   have e3:(s.ar[cB s]! ==1000000)=agm:=by simpa using a2
   have e4:ai .i64 (s.ar[cB s]!+1)=s.ar[cB s]!+1:=by rw [wi];omega
   rw [e3,rc (by omega)];simp only [pp,bj (show (agb s.ar)<=1048576 by omega),bj (show (agb s.be)<=1048576 by omega),ao,aq s.be (cB s) (by omega),aq s.ar (cB s) n1,e4,lB,
    aq (s.ar.set (cB s) (s.ar[cB s]!+1)) (cB s) (by rw [v6];exact n1),ba,n1,and_self,if_true,fO,j0]
 have e1:(((agb s.bi):Int)==0)=age:=ed (by omega)
 rw [e1,ut (fun h=>a1 h.1)];rfl
theorem pH {s:aU} (ok:ef s):gG s=agc (agq (uP s)):=by
 have hl:=ok.fl;have hn:=ok.n2;have hu:=ok.ul;unfold gG uP;simp only [ay]
 by_cases a1:0<agb s.bi
 · obtain ⟨n1,n2,n3⟩:=wg ok a1
   have e1:agq ((0:Int)<((agb s.bi):Int))=age:=by simp;omega
   have e2:ai .i64 (((agb s.bi):Int) -1)=((agb s.bi-1:Nat):Int):=we (by omega) (by omega);simp only [e1,e2,lw,aq s.bi (agb s.bi-1) (by omega),ao,<- n2,aq s.ar (cB s) n1,a1,true_and]
 have e1:agq ((0:Int)<((agb s.bi):Int))=agm:=decide_eq_false (by omega)
 rw [e1];simp [a1]
theorem FE {s:aU} (ok:ef s) (h:uP s):x9 s=agc (fO s,j0 s):=by
 have hl:=ok.fl;have hn:=ok.n2;have hu:=ok.ul;obtain ⟨a1,a2⟩:=h;obtain ⟨n1,n2,n3⟩:=wg ok a1;obtain ⟨u1,u2,u3⟩:=ok.us (cB s) n1;unfold x9;rw [tV ok];have e2:ai .i64 (((agb s.bi):Int) -1)=((agb s.bi-1:Nat):Int):=we (by omega) (by omega);have e4:ai .i64 (s.ar[cB s]!+1)=s.ar[cB s]!+1:=by rw [wi];omega
 simp only [ao,ay,e2,aq s.bi (agb s.bi-1) (by omega),kF s.bi (agb s.bi-1) (by omega),<- n2,aq s.ar (cB s) n1,aq s.be (cB s) (by omega),e4,lB,
  aq (s.ar.set (cB s) (s.ar[cB s]!+1)) (cB s) (by rw [v6];exact n1),ba,n1,and_self,if_true,fO,j0,Int.toNat_natCast]
theorem S9 {s:aU} (ok:ef s) (h:uP s):ef (fO s):=by
 have hl:=ok.fl;have hn:=ok.n2;have hu:=ok.ul;obtain ⟨a1,a2⟩:=h;obtain ⟨n1,n2,n3⟩:=wg ok a1;have mt: ∀x:Int,x∈s.bi.take (agb s.bi-1)↔(x∈s.bi/\x≠(cB s:Int)):=by
  intro x;rw [ck];constructor
  · rintro ⟨i,h1,h2,rfl⟩
    refine ⟨aN h2,?_⟩;rw [n2];exact eL.1 ok.fd i (agb s.bi-1) h1 (by omega)
  rintro ⟨h1,h2⟩
  obtain ⟨i,hi,rfl⟩:=aP.1 h1;refine ⟨i,?_,hi,rfl⟩;refine PP fun hc=>h2 ?_
  rw [n2,show i=agb s.bi-1 by omega]
 refine ⟨?_,?_,?_,?_,?_,?_,?_⟩
 · show 1<=(s.ar.set _ _).length;rw [v6];exact ok.n1
 · show (s.ar.set _ _).length<=200;rw [v6];exact ok.n2
 · show (s.be.set _ _).length=(s.ar.set _ _).length;rw [v6,v6];exact hu
 · intro x hx
   show 0<=x/\x<((s.ar.set _ _).length:Int);rw [v6];exact ok.fr x ((mt x).1 hx).1
 · exact ok.fd.sublist (List.take_sublist _ _)
 · intro i hi
   change i<(s.ar.set _ _).length at hi;rw [v6] at hi;show (s.be.set (cB s) age)[i]! =age↔(i:Int)∉s.bi.take (agb s.bi-1);rw [ba,mt]
   by_cases e:i=cB s
   · rw [rc ⟨e,by omega⟩]
     simp [e]
   rw [ut (fun k=>e k.1),ok.uf i hi]
   have:(i:Int)≠(cB s:Int):=by omega
   simp [this]
 intro i hi
 change i<(s.ar.set _ _).length at hi;rw [v6] at hi;obtain ⟨u1,u2,u3⟩:=ok.us i hi;show 0<=(s.ar.set (cB s) (s.ar[cB s]!+1))[i]!/\(s.ar.set (cB s) (s.ar[cB s]!+1))[i]!<=1000000/\((s.be.set (cB s) age)[i]! =age->1<=(s.ar.set (cB s) (s.ar[cB s]!+1))[i]!);rw [ba,ba]
 by_cases e:i=cB s
 · subst e
   rw [rc ⟨rfl,n1⟩];refine ⟨by omega,by omega,fun _=>by omega⟩
 rw [ut (fun k=>e k.1),ut (fun k=>e k.1)]
 exact ⟨u1,u2,u3⟩
abbrev Ev:=Int×Int×Int×Int×Int
abbrev Ev.at (x:Ev):Int×Int:=(x.1,x.2.1)
abbrev Ev.num (x:Ev):Int:=x.2.2.1
abbrev Ev.ix (x:Ev):Int:=x.2.2.2.1
abbrev Ev.n (x:Ev):Nat:=x.2.2.2.1.toNat
theorem aj' {x:Ev} {k:Nat} (h:x.ix<(k:Int)) (h0:0<=x.ix):x.n<k:=by show x.ix.toNat<k;omega
theorem aka {x y:Ev} (h0:0<=x.ix) (h1:0<=y.ix) (h:x.ix≠y.ix):x.n≠y.n:=by
 show x.ix.toNat≠y.ix.toNat
 omega
def less (x y:Ev):Prop:=dC (x.1,x.2.1) (y.1,y.2.1)<0\/(dC (x.1,x.2.1) (y.1,y.2.1)=0/\x.2.2.1<y.2.2.1)
theorem rf {a b:Int×Int}:dC a b<0↔a.1*b.2<b.1*a.2:=by unfold dC;rcases cN (a.1*b.2) (b.1*a.2) with ⟨h,e⟩|⟨h,e⟩|⟨h,e⟩<;>rw [e]<;>constructor<;>intro<;>omega
theorem Of {a b:Int×Int}:dC a b=0↔a.1*b.2=b.1*a.2:=by unfold dC;rcases cN (a.1*b.2) (b.1*a.2) with ⟨h,e⟩|⟨h,e⟩|⟨h,e⟩<;>rw [e]<;>constructor<;>intro<;>omega
theorem mQ {x y:Ev} (h:less x y): ¬less y x:=by unfold less at*;rw [rf,Of] at*;dsimp only at*;rintro (k|k)<;>rcases h with h|h<;>omega
theorem fB {a1 a2 b1 b2 c1 c2:Int} (ha:1<=a2) (hb:1<=b2) (hc:1<=c2) (h1:a1*b2<=b1*a2) (h2:b1*c2<=c1*b2):a1*c2<=c1*a2:=by
 have e1:a1*b2*c2<=b1*a2*c2:=UV h1 (by omega);have e2:b1*c2*a2<=c1*b2*a2:=UV h2 (by omega);have e3:(a1*c2)*b2<=(c1*a2)*b2:=by
  have r1:(a1*c2)*b2=a1*b2*c2:=by grind
  have r2:b1*a2*c2=b1*c2*a2:=by grind
  have r3:c1*b2*a2=(c1*a2)*b2:=by grind
  omega
 exact Int.le_of_mul_le_mul_right e3 (by omega)
theorem mw {a1 a2 b1 b2 c1 c2:Int} (ha:1<=a2) (hb:1<=b2) (hc:1<=c2) (h1:a1*b2<b1*a2) (h2:b1*c2<=c1*b2):a1*c2<c1*a2:=by
 have e1:a1*b2*c2<b1*a2*c2:=aaw h1 (by omega);have e2:b1*c2*a2<=c1*b2*a2:=UV h2 (by omega);have e3:(a1*c2)*b2<(c1*a2)*b2:=by
  have r1:(a1*c2)*b2=a1*b2*c2:=by grind
  have r2:b1*a2*c2=b1*c2*a2:=by grind
  have r3:c1*b2*a2=(c1*a2)*b2:=by grind
  omega
 exact aaS e3 (by omega)
theorem oj {a1 a2 b1 b2 c1 c2:Int} (ha:1<=a2) (hb:1<=b2) (hc:1<=c2) (h1:a1*b2<=b1*a2) (h2:b1*c2<c1*b2):a1*c2<c1*a2:=by
 have e1:a1*b2*c2<=b1*a2*c2:=UV h1 (by omega);have e2:b1*c2*a2<c1*b2*a2:=aaw h2 (by omega);have e3:(a1*c2)*b2<(c1*a2)*b2:=by
  have r1:(a1*c2)*b2=a1*b2*c2:=by grind
  have r2:b1*a2*c2=b1*c2*a2:=by grind
  have r3:c1*b2*a2=(c1*a2)*b2:=by grind
  omega
 exact aaS e3 (by omega)
theorem uQ {x y z:Ev} (hx:1<=x.2.1) (hy:1<=y.2.1) (hz:1<=z.2.1) (h1: ¬less y x) (h2: ¬less z y): ¬less z x:=by
 unfold less at*;rw [rf,Of] at*;dsimp only at*;have t1:= @fB x.1 x.2.1 y.1 y.2.1 z.1 z.2.1 hx hy hz;have t2:= @mw x.1 x.2.1 y.1 y.2.1 z.1 z.2.1 hx hy hz;have t3:= @oj x.1 x.2.1 y.1 y.2.1 z.1 z.2.1 hx hy hz;generalize x.1*y.2.1=p at*;generalize y.1*x.2.1=q at*;generalize y.1*z.2.1=r at*;generalize z.1*y.2.1=s at*;generalize x.1*z.2.1=u at*;generalize z.1*x.2.1=v at*;have a1:p<=q:=by omega
 have a2:r<=s:=by omega
 have a3:=t1 a1 a2;rintro (k|k)
 · omega
 by_cases b1:p<q
 · have:=t2 b1 a2;omega
 by_cases b2:r<s
 · have:=t3 a1 b2;omega
 omega
structure Ar (n:Nat) (x:Ev) (M:Ev->Prop) (H:List Ev) (W:List Int) (i:Nat):Prop where
 lt:i<n
 hn:n<=agb H
 ix: ∀w,w<n->w≠i->0<=(H[w]!).ix/\(H[w]!).ix<agb W/\W[(H[w]!).n]! =(w:Int)/\(H[w]!).ix≠x.ix
 x0:0<=x.ix
 x1:x.ix<agb W
 mem: ∀e,(∃w,w<n/\w≠i/\H[w]! =e)↔M e
theorem Ar.move {n:Nat} {x:Ev} {M:Ev->Prop} {H:List Ev} {W:List Int} {i j:Nat} (h:Ar n x M H W i) (hj:j<n) (k9:j≠i):Ar n x M (H.set i H[j]!) (W.set (H[j]!).n (i:Int)) j:=by
 have hn:=h.hn;have hi:=h.lt;obtain ⟨j1,j2,j3,j4⟩:=h.ix j hj k9;have cell: ∀w,(H.set i H[j]!)[w]! =if w=i then H[j]! else H[w]!:=by
  intro w;rw [ba]
  by_cases e:w=i
  · rw [rc ⟨e,by omega⟩,rc e]
  rw [ut (fun k=>e k.1),ut e]
 refine ⟨hj,by rw [v6];exact hn,?_,h.x0,by rw [v6];exact h.x1,?_⟩
 · intro w hw hwj
   rw [cell,v6]
   by_cases e:w=i
   · rw [rc e,ba,rc ⟨rfl,aj' j2 j1⟩]
     exact ⟨j1,j2,by rw [e],j4⟩
   rw [ut e,ba]
   obtain ⟨k1,k2,k3,k4⟩:=h.ix w hw e;refine ⟨k1,k2,?_,k4⟩;rw [ut,k3];rintro ⟨c,_⟩;rw [c,j3] at k3;omega
 intro e
 rw [<- h.mem e];constructor
 · rintro ⟨w,hw,hwj,he⟩
   rw [cell] at he
   by_cases c:w=i
   · rw [rc c] at he;exact ⟨j,hj,k9,he⟩
   rw [ut c] at he;exact ⟨w,hw,c,he⟩
 rintro ⟨w,hw,IC,he⟩
 by_cases c:w=j
 · refine ⟨i,hi,fun h=>k9 h.symm,?_⟩
   rw [cell,rc rfl,<- c];exact he
 exact ⟨w,hw,c,by rw [cell,ut IC];exact he⟩
theorem Ar.fill {n:Nat} {x:Ev} {M:Ev->Prop} {H:List Ev} {W:List Int} {i:Nat} (h:Ar n x M H W i):
 (∀w,w<n->0<=((H.set i x)[w]!).ix/\((H.set i x)[w]!).ix<agb W/\(W.set x.n (i:Int))[((H.set i x)[w]!).n]! =(w:Int))/\
  (∀e,(∃w,w<n/\(H.set i x)[w]! =e)↔(e=x\/M e)):=by
 have hn:=h.hn;have hi:=h.lt;have x0:=h.x0;have x1:=h.x1;have cell: ∀w,(H.set i x)[w]! =if w=i then x else H[w]!:=by
  intro w;rw [ba]
  by_cases e:w=i
  · rw [rc ⟨e,by omega⟩,rc e]
  rw [ut (fun k=>e k.1),ut e]
 constructor
 · intro w hw
   rw [cell]
   by_cases e:w=i
   · rw [rc e,ba,rc ⟨rfl,aj' x1 x0⟩]
     exact ⟨x0,x1,by rw [e]⟩
   rw [ut e,ba]
   obtain ⟨k1,k2,k3,k4⟩:=h.ix w hw e;exact ⟨k1,k2,by rw [ut (fun c=>aka k1 x0 k4 c.1),k3]⟩
 intro e
 rw [<- h.mem e];constructor
 · rintro ⟨w,hw,he⟩
   rw [cell] at he
   by_cases c:w=i
   · rw [rc c] at he;exact .inl he.symm
   rw [ut c] at he;exact .inr ⟨w,hw,c,he⟩
 rintro (he|⟨w,hw,IC,he⟩)
 · exact ⟨i,hi,by rw [cell,rc rfl,he]⟩
 exact ⟨w,hw,by rw [cell,ut IC];exact he⟩
noncomputable def iw (x:Ev):Nat->List Ev->List Int->Nat×List Ev×List Int
 |0,H,W=>(0,H,W)
 |i+1,H,W=>if less x H[i / 2]! then iw x (i / 2) (H.set (i+1) H[i / 2]!) (W.set (H[i / 2]!).n ((i+1:Nat):Int)) else (i+1,H,W)
termination_by i=>i
decreasing_by omega
noncomputable def gH (n:Nat) (H:List Ev) (i:Nat):Nat:=if 2*i+2<n/\less H[2*i+2]! H[2*i+1]! then 2*i+2 else 2*i+1
theorem nq (n:Nat) (H:List Ev) (i:Nat):gH n H i=2*i+1\/(gH n H i=2*i+2/\2*i+2<n):=by
 unfold gH;split
 · rename_i h;exact .inr ⟨rfl,h.1⟩
 exact .inl rfl
noncomputable def dp (n:Nat) (x:Ev) (i:Nat) (H:List Ev) (W:List Int):Nat×List Ev×List Int:=
 if _h:2*i+1<n then
  if less H[gH n H i]! x then dp n x (gH n H i) (H.set i H[gH n H i]!) (W.set (H[gH n H i]!).n (i:Int)) else (i,H,W)
 else (i,H,W)
termination_by n-i
decreasing_by
 rcases nq n H i with h|h<;>omega
structure Ord (n:Nat) (H:List Ev) (i:Nat):Prop where
 den: ∀w,w<n->1<=(H[w]!).2.1
 ord: ∀k,0<k->k<n->k≠i->(k-1) / 2≠i-> ¬less H[k]! H[(k-1) / 2]!
 Kx:0<i-> ∀k,0<k->k<n->(k-1) / 2=i-> ¬less H[k]! H[(i-1) / 2]!
theorem DR {n : Nat} {x : Ev} {M : Ev -> Prop} (dx : 1 <= x.2.1) : ∀ (i : Nat) (H : List Ev) (W : List Int), Ar n x M H W i -> Ord n H i ->
    ∃ j H1 W1, iw x i H W = (j, H1, W1) /\ Ar n x M H1 W1 j /\ Ord n H1 j /\ (agb H1) = (agb H) /\ (agb W1) = (agb W) /\ (0 < j -> ¬ less x H1[(j - 1) / 2]!) /\
      (∀ k, n <= k -> H1[k]! = H[k]!) /\ (∀ k, (∀ w, w < n -> w ≠ i -> (H[w]!).n ≠ k) -> W1[k]! = W[k]!) /\
      ((∀ k, 0 < k -> k < n -> (k - 1) / 2 = i -> ¬ less H[k]! x) -> ∀ k, 0 < k -> k < n -> (k - 1) / 2 = j -> ¬ less H1[k]! x)
  | 0, H, W, h, o => ⟨0, H, W, by rw [iw], h, o, rfl, rfl, fun h => by omega, fun _ _ => rfl, fun _ _ => rfl, fun h => h⟩
  | i + 1, H, W, h, o => by
    rw [iw]
    by_cases hl : less x H[i / 2]!
    · rw [rc hl]
      have hi := h.lt
      have hn := h.hn
      have hp : i / 2 < n := by omega
      have dE : i / 2 ≠ i + 1 := by omega
      have hm := h.move hp dE
      have cell : ∀ w, (H.set (i + 1) H[i / 2]!)[w]! = if w = i + 1 then H[i / 2]! else H[w]! := by
        intro w
        rw [ba]
        by_cases e : w = i + 1
        · rw [rc ⟨e, by omega⟩, rc e]
        rw [ut (fun k => e k.1), ut e]
      have o' : Ord n (H.set (i + 1) H[i / 2]!) (i / 2) := by
        refine ⟨?_, ?_, ?_⟩
        · intro w hw
          rw [cell]
          split
          · exact o.den _ hp
          exact o.den _ hw
        · intro k k0 kn k1 k2
          rw [cell, cell]
          by_cases e : k = i + 1
          · subst e; exact absurd (by omega) k2
          rw [ut e]
          by_cases e2 : (k - 1) / 2 = i + 1
          · rw [rc e2]
            have := o.Kx (by omega) k k0 kn e2
            rwa [show (i + 1 - 1) / 2 = i / 2 by omega] at this
          rw [ut e2]
          exact o.ord k k0 kn e e2
        intro p0 k k0 kn k1
        rw [cell, cell, ut (show (i / 2 - 1) / 2 ≠ i + 1 by omega)]
        have up1 : ¬ less H[i / 2]! H[(i / 2 - 1) / 2]! := o.ord (i / 2) p0 hp dE (by omega)
        by_cases e : k = i + 1
        · rw [rc e]; exact up1
        rw [ut e]
        have up2 : ¬ less H[k]! H[i / 2]! := by
          have := o.ord k k0 kn e (by omega)
          rwa [k1] at this
        exact uQ (o.den _ (by omega)) (o.den _ hp) (o.den _ kn) up1 up2
      obtain ⟨j, H1, W1, e1, e3, e4, e5, e6, e7, e8, e9, e10⟩ := DR dx (i / 2) _ _ hm o'
      rw [v6] at e5 e6
      refine ⟨j, H1, W1, e1, e3, e4, e5, e6, e7, ?_, ?_, ?_⟩
      · intro k hk
        rw [e8 k hk, cell, ut (by omega)]
      · intro k hk
        rw [e9 k ?_, ba, ut (fun c => hk (i / 2) hp dE c.1.symm)]
        intro w hw Il
        rw [cell]
        split
        · exact hk (i / 2) hp dE
        rename_i e; exact hk w hw e
      intro _
      refine e10 fun k k0 kn k1 => ?_
      rw [cell]
      by_cases e : k = i + 1
      · rw [rc e]; exact mQ hl
      rw [ut e]
      have up2 : ¬ less H[k]! H[i / 2]! := by
        have := o.ord k k0 kn e (by omega)
        rwa [k1] at this
      exact uQ dx (o.den _ hp) (o.den _ kn) (mQ hl) up2
    rw [ut hl]
    refine ⟨i + 1, H, W, rfl, h, o, rfl, rfl, fun _ => ?_, fun _ _ => rfl, fun _ _ => rfl, fun h => h⟩
    rwa [show (i + 1 - 1) / 2 = i / 2 by omega]
termination_by i=>i
decreasing_by omega
theorem P4 {n:Nat} {x:Ev} {i:Nat} {H:List Ev} {W:List Int} (h: ∀k,0<k->k<n->(k-1) / 2=i-> ¬less H[k]! x):dp n x i H W=(i,H,W):=by
 rw [dp];split
 · rename_i hk
   rw [ut];rcases nq n H i with e|⟨e,e2⟩
   · rw [e];exact h _ (by omega) hk (by omega)
   rw [e];exact h _ (by omega) e2 (by omega)
 rfl
theorem Hi {n : Nat} {x : Ev} {M : Ev -> Prop} (dx : 1 <= x.2.1) : ∀ (d i : Nat) (H : List Ev) (W : List Int), n - i <= d -> Ar n x M H W i -> Ord n H i -> (0 < i -> ¬ less x H[(i - 1) / 2]!) ->
    ∃ j H1 W1, dp n x i H W = (j, H1, W1) /\ Ar n x M H1 W1 j /\ Ord n H1 j /\ (agb H1) = (agb H) /\ (agb W1) = (agb W) /\ (0 < j -> ¬ less x H1[(j - 1) / 2]!) /\
      (∀ k, n <= k -> H1[k]! = H[k]!) /\ (∀ k, (∀ w, w < n -> w ≠ i -> (H[w]!).n ≠ k) -> W1[k]! = W[k]!) /\ (∀ k, 0 < k -> k < n -> (k - 1) / 2 = j -> ¬ less H1[k]! x)
  | 0, i, H, W, hd, h, o, u => by have := h.lt; omega
  | d + 1, i, H, W, hd, h, o, u => by
    have hi := h.lt
    have hn := h.hn
    rw [dp]
    by_cases hk : 2 * i + 1 < n
    · rw [dif_pos hk]
      have kc := nq n H i
      have kn : gH n H i < n := by omega
      have kne : gH n H i ≠ i := by omega
      have kp : (gH n H i - 1) / 2 = i := by omega
      have kb : ∀ k, 0 < k -> k < n -> (k - 1) / 2 = i -> ¬ less H[k]! H[gH n H i]! := by
        intro k k0 k1 k2
        have kk : k = 2 * i + 1 \/ k = 2 * i + 2 := by omega
        unfold gH
        split
        · rename_i hc
          rcases kk with e | e
          · rw [e]; exact mQ hc.2
          rw [e]; exact fun h => mQ h h
        rename_i hc
        rcases kk with e | e
        · rw [e]; exact fun h => mQ h h
        rw [e] at k1 ⊢; exact fun h => hc ⟨k1, h⟩
      by_cases hl : less H[gH n H i]! x
      · rw [rc hl]
        have hm := h.move kn kne
        have cell : ∀ w, (H.set i H[gH n H i]!)[w]! = if w = i then H[gH n H i]! else H[w]! := by
          intro w
          rw [ba]
          by_cases e : w = i
          · rw [rc ⟨e, by omega⟩, rc e]
          rw [ut (fun k => e k.1), ut e]
        have o' : Ord n (H.set i H[gH n H i]!) (gH n H i) := by
          refine ⟨?_, ?_, ?_⟩
          · intro w hw
            rw [cell]
            split
            · exact o.den _ kn
            exact o.den _ hw
          · intro k k0 k1 k2 k3
            rw [cell, cell]
            by_cases e : k = i
            · rw [rc e, ut (by omega)]
              have := o.Kx (by omega) (gH n H i) (by omega) kn kp
              rwa [e]
            rw [ut e]
            by_cases e2 : (k - 1) / 2 = i
            · rw [rc e2]; exact kb k k0 k1 e2
            rw [ut e2]; exact o.ord k k0 k1 e e2
          intro _ k k0 k1 k2
          rw [cell, cell, rc kp, ut (by omega)]
          have := o.ord k k0 k1 (by omega) (by omega)
          rwa [k2] at this
        obtain ⟨j, H1, W1, e1, e3, e4, e5, e6, e7, e8, e9, e10⟩ := Hi dx d (gH n H i) _ _ (by omega) hm o' (by
          intro _
          rw [cell, rc kp]
          exact mQ hl)
        rw [v6] at e5 e6
        refine ⟨j, H1, W1, e1, e3, e4, e5, e6, e7, ?_, ?_, e10⟩
        · intro k hk
          rw [e8 k hk, cell, ut (by omega)]
        intro k hk
        rw [e9 k ?_, ba, ut (fun c => hk (gH n H i) kn kne c.1.symm)]
        intro w hw Il
        rw [cell]
        split
        · exact hk (gH n H i) kn kne
        rename_i e; exact hk w hw e
      rw [ut hl]
      refine ⟨i, H, W, rfl, h, o, rfl, rfl, u, fun _ _ => rfl, fun _ _ => rfl, ?_⟩
      intro k k0 k1 k2
      exact uQ dx (o.den _ kn) (o.den _ k1) hl (kb k k0 k1 k2)
    rw [dif_neg hk]
    refine ⟨i, H, W, rfl, h, o, rfl, rfl, u, fun _ _ => rfl, fun _ _ => rfl, ?_⟩
    intro k k0 k1 k2
    omega
structure yS (n:Nat) (x:Ev) (M:Ev->Prop) (K:Nat->Prop) (H:List Ev) (W:List Int) (H1:List Ev) (W1:List Int):Prop where
 hl:(agb H1)=agb H
 wl:(agb W1)=agb W
 ix: ∀w,w<n->0<=(H1[w]!).ix/\(H1[w]!).ix<agb W/\W1[(H1[w]!).n]! =(w:Int)
 mem: ∀e,(∃w,w<n/\H1[w]! =e)↔(e=x\/M e)
 ord: ∀k,0<k->k<n-> ¬less H1[k]! H1[(k-1) / 2]!
 out: ∀k,K k->W1[k]! =W[k]!
theorem ID {n:Nat} {x:Ev} {M:Ev->Prop} {H H1:List Ev} {W W1:List Int} {i j:Nat} (h1:Ar n x M H1 W1 j) (o1:Ord n H1 j) (hl:(agb H1)=agb H) (wl:(agb W1)=agb W)
 (u:0<j-> ¬less x H1[(j-1) / 2]!) (kd: ∀k,0<k->k<n->(k-1) / 2=j-> ¬less H1[k]! x) (out: ∀k,(∀w,w<n->w≠i->(H[w]!).n≠k)->W1[k]! =W[k]!):
 yS n x M (fun k=>k≠x.n/\ ∀w,w<n->w≠i->(H[w]!).n≠k) H W (H1.set j x) (W1.set x.n (j:Int)):=by
 have hn:=h1.hn;have hj:=h1.lt;have f:=h1.fill;have cell: ∀w,(H1.set j x)[w]! =if w=j then x else H1[w]!:=by
  intro w;rw [ba]
  by_cases e:w=j
  · rw [rc ⟨e,by omega⟩,rc e]
  rw [ut (fun k=>e k.1),ut e]
 refine ⟨by rw [v6];exact hl,by rw [v6];exact wl,?_,f.2,?_,?_⟩
 · rw [<- wl];exact f.1
 · intro k k0 kn
   rw [cell,cell]
   by_cases e:k=j
   · rw [rc e,ut (by omega),e];exact u (by omega)
   rw [ut e]
   by_cases e2:(k-1) / 2=j
   · rw [rc e2];exact kd k k0 kn e2
   rw [ut e2];exact o1.ord k k0 kn e e2
 rintro k ⟨k1,k2⟩
 rw [ba,ut (fun c=>k1 c.1)];exact out k k2
noncomputable def bZ (n:Nat) (x:Ev) (i:Nat) (H:List Ev) (W:List Int):List Ev×List Int:=
 let u:=iw x i H W
 let d:=dp n x u.1 u.2.1 u.2.2
 (d.2.1.set d.1 x,d.2.2.set x.n (d.1:Int))
theorem yb {n:Nat} {x:Ev} {M:Ev->Prop} (dx:1<=x.2.1) {i:Nat} {H:List Ev} {W:List Int} (h:Ar n x M H W i) (o:Ord n H i):
 yS n x M (fun k=>k≠x.n/\ ∀w,w<n->w≠i->(H[w]!).n≠k) H W (bZ n x i H W).1 (bZ n x i H W).2:=by
 obtain ⟨j,H1,W1,e1,e3,e4,e5,e6,e7,e8,e9,e10⟩:=DR dx i H W h o;obtain ⟨k,H2,W2,f1,f3,f4,f5,f6,f7,f8,f9,f10⟩:=Hi dx n j H1 W1 (by omega) e3 e4 e7;have e:bZ n x i H W=(H2.set k x,W2.set x.n (k:Int)):=by unfold bZ;rw [e1];dsimp only;rw [f1]
 rw [e];refine ID f3 f4 (by omega) (by omega) f7 f10 ?_;intro c hc;rw [f9 c ?_,e9 c hc];intro w hw hwj hcw;have hm:M H1[w]!:=(e3.mem _).1 ⟨w,hw,hwj,rfl⟩;obtain ⟨v,v1,v2,v3⟩:=(h.mem _).2 hm;exact hc v v1 v2 (by rw [v3];exact hcw)
theorem Ky {n:Nat} {x:Ev} {M:Ev->Prop} (dx:1<=x.2.1) {i:Nat} {H:List Ev} {W:List Int} (h:Ar n x M H W i) (o:Ord n H i) (hk: ∀k,0<k->k<n->(k-1) / 2=i-> ¬less H[k]! x):
 bZ n x i H W=((iw x i H W).2.1.set (iw x i H W).1 x,(iw x i H W).2.2.set x.n ((iw x i H W).1:Int)):=by
 obtain ⟨j,H1,W1,e1,e3,e4,e5,e6,e7,e8,e9,e10⟩:=DR dx i H W h o;unfold bZ;rw [e1];dsimp only;rw [P4 (e10 hk)]
def o3 (x:Ev):Prop:=aW (x.1,x.2.1)/\iJ (x.1,x.2.1)/\0<=x.2.2.1/\x.2.2.1<=1000000
theorem o3.den {x:Ev} (h:o3 x):1<=x.2.1:=h.1.1
noncomputable def FF (x y:Ev):Int:=if dC (x.1,x.2.1) (y.1,y.2.1)≠0 then dC (x.1,x.2.1) (y.1,y.2.1) else iH x.2.2.1 y.2.2.1
theorem Bp (x y:Ev):FF x y<0↔less x y:=by
 unfold FF less
 by_cases h:dC (x.1,x.2.1) (y.1,y.2.1)=0
 · rw [ut (by simpa using h),h]
   rcases cN x.2.2.1 y.2.2.1 with ⟨h1,e⟩|⟨h1,e⟩|⟨h1,e⟩<;>rw [e]<;>constructor<;>intro<;>omega
 rw [rc h];constructor<;>intro<;>omega
theorem dd {x y:Ev} (hx:o3 x) (hy:o3 y):bT x y=agc (FF x y):=by unfold bT FF;rw [Cw hx.2.1 hy.2.1,rc ⟨hx.1,hy.1⟩];simp only [ao,iu,yR]
theorem mG {x y:Ev} (hx:o3 x) (hy:o3 y):dM x y=agc (agq (less x y)):=by
 unfold dM less;rw [wc hx.2.1 hy.2.1];simp only [ao];generalize dC (x.1,x.2.1) (y.1,y.2.1)=c
 by_cases h1:c<0
 · simp [h1]
 by_cases h2:c=0
 · subst h2;simp
 simp only [h1,eD h2,h2,decide_false,pp,false_or,false_and]
theorem Cy {x y:Ev}:agq (FF x y<0)=agq (less x y):=by simp only [Bp]
theorem IE {x y:Ev}:agq (0<=FF x y)=!agq (less x y):=by
 have:=Bp x y
 by_cases h:less x y
 · have h2:=this.2 h
   have: ¬0<=FF x y:=by omega
   simp [h,this]
 have h2: ¬FF x y<0:=fun k=>h (this.1 k)
 have:0<=FF x y:=by omega
 simp [h,this]
structure lD (n:Nat) (H:List Ev) (W:List Int):Prop where
 hn:n<=agb H
 hb:(agb H)<=1000000
 ev: ∀w,w<n->o3 H[w]!/\0<=(H[w]!).ix/\(H[w]!).ix<agb W
theorem lD.move {n:Nat} {H:List Ev} {W:List Int} (c:lD n H W) {i j:Nat} (_hi:i<n) (hj:j<n) (k:Nat) (v:Int):lD n (H.set i H[j]!) (W.set k v):=by
 have hn:=c.hn;refine ⟨by rw [v6];exact hn,by rw [v6];exact c.hb,?_⟩;intro w hw;rw [ba,v6];split
 · exact c.ev j hj
 exact c.ev w hw
theorem DS {H:List Ev} {W:List Int} {x:Ev} {u fr:List Int} {us:List Bool} {i:Nat} (hi:i<agb H) (h0:0<=x.ix) (h1:x.ix<agb W):
 bK (u,us,fr,(i:Int),x.1,x.2.1,x.2.2.1,x.2.2.2.1,x.2.2.2.2,H,W)=agc (H.set i x,W.set x.n (i:Int)):=by
 unfold bK;have e1:=aq H i hi;have e2:=c6 (l:=W) h0 h1;simp only [e1,e2,ao,xG,beq_self_eq_true,lw];rfl
theorem DT {n cap:Nat} {H:List Ev} {W:List Int} {x:Ev} {u fr:List Int} {us:List Bool} {i:Nat} (hi:i<n) (hn:n<=agb H) (h0:0<=x.ix) (h1:x.ix<agb W):
 bJ (u,us,fr,n,cap,(i:Int),x.1,x.2.1,x.2.2.1,x.2.2.2.1,x.2.2.2.2,H,W)=agc (H.set i x,W.set x.n (i:Int)):=by
 unfold bJ;have e1:=aq (H.take n) i (by rw [aal];omega);have e2:=c6 (l:=W) h0 h1;simp only [e1,e2,ao,xG,beq_self_eq_true,lw];rfl
theorem qB {i:Nat} (h:i<1000000000):ai .i64 (aa6 (ai .i64 (((i+1:Nat):Int) -1)) 2)=((i / 2:Nat):Int):=by
 have e:ai .i64 (((i+1:Nat):Int) -1)=(i:Int):=by rw [wi];omega
 rw [e,aaE (by omega),wi];omega
theorem tX {i:Nat} (h:i<1000000000):ai .i64 ((ai .i64 (2*(i:Int)))+1)=((2*i+1:Nat):Int):=by
 have e:ai .i64 (2*(i:Int))=((2*i:Nat):Int):=by rw [wi];omega
 rw [e,wi];omega
theorem yc {n:Nat} {x:Ev}: ∀{i:Nat} {H:List Ev} {W:List Int} {j:Nat} {H1:List Ev} {W1:List Int},lD n H W->i<n->iw x i H W=(j,H1,W1)-> ∀w,w<n->o3 H1[w]!/\0<=(H1[w]!).ix/\(H1[w]!).ix<agb W
 |0,H,W,j,H1,W1,c,hi,e=>by rw [iw] at e;injection e with e1 e;injection e with e2 e3;subst e2;exact c.ev
 |i+1,H,W,j,H1,W1,c,hi,e=>by
  rw [iw] at e;split at e
  · have:=yc (c.move hi (show i / 2<n by omega) (H[i / 2]!).n ((i+1:Nat):Int)) (by omega) e
    rw [v6] at this;exact this
  injection e with e1 e;injection e with e2 e3
  subst e2;exact c.ev
termination_by i=>i
decreasing_by omega
theorem MD {c0:List Int×List Bool×List Int×Int×Int×Int×Int×Int×Int×List Ev×List Int} {n i:Nat} {H:List Ev} {W:List Int} {u fr:List Int} {us:List Bool} {x:Ev}
 (c:lD n H W) (hn:(agb H)=n) (hi:i<n) (hx:o3 x) (x0:0<=x.ix) (x1:x.ix<agb W) (l1:(agb c0.2.2.2.2.2.2.2.2.2.1)=n) (l2:(agb c0.2.2.2.2.2.2.2.2.2.2)=agb W):
 fx c0 ((i:Int),((2*i+1:Nat):Int),H,W,u,us,fr,x)=
  agc (if 2*i+1<n/\less H[gH n H i]! x then .next (((gH n H i:Nat):Int),((2*gH n H i+1:Nat):Int),H.set i H[gH n H i]!,W.set (H[gH n H i]!).n (i:Int),u,us,fr,x)
   else .done (.done (H.set i x,W.set x.n (i:Int)))):=by
 have hb:=c.hb;have fin:(bK (u,us,fr,(i:Int),x.1,x.2.1,x.2.2.1,x.2.2.2.1,x.2.2.2.2,H,W))=agc (H.set i x,W.set x.n (i:Int)):=DS (by omega) x0 x1;have ln1:(H.set i x).length=(agb c0.2.2.2.2.2.2.2.2.2.1):=by rw [v6];omega
 have ln2:(W.set x.n (i:Int)).length=(agb c0.2.2.2.2.2.2.2.2.2.2):=by rw [v6];omega
 unfold fx;simp only [ay,hn,fin,ao,ln1,ln2,beq_self_eq_true,lw]
 by_cases h1:2*i+1<n
 · have e1:agq (((2*i+1:Nat):Int)<(n:Int))=age:=by simp;omega
   have e2:ai .i64 (((2*i+1:Nat):Int)+1)=((2*i+2:Nat):Int):=aV (by omega);obtain ⟨o4,a1,a2⟩:=c.ev (2*i+1) h1;have g1:=aq H (2*i+1) (by omega);have s1:(bK (u,us,fr,(i:Int),(H[2*i+1]!).1,(H[2*i+1]!).2.1,(H[2*i+1]!).2.2.1,(H[2*i+1]!).2.2.2.1,(H[2*i+1]!).2.2.2.2,H,W))=agc (H.set i H[2*i+1]!,W.set (H[2*i+1]!).n (i:Int)):=DS (by omega) a1 a2;simp only [e1,e2,lw,g1,ao,s1,dd o4 hx,IE,tX (show 2*i+1<1000000000 by omega)]
   by_cases h2:2*i+2<n
   · have e3:agq (((2*i+2:Nat):Int)<(n:Int))=age:=by simp;omega
     obtain ⟨S',b1,b2⟩:=c.ev (2*i+2) h2;have g2:=aq H (2*i+2) (by omega);have s2:(bK (u,us,fr,(i:Int),(H[2*i+2]!).1,(H[2*i+2]!).2.1,(H[2*i+2]!).2.2.1,(H[2*i+2]!).2.2.2.1,(H[2*i+2]!).2.2.2.2,H,W))=agc (H.set i H[2*i+2]!,W.set (H[2*i+2]!).n (i:Int)):=DS (by omega) b1 b2;simp only [e3,lw,g2,ao,s2,dd S' hx,dd S' o4,Cy,IE,tX (show 2*i+2<1000000000 by omega)]
     by_cases h3:less H[2*i+2]! H[2*i+1]!
     · have k:gH n H i=2*i+2:=by unfold gH;rw [rc ⟨h2,h3⟩]
       rw [k]
       by_cases h4:less H[2*i+2]! x
       · simp only [h1,h3,h4,decide_true,lw,pp,NE,and_self,if_true]
       simp only [h1,h3,h4,decide_true,decide_false,lw,IR,and_false,if_false]
     have k:gH n H i=2*i+1:=by unfold gH;rw [ut (fun h=>h3 h.2)]
     rw [k]
     by_cases h4:less H[2*i+1]! x
     · simp only [h1,h3,h4,decide_true,decide_false,pp,NE,and_self,if_true]
     simp only [h1,h3,h4,decide_false,lw,pp,IR,and_false,if_false]
   have e3:agq (((2*i+2:Nat):Int)<(n:Int))=agm:=by simp;omega
   have k:gH n H i=2*i+1:=by unfold gH;rw [ut (fun h=>h2 h.1)]
   rw [k];simp only [e3,pp]
   by_cases h4:less H[2*i+1]! x
   · simp only [h1,h4,decide_true,pp,NE,and_self,if_true]
   simp only [h1,h4,decide_false,lw,IR,and_false,if_false]
 have e1:agq (((2*i+1:Nat):Int)<(n:Int))=agm:=by simp;omega
 rw [ut (fun h=>h1 h.1),e1];rfl
theorem wj {c0 : List Int × List Bool × List Int × Int × Int × Int × Int × Int × Int × List Ev × List Int} {n : Nat} {u fr : List Int} {us : List Bool} {x : Ev} (hx : o3 x) (x0 : 0 <= x.ix) (l1 : (agb c0.2.2.2.2.2.2.2.2.2.1) = n) :
    ∀ (d i : Nat) (H : List Ev) (W : List Int), n - i <= d -> lD n H W -> (agb H) = n -> i < n -> x.ix < (agb W) -> (agb c0.2.2.2.2.2.2.2.2.2.2) = (agb W) ->
      aB (fx c0) ((i : Int), ((2 * i + 1 : Nat) : Int), H, W, u, us, fr, x) = agc (.done ((dp n x i H W).2.1.set (dp n x i H W).1 x, (dp n x i H W).2.2.set x.n ((dp n x i H W).1 : Int)))
  | 0, i, H, W, hd, c, hn, hi, x1, l2 => by omega
  | d + 1, i, H, W, hd, c, hn, hi, x1, l2 => by
    have r := MD (u := u) (us := us) (fr := fr) c hn hi hx x0 x1 l1 l2
    by_cases h : 2 * i + 1 < n /\ less H[gH n H i]! x
    · rw [rc h] at r
      have kc := nq n H i
      have kn : gH n H i < n := by omega
      rw [aQ r, wj hx x0 l1 d (gH n H i) _ _ (by omega) (c.move hi kn _ _) (by rw [v6]; exact hn) kn (by rw [v6]; exact x1) (by rw [v6]; exact l2)]
      have e : dp n x i H W = dp n x (gH n H i) (H.set i H[gH n H i]!) (W.set (H[gH n H i]!).n (i : Int)) := by
        rw [dp, dif_pos h.1, rc h.2]
      rw [e]
    rw [ut h] at r
    rw [aC r]
    have e : dp n x i H W = (i, H, W) := by
      rw [dp]
      split
      · rename_i h1; rw [ut (fun k => h ⟨h1, k⟩)]
      rfl
    rw [e]
theorem FG {c0 : List Int × List Bool × List Int × Int × Int × Int × Int × Int × Int × List Ev × List Int} {n : Nat} {u fr : List Int} {us : List Bool} {x : Ev} (hx : o3 x) (x0 : 0 <= x.ix) (l1 : (agb c0.2.2.2.2.2.2.2.2.2.1) = n) :
    ∀ (i : Nat) (H : List Ev) (W : List Int), lD n H W -> (agb H) = n -> i < n -> x.ix < (agb W) -> (agb c0.2.2.2.2.2.2.2.2.2.2) = (agb W) ->
      aB (dS c0) ((i : Int), H, W, u, us, fr, x) = agc (bZ n x i H W)
  | 0, H, W, c, hn, hi, x1, l2 => by
    have hb := c.hb
    have dn := wj (u := u) (us := us) (fr := fr) hx x0 l1 n 0 H W (by omega) c hn hi x1 l2
    refine (aC (r := bZ n x 0 H W) ?_)
    unfold dS
    have e1 : agq ((0 : Int) < ((0 : Nat) : Int)) = agm := by simp
    simp only [e1, pp, tX (show 0 < 1000000000 by omega)]
    rw [dn]
    unfold bZ
    rw [iw]
  | i + 1, H, W, c, hn, hi, x1, l2 => by
    have hb := c.hb
    have e1 : agq ((0 : Int) < ((i + 1 : Nat) : Int)) = age := decide_eq_true (by omega)
    have hp : i / 2 < n := by omega
    obtain ⟨o4, a1, a2⟩ := c.ev (i / 2) hp
    have g1 := aq H (i / 2) (by omega)
    have s1 : (bK (u, us, fr, ((i + 1 : Nat) : Int), (H[i / 2]!).1, (H[i / 2]!).2.1, (H[i / 2]!).2.2.1, (H[i / 2]!).2.2.2.1, (H[i / 2]!).2.2.2.2, H, W)) = agc (H.set (i + 1) H[i / 2]!, W.set (H[i / 2]!).n ((i + 1 : Nat) : Int)) := DS (by omega) a1 a2
    by_cases h : less x H[i / 2]!
    · have r : dS c0 (((i + 1 : Nat) : Int), H, W, u, us, fr, x) = agc (.next (((i / 2 : Nat) : Int), H.set (i + 1) H[i / 2]!, W.set (H[i / 2]!).n ((i + 1 : Nat) : Int), u, us, fr, x)) := by
        unfold dS
        simp only [e1, lw, qB (show i < 1000000000 by omega), g1, ao, dd hx o4, Cy, h, decide_true, s1]
      rw [aQ r, FG hx x0 l1 (i / 2) _ _ (c.move hi hp _ _) (by rw [v6]; exact hn) hp (by rw [v6]; exact x1) (by rw [v6]; exact l2)]
      have e : iw x (i + 1) H W = iw x (i / 2) (H.set (i + 1) H[i / 2]!) (W.set (H[i / 2]!).n ((i + 1 : Nat) : Int)) := by
        rw [iw, rc h]
      unfold bZ
      rw [e]
    have dn := wj (u := u) (us := us) (fr := fr) hx x0 l1 n (i + 1) H W (by omega) c hn hi x1 l2
    refine (aC (r := bZ n x (i + 1) H W) ?_)
    unfold dS
    simp only [e1, lw, qB (show i < 1000000000 by omega), g1, ao, dd hx o4, Cy, h, decide_false, pp, tX (show i + 1 < 1000000000 by omega)]
    rw [dn]
    unfold bZ
    rw [iw, ut h]
termination_by i=>i
decreasing_by omega
theorem FH {n:Nat} {u fr:List Int} {us:List Bool} {x:Ev} (hx:o3 x) (x0:0<=x.ix) {i:Nat} {H:List Ev} {W:List Int} (c:lD n H W) (hn:(agb H)=n) (hi:i<n) (x1:x.ix<agb W):
 dX (u,us,fr,(i:Int),x.1,x.2.1,x.2.2.1,x.2.2.2.1,x.2.2.2.2,H,W)=agc (bZ n x i H W):=by
 unfold dX;exact FG hx x0 hn i H W c hn hi x1 rfl
theorem fD {l:List Ev} {n i:Nat} (h:i<n) (hn:n<=agb l):aG (l.take n) (i:Int)=agc l[i]!:=by rw [aq (l.take n) i (by rw [aal];omega),jH h]
theorem ME {c0:List Int×List Bool×List Int×Nat×Nat×Int×Int×Int×Int×Int×Int×List Ev×List Int} {n cap i:Nat} {H:List Ev} {W:List Int} {u fr:List Int} {us:List Bool} {x:Ev}
 (c:lD n H W) (hi:i<n) (hx:o3 x) (x0:0<=x.ix) (x1:x.ix<agb W) (l1:(agb c0.2.2.2.2.2.2.2.2.2.2.2.1)=agb H) (l2:(agb c0.2.2.2.2.2.2.2.2.2.2.2.2)=agb W):
 fv c0 ((i:Int),((2*i+1:Nat):Int),H,W,u,us,fr,n,cap,x)=
  agc (if 2*i+1<n/\less H[gH n H i]! x then .next (((gH n H i:Nat):Int),((2*gH n H i+1:Nat):Int),H.set i H[gH n H i]!,W.set (H[gH n H i]!).n (i:Int),u,us,fr,n,cap,x)
   else .done (.done (H.set i x,W.set x.n (i:Int)))):=by
 have hb:=c.hb;have P5:=c.hn;have fin:(bJ (u,us,fr,n,cap,(i:Int),x.1,x.2.1,x.2.2.1,x.2.2.2.1,x.2.2.2.2,H,W))=agc (H.set i x,W.set x.n (i:Int)):=DT (cap:=cap) (by omega) c.hn x0 x1;have ln1:(H.set i x).length=(agb c0.2.2.2.2.2.2.2.2.2.2.2.1):=by rw [v6];omega
 have ln2:(W.set x.n (i:Int)).length=(agb c0.2.2.2.2.2.2.2.2.2.2.2.2):=by rw [v6];omega
 unfold fv;simp only [ay,fin,ao,ln1,ln2,beq_self_eq_true,lw]
 by_cases h1:2*i+1<n
 · have e1:agq (((2*i+1:Nat):Int)<(n:Int))=age:=by simp;omega
   have e2:ai .i64 (((2*i+1:Nat):Int)+1)=((2*i+2:Nat):Int):=aV (by omega);obtain ⟨o4,a1,a2⟩:=c.ev (2*i+1) h1;have g1:=fD (l:=H) (n:=n) (i:=2*i+1) (by omega) c.hn;have s1:(bJ (u,us,fr,n,cap,(i:Int),(H[2*i+1]!).1,(H[2*i+1]!).2.1,(H[2*i+1]!).2.2.1,(H[2*i+1]!).2.2.2.1,(H[2*i+1]!).2.2.2.2,H,W))=agc (H.set i H[2*i+1]!,W.set (H[2*i+1]!).n (i:Int)):=DT (cap:=cap) (by omega) c.hn a1 a2;simp only [e1,e2,lw,g1,ao,s1,dd o4 hx,IE,tX (show 2*i+1<1000000000 by omega)]
   by_cases h2:2*i+2<n
   · have e3:agq (((2*i+2:Nat):Int)<(n:Int))=age:=by simp;omega
     obtain ⟨S',b1,b2⟩:=c.ev (2*i+2) h2;have g2:=fD (l:=H) (n:=n) (i:=2*i+2) (by omega) c.hn;have s2:(bJ (u,us,fr,n,cap,(i:Int),(H[2*i+2]!).1,(H[2*i+2]!).2.1,(H[2*i+2]!).2.2.1,(H[2*i+2]!).2.2.2.1,(H[2*i+2]!).2.2.2.2,H,W))=agc (H.set i H[2*i+2]!,W.set (H[2*i+2]!).n (i:Int)):=DT (cap:=cap) (by omega) c.hn b1 b2;simp only [e3,lw,g2,ao,s2,dd S' hx,dd S' o4,Cy,IE,tX (show 2*i+2<1000000000 by omega)]
     by_cases h3:less H[2*i+2]! H[2*i+1]!
     · have k:gH n H i=2*i+2:=by unfold gH;rw [rc ⟨h2,h3⟩]
       rw [k]
       by_cases h4:less H[2*i+2]! x
       · simp only [h1,h3,h4,decide_true,lw,pp,NE,and_self,if_true]
       simp only [h1,h3,h4,decide_true,decide_false,lw,IR,and_false,if_false]
     have k:gH n H i=2*i+1:=by unfold gH;rw [ut (fun h=>h3 h.2)]
     rw [k]
     by_cases h4:less H[2*i+1]! x
     · simp only [h1,h3,h4,decide_true,decide_false,pp,NE,and_self,if_true]
     simp only [h1,h3,h4,decide_false,lw,pp,IR,and_false,if_false]
   have e3:agq (((2*i+2:Nat):Int)<(n:Int))=agm:=by simp;omega
   have k:gH n H i=2*i+1:=by unfold gH;rw [ut (fun h=>h2 h.1)]
   rw [k];simp only [e3,pp]
   by_cases h4:less H[2*i+1]! x
   · simp only [h1,h4,decide_true,pp,NE,and_self,if_true]
   simp only [h1,h4,decide_false,lw,IR,and_false,if_false]
 have e1:agq (((2*i+1:Nat):Int)<(n:Int))=agm:=by simp;omega
 rw [ut (fun h=>h1 h.1),e1];rfl
theorem wk {c0 : List Int × List Bool × List Int × Nat × Nat × Int × Int × Int × Int × Int × Int × List Ev × List Int} {n cap : Nat} {u fr : List Int} {us : List Bool} {x : Ev} (hx : o3 x) (x0 : 0 <= x.ix) :
    ∀ (d i : Nat) (H : List Ev) (W : List Int), n - i <= d -> lD n H W -> (agb c0.2.2.2.2.2.2.2.2.2.2.2.1) = (agb H) -> i < n -> x.ix < (agb W) -> (agb c0.2.2.2.2.2.2.2.2.2.2.2.2) = (agb W) ->
      aB (fv c0) ((i : Int), ((2 * i + 1 : Nat) : Int), H, W, u, us, fr, n, cap, x) = agc (.done ((dp n x i H W).2.1.set (dp n x i H W).1 x, (dp n x i H W).2.2.set x.n ((dp n x i H W).1 : Int)))
  | 0, i, H, W, hd, c, hn, hi, x1, l2 => by omega
  | d + 1, i, H, W, hd, c, hn, hi, x1, l2 => by
    have r := ME (u := u) (us := us) (fr := fr) (cap := cap) c hi hx x0 x1 hn l2
    by_cases h : 2 * i + 1 < n /\ less H[gH n H i]! x
    · rw [rc h] at r
      have kc := nq n H i
      have kn : gH n H i < n := by omega
      rw [aQ r, wk hx x0 d (gH n H i) _ _ (by omega) (c.move hi kn _ _) (by rw [v6]; exact hn) kn (by rw [v6]; exact x1) (by rw [v6]; exact l2)]
      have e : dp n x i H W = dp n x (gH n H i) (H.set i H[gH n H i]!) (W.set (H[gH n H i]!).n (i : Int)) := by
        rw [dp, dif_pos h.1, rc h.2]
      rw [e]
    rw [ut h] at r
    rw [aC r]
    have e : dp n x i H W = (i, H, W) := by
      rw [dp]
      split
      · rename_i h1; rw [ut (fun k => h ⟨h1, k⟩)]
      rfl
    rw [e]
theorem FI {c0 : List Int × List Bool × List Int × Nat × Nat × Int × Int × Int × Int × Int × Int × List Ev × List Int} {n cap : Nat} {u fr : List Int} {us : List Bool} {x : Ev} (hx : o3 x) (x0 : 0 <= x.ix) :
    ∀ (i : Nat) (H : List Ev) (W : List Int), lD n H W -> (agb c0.2.2.2.2.2.2.2.2.2.2.2.1) = (agb H) -> i < n -> x.ix < (agb W) -> (agb c0.2.2.2.2.2.2.2.2.2.2.2.2) = (agb W) ->
      aB (dR c0) ((i : Int), H, W, u, us, fr, n, cap, x) = agc (bZ n x i H W)
  | 0, H, W, c, hn, hi, x1, l2 => by
    have hb := c.hb
    have P5 := c.hn
    have dn := wk (u := u) (us := us) (fr := fr) (cap := cap) hx x0 n 0 H W (by omega) c hn hi x1 l2
    refine (aC (r := bZ n x 0 H W) ?_)
    unfold dR
    have e1 : agq ((0 : Int) < ((0 : Nat) : Int)) = agm := by simp
    simp only [e1, pp, tX (show 0 < 1000000000 by omega)]
    rw [dn]
    unfold bZ
    rw [iw]
  | i + 1, H, W, c, hn, hi, x1, l2 => by
    have hb := c.hb
    have P5 := c.hn
    have e1 : agq ((0 : Int) < ((i + 1 : Nat) : Int)) = age := decide_eq_true (by omega)
    have hp : i / 2 < n := by omega
    obtain ⟨o4, a1, a2⟩ := c.ev (i / 2) hp
    have g1 := fD (l := H) (n := n) (i := i / 2) (by omega) c.hn
    have s1 : (bJ (u, us, fr, n, cap, ((i + 1 : Nat) : Int), (H[i / 2]!).1, (H[i / 2]!).2.1, (H[i / 2]!).2.2.1, (H[i / 2]!).2.2.2.1, (H[i / 2]!).2.2.2.2, H, W)) = agc (H.set (i + 1) H[i / 2]!, W.set (H[i / 2]!).n ((i + 1 : Nat) : Int)) := DT (cap := cap) (by omega) c.hn a1 a2
    by_cases h : less x H[i / 2]!
    · have r : dR c0 (((i + 1 : Nat) : Int), H, W, u, us, fr, n, cap, x) = agc (.next (((i / 2 : Nat) : Int), H.set (i + 1) H[i / 2]!, W.set (H[i / 2]!).n ((i + 1 : Nat) : Int), u, us, fr, n, cap, x)) := by
        unfold dR
        simp only [e1, lw, qB (show i < 1000000000 by omega), g1, ao, dd hx o4, Cy, h, decide_true, s1]
      rw [aQ r, FI hx x0 (i / 2) _ _ (c.move hi hp _ _) (by rw [v6]; exact hn) hp (by rw [v6]; exact x1) (by rw [v6]; exact l2)]
      have e : iw x (i + 1) H W = iw x (i / 2) (H.set (i + 1) H[i / 2]!) (W.set (H[i / 2]!).n ((i + 1 : Nat) : Int)) := by
        rw [iw, rc h]
      unfold bZ
      rw [e]
    have dn := wk (u := u) (us := us) (fr := fr) (cap := cap) hx x0 n (i + 1) H W (by omega) c hn hi x1 l2
    refine (aC (r := bZ n x (i + 1) H W) ?_)
    unfold dR
    simp only [e1, lw, qB (show i < 1000000000 by omega), g1, ao, dd hx o4, Cy, h, decide_false, pp, tX (show i + 1 < 1000000000 by omega)]
    rw [dn]
    unfold bZ
    rw [iw, ut h]
termination_by i=>i
decreasing_by omega
theorem MF {n cap:Nat} {u fr:List Int} {us:List Bool} {x:Ev} (hx:o3 x) (x0:0<=x.ix) {i:Nat} {H:List Ev} {W:List Int} (c:lD n H W) (hi:i<n) (x1:x.ix<agb W):
 jm (u,us,fr,n,cap,(i:Int),x.1,x.2.1,x.2.2.1,x.2.2.2.1,x.2.2.2.2,H,W)=agc (bZ n x i H W):=by
 unfold jm;exact FI hx x0 i H W c rfl hi x1 rfl
theorem FJ {n cap:Nat} {H:List Ev} {W:List Int} {x:Ev} {u fr:List Int} {us:List Bool} {i k:Nat} (hi:i<n) (hk:k<n) (Og:k≠i) (hn:n<=agb H) (x0:0<=x.ix) (x1:x.ix<agb W) (k0:0<=(H[k]!).ix) (k1:(H[k]!).ix<agb W):
 gX (u,us,fr,n,cap,(i:Int),(k:Int),H.set i x,W.set x.n (i:Int))=agc ((H.set i H[k]!).set k x,(W.set (H[k]!).n (i:Int)).set x.n (k:Int)):=by
 have cell: ∀w,(H.set i x)[w]! =if w=i then x else H[w]!:=by
  intro w;rw [ba]
  by_cases e:w=i
  · rw [rc ⟨e,by omega⟩,rc e]
  rw [ut (fun k=>e k.1),ut e]
 have sh:((H.set i x).set i H[k]!).set k x=(H.set i H[k]!).set k x:=by rw [aa9]
 have sw:((W.set x.n (i:Int)).set (H[k]!).n (i:Int)).set x.n (k:Int)=(W.set (H[k]!).n (i:Int)).set x.n (k:Int):=by
  by_cases e:x.n=(H[k]!).n
  · simp only [e,aa9]
  rw [abp _ _ (fun h=>e h),aa9]
 have g1:aG ((H.set i x).take n) (k:Int)=agc H[k]!:=by rw [fD (by omega) (by rw [v6];omega),cell,ut Og]
 have g2:aG ((H.set i x).take n) (i:Int)=agc x:=by rw [fD (by omega) (by rw [v6];omega),cell,rc rfl]
 have g3:aG (((H.set i x).set i H[k]!).take n) (k:Int)=agc H[k]!:=by rw [fD (by omega) (by rw [v6,v6];omega),ba,ut (fun h=>Og h.1),cell,ut Og]
 have g4:aG (((H.set i H[k]!).set k x).take n) (i:Int)=agc H[k]!:=by rw [fD (by omega) (by rw [v6,v6];omega),ba,ut (fun h=>Og h.1.symm),ba,rc ⟨rfl,by omega⟩]
 have g5:aG (((H.set i H[k]!).set k x).take n) (k:Int)=agc x:=by rw [fD (by omega) (by rw [v6,v6];omega),ba,rc ⟨rfl,by rw [v6];omega⟩]
 have w6:=c6 (l:=W.set x.n (i:Int)) k0 (by rw [v6];exact k1);have w7:=c6 (l:=(W.set x.n (i:Int)).set (H[k]!).n (i:Int)) x0 (by rw [v6,v6];exact x1);have q1: ∀(l:List Int) (a:Int) (y:Ev),bO l y.2.2.2.1 a=l.set y.n a:=fun _ _ _=>rfl
 unfold gX;simp only [lB,g1,g2,g3,ao,sh,g4,g5,q1,w6,w7,sw,v6,beq_self_eq_true,lw]
theorem Ta {c0:List Int×List Bool×List Int×Nat×Nat×Int×List Ev×List Int} {n cap:Nat} {u fr:List Int} {us:List Bool} {x:Ev} (hx:o3 x) (x0:0<=x.ix):
 ∀(i:Nat) (H:List Ev) (W:List Int),lD n H W->i<n->x.ix<agb W->agb c0.2.2.2.2.2.2.1=agb H->agb c0.2.2.2.2.2.2.2=agb W->
  aB (gm c0) ((i:Int),H.set i x,W.set x.n (i:Int),u,us,fr,n,cap)=agc (((iw x i H W).1:Int),(iw x i H W).2.1.set (iw x i H W).1 x,(iw x i H W).2.2.set x.n ((iw x i H W).1:Int))
 |0,H,W,c,hi,x1,l1,l2=>by
  have P5:=c.hn;refine aC ?_;unfold gm;have e1:agq ((0:Int)<((0:Nat):Int))=agm:=by simp
  rw [iw];simp only [e1,pp,v6,l1,l2,beq_self_eq_true,lw]
 |i+1,H,W,c,hi,x1,l1,l2=>by
  have hb:=c.hb;have P5:=c.hn;have e1:agq ((0:Int)<((i+1:Nat):Int))=age:=decide_eq_true (by omega);have hp:i / 2<n:=by omega
  have dE:i / 2≠i+1:=by omega
  obtain ⟨o4,a1,a2⟩:=c.ev (i / 2) hp;have cell: ∀w,(H.set (i+1) x)[w]! =if w=i+1 then x else H[w]!:=by
   intro w;rw [ba]
   by_cases e:w=i+1
   · rw [rc ⟨e,by omega⟩,rc e]
   rw [ut (fun k=>e k.1),ut e]
  have g0:aG ((H.set (i+1) x).take n) ((i+1:Nat):Int)=agc x:=by rw [fD (by omega) (by rw [v6];omega),cell,rc rfl]
  have g1:aG ((H.set (i+1) x).take n) ((i / 2:Nat):Int)=agc H[i / 2]!:=by rw [fD (by omega) (by rw [v6];omega),cell,ut dE]
  by_cases h:less x H[i / 2]!
  · have sw:=FJ (cap:=cap) (u:=u) (us:=us) (fr:=fr) (x:=x) hi hp dE P5 x0 x1 a1 a2
    have r:gm c0 (((i+1:Nat):Int),H.set (i+1) x,W.set x.n ((i+1:Nat):Int),u,us,fr,n,cap)=agc (.next (((i / 2:Nat):Int),(H.set (i+1) H[i / 2]!).set (i / 2) x,(W.set (H[i / 2]!).n ((i+1:Nat):Int)).set x.n ((i / 2:Nat):Int),u,us,fr,n,cap)):=by unfold gm;simp only [e1,lw,qB (show i<1000000000 by omega),g0,g1,ao,mG hx o4,h,decide_true,sw]
    rw [aQ r,Ta hx x0 (i / 2) _ _ (c.move hi hp _ _) hp (by rw [v6];exact x1) (by rw [v6];exact l1) (by rw [v6];exact l2)];have e:iw x (i+1) H W=iw x (i / 2) (H.set (i+1) H[i / 2]!) (W.set (H[i / 2]!).n ((i+1:Nat):Int)):=by rw [iw,rc h]
    rw [e]
  refine aC ?_
  unfold gm;have e:iw x (i+1) H W=(i+1,H,W):=by rw [iw,ut h]
  rw [e];simp only [e1,lw,qB (show i<1000000000 by omega),g0,g1,ao,mG hx o4,h,decide_false,pp,v6,l1,l2,beq_self_eq_true]
termination_by i=>i
decreasing_by omega
theorem Kz {c0:List Int×List Bool×List Int×Nat×Nat×Int×List Ev×List Int} {n cap:Nat} {u fr:List Int} {us:List Bool} {x:Ev} (hx:o3 x) (x0:0<=x.ix):
 ∀(d i:Nat) (H:List Ev) (W:List Int),n-i<=d->lD n H W->i<n->x.ix<agb W->agb c0.2.2.2.2.2.2.1=agb H->agb c0.2.2.2.2.2.2.2=agb W->
  aB (jo c0) ((i:Int),H.set i x,W.set x.n (i:Int),u,us,fr,n,cap)=agc (((dp n x i H W).2.1.set (dp n x i H W).1 x,(dp n x i H W).2.2.set x.n ((dp n x i H W).1:Int)))
 |0,i,H,W,hd,c,hi,x1,l1,l2=>by omega
 |d+1,i,H,W,hd,c,hi,x1,l1,l2=>by
  have hb:=c.hb;have P5:=c.hn;have cell: ∀w,(H.set i x)[w]! =if w=i then x else H[w]!:=by
   intro w;rw [ba]
   by_cases e:w=i
   · rw [rc ⟨e,by omega⟩,rc e]
   rw [ut (fun k=>e k.1),ut e]
  have Tb:(H.set i x).length=(agb H):=v6;have body:jo c0 ((i:Int),H.set i x,W.set x.n (i:Int),u,us,fr,n,cap)=agc (if 2*i+1<n/\less H[gH n H i]! x then .next (((gH n H i:Nat):Int),(H.set i H[gH n H i]!).set (gH n H i) x,(W.set (H[gH n H i]!).n (i:Int)).set x.n ((gH n H i:Nat):Int),u,us,fr,n,cap) else .done ((H.set i x,W.set x.n (i:Int)))):=by
   have k1:=tX (show i<1000000000 by omega);unfold jo
   by_cases h1:2*i+1<n
   · have e1:agq ((n:Int)<=((2*i+1:Nat):Int))=agm:=decide_eq_false (by omega)
     have e2:ai .i64 (((2*i+1:Nat):Int)+1)=((2*i+2:Nat):Int):=aV (by omega);obtain ⟨o4,a1,a2⟩:=c.ev (2*i+1) h1;have g0:aG ((H.set i x).take n) (i:Int)=agc x:=by rw [fD (by omega) (by rw [v6];omega),cell,rc rfl]
     have g1:aG ((H.set i x).take n) ((2*i+1:Nat):Int)=agc H[2*i+1]!:=by rw [fD (by omega) (by rw [v6];omega),cell,ut (by omega)]
     have s1:=FJ (cap:=cap) (u:=u) (us:=us) (fr:=fr) (x:=x) hi h1 (by omega) P5 x0 x1 a1 a2;simp only [ay,k1,Tb,e1,e2,pp,g0,g1,ao,mG o4 hx,s1,v6,l1,l2,beq_self_eq_true,lw]
     by_cases h2:2*i+2<n
     · have e3:agq (((2*i+2:Nat):Int)<(n:Int))=age:=decide_eq_true (by omega)
       obtain ⟨S',b1,b2⟩:=c.ev (2*i+2) h2;have g2:aG ((H.set i x).take n) ((2*i+2:Nat):Int)=agc H[2*i+2]!:=by rw [fD (by omega) (by rw [v6];omega),cell,ut (by omega)]
       have s2:=FJ (cap:=cap) (u:=u) (us:=us) (fr:=fr) (x:=x) hi h2 (by omega) P5 x0 x1 b1 b2;simp only [e3,lw,g2,ao,s2,mG S' hx,mG S' o4]
       by_cases h3:less H[2*i+2]! H[2*i+1]!
       · have k:gH n H i=2*i+2:=by unfold gH;rw [rc ⟨h2,h3⟩]
         rw [k]
         by_cases h4:less H[2*i+2]! x
         · simp only [h1,h3,h4,decide_true,lw,pp,NE,and_self,if_true]
         simp only [h1,h3,h4,decide_true,decide_false,lw,IR,and_false,if_false]
       have k:gH n H i=2*i+1:=by unfold gH;rw [ut (fun h=>h3 h.2)]
       rw [k]
       by_cases h4:less H[2*i+1]! x
       · simp only [h1,h3,h4,decide_true,decide_false,pp,NE,and_self,if_true]
       simp only [h1,h3,h4,decide_false,lw,pp,IR,and_false,if_false]
     have e3:agq (((2*i+2:Nat):Int)<(n:Int))=agm:=decide_eq_false (by omega)
     have k:gH n H i=2*i+1:=by unfold gH;rw [ut (fun h=>h2 h.1)]
     rw [k];simp only [e3,pp]
     by_cases h4:less H[2*i+1]! x
     · simp only [h1,h4,decide_true,pp,NE,and_self,if_true]
     simp only [h1,h4,decide_false,lw,IR,and_false,if_false]
   have e1:agq ((n:Int)<=((2*i+1:Nat):Int))=age:=decide_eq_true (by omega)
   rw [ut (fun h=>h1 h.1)];simp only [ay,k1,Tb,e1,lw,v6,l1,l2,beq_self_eq_true]
  by_cases h:2*i+1<n/\less H[gH n H i]! x
  · rw [rc h] at body
    have kc:=nq n H i;have kn:gH n H i<n:=by omega
    rw [aQ body,Kz hx x0 d (gH n H i) _ _ (by omega) (c.move hi kn _ _) kn (by rw [v6];exact x1) (by rw [v6];exact l1) (by rw [v6];exact l2)];have e:dp n x i H W=dp n x (gH n H i) (H.set i H[gH n H i]!) (W.set (H[gH n H i]!).n (i:Int)):=by rw [dp,dif_pos h.1,rc h.2]
    rw [e]
  rw [ut h] at body
  rw [aC body];have e:dp n x i H W=(i,H,W):=by
   rw [dp];split
   · rename_i h1;rw [ut (fun k=>h ⟨h1,k⟩)]
   rfl
  rw [e]
theorem Bq {n:Nat} {H:List Ev} {W:List Int} {x:Ev} {u fr:List Int} {us:List Bool} {i k:Nat} (hi:i<n) (hk:k<n) (Og:k≠i) (hn:n=agb H) (x0:0<=x.ix) (x1:x.ix<agb W) (k0:0<=(H[k]!).ix) (k1:(H[k]!).ix<agb W):
 fN ((i:Int),(k:Int),u,us,fr,H.set i x,W.set x.n (i:Int))=agc (u,us,fr,(H.set i H[k]!).set k x,(W.set (H[k]!).n (i:Int)).set x.n (k:Int)):=by
 have cell: ∀w,(H.set i x)[w]! =if w=i then x else H[w]!:=by
  intro w;rw [ba]
  by_cases e:w=i
  · rw [rc ⟨e,by omega⟩,rc e]
  rw [ut (fun k=>e k.1),ut e]
 have sh:((H.set i x).set i H[k]!).set k x=(H.set i H[k]!).set k x:=by rw [aa9]
 have sw:((W.set x.n (i:Int)).set (H[k]!).n (i:Int)).set x.n (k:Int)=(W.set (H[k]!).n (i:Int)).set x.n (k:Int):=by
  by_cases e:x.n=(H[k]!).n
  · simp only [e,aa9]
  rw [abp _ _ (fun h=>e h),aa9]
 have g1:aG ((H.set i x)) (k:Int)=agc H[k]!:=by rw [aq _ _ (by rw [v6];omega),cell,ut Og]
 have g2:aG ((H.set i x)) (i:Int)=agc x:=by rw [aq _ _ (by rw [v6];omega),cell,rc rfl]
 have g3:aG (((H.set i x).set i H[k]!)) (k:Int)=agc H[k]!:=by rw [aq _ _ (by rw [v6,v6];omega),ba,ut (fun h=>Og h.1),cell,ut Og]
 have g4:aG (((H.set i H[k]!).set k x)) (i:Int)=agc H[k]!:=by rw [aq _ _ (by rw [v6,v6];omega),ba,ut (fun h=>Og h.1.symm),ba,rc ⟨rfl,by omega⟩]
 have g5:aG (((H.set i H[k]!).set k x)) (k:Int)=agc x:=by rw [aq _ _ (by rw [v6,v6];omega),ba,rc ⟨rfl,by rw [v6];omega⟩]
 have w6:=c6 (l:=W.set x.n (i:Int)) k0 (by rw [v6];exact k1);have w7:=c6 (l:=(W.set x.n (i:Int)).set (H[k]!).n (i:Int)) x0 (by rw [v6,v6];exact x1);have q1: ∀(l:List Int) (a:Int) (y:Ev),bO l y.2.2.2.1 a=l.set y.n a:=fun _ _ _=>rfl
 unfold fN;simp only [lB,g1,g2,g3,ao,sh,g4,g5,q1,w6,w7,sw,v6,beq_self_eq_true,lw]
theorem Tc {c0:Int×List Int×List Bool×List Int×List Ev×List Int} {n:Nat} {u fr:List Int} {us:List Bool} {x:Ev} (hx:o3 x) (x0:0<=x.ix) (l3:(agb c0.2.1)=agb u) (l4:(agb c0.2.2.1)=agb us) (l5:(agb c0.2.2.2.1)=agb fr):
 ∀(i:Nat) (H:List Ev) (W:List Int),lD n H W->i<n->agb H=n->x.ix<agb W->agb c0.2.2.2.2.1=agb H->agb c0.2.2.2.2.2=agb W->
  aB (gq c0) ((i:Int),u,us,fr,H.set i x,W.set x.n (i:Int))=agc (((iw x i H W).1:Int),u,us,fr,(iw x i H W).2.1.set (iw x i H W).1 x,(iw x i H W).2.2.set x.n ((iw x i H W).1:Int))
 |0,H,W,c,hi,Oh,x1,l1,l2=>by
  have P5:=c.hn;refine aC ?_;unfold gq;have e1:agq ((0:Int)<((0:Nat):Int))=agm:=by simp
  rw [iw];simp only [e1,pp,v6,l1,l2,l3,l4,l5,beq_self_eq_true,lw]
 |i+1,H,W,c,hi,Oh,x1,l1,l2=>by
  have hb:=c.hb;have P5:=c.hn;have e1:agq ((0:Int)<((i+1:Nat):Int))=age:=decide_eq_true (by omega);have hp:i / 2<n:=by omega
  have dE:i / 2≠i+1:=by omega
  obtain ⟨o4,a1,a2⟩:=c.ev (i / 2) hp;have cell: ∀w,(H.set (i+1) x)[w]! =if w=i+1 then x else H[w]!:=by
   intro w;rw [ba]
   by_cases e:w=i+1
   · rw [rc ⟨e,by omega⟩,rc e]
   rw [ut (fun k=>e k.1),ut e]
  have g0:aG ((H.set (i+1) x)) ((i+1:Nat):Int)=agc x:=by rw [aq _ _ (by rw [v6];omega),cell,rc rfl]
  have g1:aG ((H.set (i+1) x)) ((i / 2:Nat):Int)=agc H[i / 2]!:=by rw [aq _ _ (by rw [v6];omega),cell,ut dE]
  by_cases h:less x H[i / 2]!
  · have sw:=Bq (u:=u) (us:=us) (fr:=fr) (x:=x) hi hp dE Oh.symm x0 x1 a1 a2
    have r:gq c0 (((i+1:Nat):Int),u,us,fr,H.set (i+1) x,W.set x.n ((i+1:Nat):Int))=agc (.next (((i / 2:Nat):Int),u,us,fr,(H.set (i+1) H[i / 2]!).set (i / 2) x,(W.set (H[i / 2]!).n ((i+1:Nat):Int)).set x.n ((i / 2:Nat):Int))):=by unfold gq;simp only [e1,lw,qB (show i<1000000000 by omega),g0,g1,ao,mG hx o4,h,decide_true,sw]
    rw [aQ r,Tc hx x0 l3 l4 l5 (i / 2) _ _ (c.move hi hp _ _) hp (by rw [v6];exact Oh) (by rw [v6];exact x1) (by rw [v6];exact l1) (by rw [v6];exact l2)];have e:iw x (i+1) H W=iw x (i / 2) (H.set (i+1) H[i / 2]!) (W.set (H[i / 2]!).n ((i+1:Nat):Int)):=by rw [iw,rc h]
    rw [e]
  refine aC ?_
  unfold gq;have e:iw x (i+1) H W=(i+1,H,W):=by rw [iw,ut h]
  rw [e];simp only [e1,lw,qB (show i<1000000000 by omega),g0,g1,ao,mG hx o4,h,decide_false,pp,v6,l1,l2,l3,l4,l5,beq_self_eq_true]
termination_by i=>i
decreasing_by omega
theorem KA {c0:Int×List Int×List Bool×List Int×List Ev×List Int} {n:Nat} {u fr:List Int} {us:List Bool} {x:Ev} (hx:o3 x) (x0:0<=x.ix) (l3:(agb c0.2.1)=agb u) (l4:(agb c0.2.2.1)=agb us) (l5:(agb c0.2.2.2.1)=agb fr):
 ∀(d i:Nat) (H:List Ev) (W:List Int),n-i<=d->lD n H W->i<n->agb H=n->x.ix<agb W->agb c0.2.2.2.2.1=agb H->agb c0.2.2.2.2.2=agb W->
  aB (jq c0) ((i:Int),u,us,fr,H.set i x,W.set x.n (i:Int))=agc ((u,us,fr,(dp n x i H W).2.1.set (dp n x i H W).1 x,(dp n x i H W).2.2.set x.n ((dp n x i H W).1:Int)))
 |0,i,H,W,hd,c,hi,Oh,x1,l1,l2=>by omega
 |d+1,i,H,W,hd,c,hi,Oh,x1,l1,l2=>by
  have hb:=c.hb;have P5:=c.hn;have cell: ∀w,(H.set i x)[w]! =if w=i then x else H[w]!:=by
   intro w;rw [ba]
   by_cases e:w=i
   · rw [rc ⟨e,by omega⟩,rc e]
   rw [ut (fun k=>e k.1),ut e]
  have Tb:(H.set i x).length=(agb H):=v6;have body:jq c0 ((i:Int),u,us,fr,H.set i x,W.set x.n (i:Int))=agc (if 2*i+1<n/\less H[gH n H i]! x then .next (((gH n H i:Nat):Int),u,us,fr,(H.set i H[gH n H i]!).set (gH n H i) x,(W.set (H[gH n H i]!).n (i:Int)).set x.n ((gH n H i:Nat):Int)) else .done ((u,us,fr,H.set i x,W.set x.n (i:Int)))):=by
   have k1:=tX (show i<1000000000 by omega);unfold jq
   by_cases h1:2*i+1<n
   · have e1:agq ((n:Int)<=((2*i+1:Nat):Int))=agm:=decide_eq_false (by omega)
     have e2:ai .i64 (((2*i+1:Nat):Int)+1)=((2*i+2:Nat):Int):=aV (by omega);obtain ⟨o4,a1,a2⟩:=c.ev (2*i+1) h1;have g0:aG ((H.set i x)) (i:Int)=agc x:=by rw [aq _ _ (by rw [v6];omega),cell,rc rfl]
     have g1:aG ((H.set i x)) ((2*i+1:Nat):Int)=agc H[2*i+1]!:=by rw [aq _ _ (by rw [v6];omega),cell,ut (by omega)]
     have s1:=Bq (u:=u) (us:=us) (fr:=fr) (x:=x) hi h1 (by omega) Oh.symm x0 x1 a1 a2;simp only [ay,k1,Tb,Oh,e1,e2,pp,g0,g1,ao,mG o4 hx,s1,v6,l1,l2,l3,l4,l5,beq_self_eq_true,lw]
     by_cases h2:2*i+2<n
     · have e3:agq (((2*i+2:Nat):Int)<(n:Int))=age:=decide_eq_true (by omega)
       obtain ⟨S',b1,b2⟩:=c.ev (2*i+2) h2;have g2:aG ((H.set i x)) ((2*i+2:Nat):Int)=agc H[2*i+2]!:=by rw [aq _ _ (by rw [v6];omega),cell,ut (by omega)]
       have s2:=Bq (u:=u) (us:=us) (fr:=fr) (x:=x) hi h2 (by omega) Oh.symm x0 x1 b1 b2;simp only [e3,lw,g2,ao,s2,mG S' hx,mG S' o4]
       by_cases h3:less H[2*i+2]! H[2*i+1]!
       · have k:gH n H i=2*i+2:=by unfold gH;rw [rc ⟨h2,h3⟩]
         rw [k]
         by_cases h4:less H[2*i+2]! x
         · simp only [h1,h3,h4,decide_true,lw,pp,NE,and_self,if_true]
         simp only [h1,h3,h4,decide_true,decide_false,lw,IR,and_false,if_false]
       have k:gH n H i=2*i+1:=by unfold gH;rw [ut (fun h=>h3 h.2)]
       rw [k]
       by_cases h4:less H[2*i+1]! x
       · simp only [h1,h3,h4,decide_true,decide_false,pp,NE,and_self,if_true]
       simp only [h1,h3,h4,decide_false,lw,pp,IR,and_false,if_false]
     have e3:agq (((2*i+2:Nat):Int)<(n:Int))=agm:=decide_eq_false (by omega)
     have k:gH n H i=2*i+1:=by unfold gH;rw [ut (fun h=>h2 h.1)]
     rw [k];simp only [e3,pp]
     by_cases h4:less H[2*i+1]! x
     · simp only [h1,h4,decide_true,pp,NE,and_self,if_true]
     simp only [h1,h4,decide_false,lw,IR,and_false,if_false]
   have e1:agq ((n:Int)<=((2*i+1:Nat):Int))=age:=decide_eq_true (by omega)
   rw [ut (fun h=>h1 h.1)];simp only [ay,k1,Tb,Oh,e1,lw,v6,l1,l2,l3,l4,l5,beq_self_eq_true]
  by_cases h:2*i+1<n/\less H[gH n H i]! x
  · rw [rc h] at body
    have kc:=nq n H i;have kn:gH n H i<n:=by omega
    rw [aQ body,KA hx x0 l3 l4 l5 d (gH n H i) _ _ (by omega) (c.move hi kn _ _) kn (by rw [v6];exact Oh) (by rw [v6];exact x1) (by rw [v6];exact l1) (by rw [v6];exact l2)];have e:dp n x i H W=dp n x (gH n H i) (H.set i H[gH n H i]!) (W.set (H[gH n H i]!).n (i:Int)):=by rw [dp,dif_pos h.1,rc h.2]
    rw [e]
  rw [ut h] at body
  rw [aC body];have e:dp n x i H W=(i,H,W):=by
   rw [dp];split
   · rename_i h1;rw [ut (fun k=>h ⟨h1,k⟩)]
   rfl
  rw [e]
theorem Td {n:Nat} {H:List Ev} {W:List Int} {x:Ev} {u fr:List Int} {us:List Bool} {i k:Nat} (hi:i<n) (hk:k<n) (Og:k≠i) (hn:n=agb H) (x0:0<=x.ix) (x1:x.ix<agb W) (k0:0<=(H[k]!).ix) (k1:(H[k]!).ix<agb W):
 oY (u,us,fr,(i:Int),(k:Int),H.set i x,W.set x.n (i:Int))=agc ((H.set i H[k]!).set k x,(W.set (H[k]!).n (i:Int)).set x.n (k:Int)):=by
 have cell: ∀w,(H.set i x)[w]! =if w=i then x else H[w]!:=by
  intro w;rw [ba]
  by_cases e:w=i
  · rw [rc ⟨e,by omega⟩,rc e]
  rw [ut (fun k=>e k.1),ut e]
 have sh:((H.set i x).set i H[k]!).set k x=(H.set i H[k]!).set k x:=by rw [aa9]
 have sw:((W.set x.n (i:Int)).set (H[k]!).n (i:Int)).set x.n (k:Int)=(W.set (H[k]!).n (i:Int)).set x.n (k:Int):=by
  by_cases e:x.n=(H[k]!).n
  · simp only [e,aa9]
  rw [abp _ _ (fun h=>e h),aa9]
 have g1:aG ((H.set i x)) (k:Int)=agc H[k]!:=by rw [aq _ _ (by rw [v6];omega),cell,ut Og]
 have g2:aG ((H.set i x)) (i:Int)=agc x:=by rw [aq _ _ (by rw [v6];omega),cell,rc rfl]
 have g3:aG (((H.set i x).set i H[k]!)) (k:Int)=agc H[k]!:=by rw [aq _ _ (by rw [v6,v6];omega),ba,ut (fun h=>Og h.1),cell,ut Og]
 have g4:aG (((H.set i H[k]!).set k x)) (i:Int)=agc H[k]!:=by rw [aq _ _ (by rw [v6,v6];omega),ba,ut (fun h=>Og h.1.symm),ba,rc ⟨rfl,by omega⟩]
 have g5:aG (((H.set i H[k]!).set k x)) (k:Int)=agc x:=by rw [aq _ _ (by rw [v6,v6];omega),ba,rc ⟨rfl,by rw [v6];omega⟩]
 have w6:=c6 (l:=W.set x.n (i:Int)) k0 (by rw [v6];exact k1);have w7:=c6 (l:=(W.set x.n (i:Int)).set (H[k]!).n (i:Int)) x0 (by rw [v6,v6];exact x1);have q1: ∀(l:List Int) (a:Int) (y:Ev),bO l y.2.2.2.1 a=l.set y.n a:=fun _ _ _=>rfl
 unfold oY;simp only [lB,g1,g2,g3,ao,sh,g4,g5,q1,w6,w7,sw,v6,beq_self_eq_true,lw]
theorem Te {c0:List Int×List Bool×List Int×Int×List Ev×List Int} {n:Nat} {u fr:List Int} {us:List Bool} {x:Ev} (hx:o3 x) (x0:0<=x.ix):
 ∀(i:Nat) (H:List Ev) (W:List Int),lD n H W->i<n->agb H=n->x.ix<agb W->agb c0.2.2.2.2.1=agb H->agb c0.2.2.2.2.2=agb W->
  aB (gr c0) ((i:Int),H.set i x,W.set x.n (i:Int),u,us,fr)=agc (((iw x i H W).1:Int),(iw x i H W).2.1.set (iw x i H W).1 x,(iw x i H W).2.2.set x.n ((iw x i H W).1:Int))
 |0,H,W,c,hi,Oh,x1,l1,l2=>by
  have P5:=c.hn;refine aC ?_;unfold gr;have e1:agq ((0:Int)<((0:Nat):Int))=agm:=by simp
  rw [iw];simp only [e1,pp,v6,l1,l2,beq_self_eq_true,lw]
 |i+1,H,W,c,hi,Oh,x1,l1,l2=>by
  have hb:=c.hb;have P5:=c.hn;have e1:agq ((0:Int)<((i+1:Nat):Int))=age:=decide_eq_true (by omega);have hp:i / 2<n:=by omega
  have dE:i / 2≠i+1:=by omega
  obtain ⟨o4,a1,a2⟩:=c.ev (i / 2) hp;have cell: ∀w,(H.set (i+1) x)[w]! =if w=i+1 then x else H[w]!:=by
   intro w;rw [ba]
   by_cases e:w=i+1
   · rw [rc ⟨e,by omega⟩,rc e]
   rw [ut (fun k=>e k.1),ut e]
  have g0:aG ((H.set (i+1) x)) ((i+1:Nat):Int)=agc x:=by rw [aq _ _ (by rw [v6];omega),cell,rc rfl]
  have g1:aG ((H.set (i+1) x)) ((i / 2:Nat):Int)=agc H[i / 2]!:=by rw [aq _ _ (by rw [v6];omega),cell,ut dE]
  by_cases h:less x H[i / 2]!
  · have sw:=Td (u:=u) (us:=us) (fr:=fr) (x:=x) hi hp dE Oh.symm x0 x1 a1 a2
    have r:gr c0 (((i+1:Nat):Int),H.set (i+1) x,W.set x.n ((i+1:Nat):Int),u,us,fr)=agc (.next (((i / 2:Nat):Int),(H.set (i+1) H[i / 2]!).set (i / 2) x,(W.set (H[i / 2]!).n ((i+1:Nat):Int)).set x.n ((i / 2:Nat):Int),u,us,fr)):=by unfold gr;simp only [e1,lw,qB (show i<1000000000 by omega),g0,g1,ao,mG hx o4,h,decide_true,sw]
    rw [aQ r,Te hx x0 (i / 2) _ _ (c.move hi hp _ _) hp (by rw [v6];exact Oh) (by rw [v6];exact x1) (by rw [v6];exact l1) (by rw [v6];exact l2)];have e:iw x (i+1) H W=iw x (i / 2) (H.set (i+1) H[i / 2]!) (W.set (H[i / 2]!).n ((i+1:Nat):Int)):=by rw [iw,rc h]
    rw [e]
  refine aC ?_
  unfold gr;have e:iw x (i+1) H W=(i+1,H,W):=by rw [iw,ut h]
  rw [e];simp only [e1,lw,qB (show i<1000000000 by omega),g0,g1,ao,mG hx o4,h,decide_false,pp,v6,l1,l2,beq_self_eq_true]
termination_by i=>i
decreasing_by omega
theorem aD {p:Prop} [Decidable p] (h: ¬p):decide p=agm:=decide_eq_false h
theorem aH {p:Prop} [Decidable p] (h:p):decide p=age:=decide_eq_true h
theorem KB (ar:List Int) (be:List Bool) (fr:List Int) (fl:List Bool) (h1:(agb ar)<=200) (h2:(agb be)=agb ar) (h3:(agb fl)=agb ar):
 ((∀i,i<agb ar->0<=ar[i]!/\ar[i]!<=1000000/\be[i]!≠fl[i]!/\(be[i]! =age->1<=ar[i]!))->aB jC (((agb ar):Int),0,ar,be,fr,fl)=agc (.done 0))/\
 (¬(∀i,i<agb ar->0<=ar[i]!/\ar[i]!<=1000000/\be[i]!≠fl[i]!/\(be[i]! =age->1<=ar[i]!))->aB jC (((agb ar):Int),0,ar,be,fr,fl)=agc (.done 8)):=by
 have key:=cP (body:=jC) (fun i=>(((agb ar):Int),(i:Int),ar,be,fr,fl)) (agb ar) (fun i=> ¬(0<=ar[i]!/\ar[i]!<=1000000/\be[i]!≠fl[i]!/\(be[i]! =age->1<=ar[i]!))) (r:= .done 8) (e:= .done 0) (fun i hi=>by
  have e1:agq ((i:Int)<((agb ar):Int))=age:=aH (by omega);unfold jC;simp only [e1,lw,aq ar i hi,aq be i (by omega),aq fl i (by omega),ao,aV (show i<1000000000 by omega)];generalize ar[i]! =u;generalize be[i]! =a;generalize fl[i]! =b
  by_cases a1:u<0
  · simp only [a1,decide_true,lw];exact ⟨fun _=>trivial,fun h=>absurd (ww.1 h).1 (by omega)⟩
  · by_cases a2:1000000<u
    · simp only [a1,a2,decide_true,decide_false,lw,pp];exact ⟨fun _=>trivial,fun h=>absurd (ww.1 h).2.1 (by omega)⟩
    simp only [a1,a2,decide_false,pp]
    by_cases a3:u<1
    · cases a<;>cases b<;>simp [a3]<;>omega
    cases a<;>cases b<;>simp [a3]<;>omega) (by
  unfold jC;have:agq (((agb ar):Int)<((agb ar):Int))=agm:=aD (by omega);simp only [this,pp])
 constructor
 · intro h
   exact key.2 fun i hi=>ww.2 (h i hi)
 intro h
 obtain ⟨i,h⟩:=M2.1 h;obtain ⟨hi,hx⟩:=aar.1 h;exact key.1 ⟨i,hi,hx⟩
theorem Tf {α:Type} {n:Nat} (z:α) (h:n<=1048576):wN (n:Int) z=agc (Do n z):=by unfold wN;rw [rc ⟨by omega,by omega⟩];simp
theorem FK (s:aU) (hf:(agb s.bi)<=1000000):s7 s=agc (if ef s then 0 else 8):=by
 obtain ⟨ar,be,fr⟩:=s;dsimp only at hf;unfold s7;simp only [ay]
 by_cases a1:(agb ar)<1
 · have e:agq (((agb ar):Int)<1)=age:=aH (by omega)
   rw [e,ut (fun h=>by have:=h.n1;dsimp only at this;omega)];rfl
 have e1:agq (((agb ar):Int)<1)=agm:=aD (by omega)
 by_cases a2:200<agb ar
 · have e:agq (200<((agb ar):Int))=age:=aH (by omega)
   rw [e1,e,ut (fun h=>by have:=h.n2;dsimp only at this;omega)];rfl
 have e2:agq (200<((agb ar):Int))=agm:=aD (by omega)
 by_cases a3:(agb be)=agb ar
 case neg=>have e:(((agb be):Int) !=((agb ar):Int))=age:=dN (by omega);rw [e1,e2,e,ut (fun h=>a3 h.ul)];rfl
 have e3:(((agb be):Int) !=((agb ar):Int))=agm:=bV (by omega)
 by_cases a4:(agb ar)<agb fr
 · have e:agq (((agb ar):Int)<((agb fr):Int))=age:=aH (by omega)
   rw [e1,e2,e3,e,ut (fun h=>by have:=h.fl;dsimp only at this;omega)];rfl
 have e4:agq (((agb ar):Int)<((agb fr):Int))=agm:=aD (by omega);simp only [e1,e2,e3,e4,pp,beq_self_eq_true,lw,Tf agm (show (agb ar)<=1048576 by omega),ao];have ml: ∀k,(marks (Do (agb ar) agm) (fr.take k)).length=(agb ar):=fun k=>by rw [lS,aa2]
 have ml':(marks (Do (agb ar) agm) fr).length=(agb ar):=by rw [lS,aa2]
 have rep: ∀i:Nat,(Do (agb ar) agm)[i]! =agm:=by
  intro i
  by_cases h:i<agb ar
  · rw [getElem!_pos _ i (by simpa using h),List.getElem_replicate]
  rw [getElem!_neg _ i (by simpa using h)];rfl
 have FC:=KB ar be fr (marks (Do (agb ar) agm) fr) (by omega) a3 ml';have key:=cP (body:=od) (fun k=>(((agb ar):Int),(k:Int),ar,be,fr,marks (Do (agb ar) agm) (fr.take k))) (agb fr)
  (fun k=>fr[k]!<0\/((agb ar):Int)<=fr[k]!\/(marks (Do (agb ar) agm) (fr.take k))[(fr[k]!).toNat]! =age) (r:=8)
  (e:=if (∀i,i<agb ar->0<=ar[i]!/\ar[i]!<=1000000/\be[i]!≠(marks (Do (agb ar) agm) fr)[i]!/\(be[i]! =age->1<=ar[i]!)) then 0 else 8) (fun k hk=>by
   have f1:agq ((k:Int)<((agb fr):Int))=age:=aH (by omega);have f5:marks (Do (agb ar) agm) (fr.take (k+1))=bO (marks (Do (agb ar) agm) (fr.take k)) fr[k]! age:=by rw [iv hk,Aq]
   unfold od;simp only [ay,f1,lw,aq fr k hk,ao,aV (show k<1000000000 by omega),f5];clear f5;generalize fr[k]! =x
   by_cases b1:x<0
   · simp [b1]
   · by_cases b2:((agb ar):Int)<=x
     · simp [b1,b2]
     simp only [b1,b2,decide_false,pp,false_or]
     rw [c6 (l:=marks (Do (agb ar) agm) (fr.take k)) (i:=x) (by omega) (by rw [ml];omega)];simp only [ao];cases (marks (Do (agb ar) agm) (fr.take k))[x.toNat]!<;>simp) (by
   have f1:agq (((agb fr):Int)<((agb fr):Int))=agm:=aD (by omega);unfold od;simp only [ay,f1,pp,abE]
   by_cases hx:(∀i,i<agb ar->0<=ar[i]!/\ar[i]!<=1000000/\be[i]!≠(marks (Do (agb ar) agm) fr)[i]!/\(be[i]! =age->1<=ar[i]!))
   · rw [rc hx];exact FC.1 hx
   rw [ut hx];exact FC.2 hx)
 have h0:marks (Do (agb ar) agm) (fr.take 0)=Do (agb ar) agm:=rfl;rw [show ((0:Nat):Int)=0 from rfl,h0] at key
 by_cases bad: ∃k,k<agb fr/\(fr[k]!<0\/((agb ar):Int)<=fr[k]!\/(marks (Do (agb ar) agm) (fr.take k))[(fr[k]!).toNat]! =age)
 · rw [key.1 bad,ut]
   intro ok;obtain ⟨k,hk,hb⟩:=bad;have hr:=ok.fr fr[k]! (aN hk);dsimp only at hr;rcases hb with hb|hb|hb
   · omega
   · omega
   rw [np _ _ _ (fun x hx=>(ok.fr x (aak hx)).1) (by rw [aa2];omega),rep,abq] at hb
   have hi:((fr[k]!).toNat:Int)=fr[k]!:=by omega
   rw [hi] at hb;have hm:fr[k]!∈fr.take k:=of_decide_eq_true hb;obtain ⟨j,h1,h2,h3⟩:=ck.1 hm;exact eL.1 ok.fd j k h1 hk h3
 have MC: ∀k,k<agb fr->0<=fr[k]!/\fr[k]!<agb ar/\(marks (Do (agb ar) agm) (fr.take k))[(fr[k]!).toNat]! =agm:=by
  intro k hk;refine ⟨?_,?_,?_⟩
  · exact Int.not_lt.1 fun h=>bad ⟨k,hk,.inl h⟩
  · exact Int.not_le.1 fun h=>bad ⟨k,hk,.inr (.inl h)⟩
  exact ab5 _▸fun h=>bad ⟨k,hk,.inr (.inr h)⟩
 rw [key.2 fun k hk hb=>bad ⟨k,hk,hb⟩];have rng: ∀x∈fr,0<=x/\x<((agb ar):Int):=by intro x hx;obtain ⟨k,hk,rfl⟩:=aP.1 hx;exact ⟨(MC k hk).1,(MC k hk).2.1⟩
 have g2: ∀k,k<agb fr->fr[k]!∉fr.take k:=by intro k hk;obtain ⟨c1,c2,c3⟩:=MC k hk;rw [np _ _ _ (fun x hx=>(rng x (aak hx)).1) (by rw [aa2];omega),show ((fr[k]!).toNat:Int)=fr[k]! by omega,rep,abq] at c3;exact of_decide_eq_false c3
 have nd:fr.Nodup:=eL.2 fun i j k9 hj he=>g2 j hj (ck.2 ⟨i,k9,by omega,he⟩)
 have fl: ∀i,i<agb ar->(marks (Do (agb ar) agm) fr)[i]! =agq ((i:Int)∈fr):=by intro i hi;rw [np _ _ _ (fun x hx=>(rng x hx).1) (by rw [aa2];omega),rep,abq]
 by_cases hx:(∀i,i<agb ar->0<=ar[i]!/\ar[i]!<=1000000/\be[i]!≠(marks (Do (agb ar) agm) fr)[i]!/\(be[i]! =age->1<=ar[i]!))
 · rw [rc hx,rc]
   refine ⟨by show 1<=agb ar;omega,by show (agb ar)<=200;omega,a3,rng,nd,fun i hi=>?_,fun i hi=>?_⟩
   · have:=(hx i hi).2.2.1
     rw [fl i hi] at this;dsimp only;cases h:be[i]! with
     |true=>rw [h] at this;refine ⟨fun _ hm=>?_,fun _=>rfl⟩;rw [aH hm] at this;exact this rfl
     |false=>rw [h] at this;refine ⟨fun h=>(by cases h),fun hm=>?_⟩;rw [aD hm] at this;exact absurd rfl this
   have:=hx i hi
   exact ⟨this.1,this.2.1,this.2.2.2⟩
 rw [ut hx,ut]
 intro ok;refine hx fun i hi=>?_
 obtain ⟨u1,u2,u3⟩:=ok.us i hi;refine ⟨u1,u2,?_,u3⟩;rw [fl i hi];have:=ok.uf i hi;dsimp only at this;intro he
 by_cases hm:(i:Int)∈fr
 · rw [aH hm] at he;exact (this.1 he) hm
 rw [aD hm] at he
 have:=this.2 hm;rw [he] at this;cases this
structure yd (a:aJ):Prop where
 fr:(agb a.ae.bi)<=1000000
 hp:(agb a.bv)<=1000000
 wh:(agb a.aj)<=1000000
 MG: ∀w,w<agb a.bv->iJ ((a.bv[w]!).1,(a.bv[w]!).2.1)
structure dW (a:aJ):Prop where
 so:ef a.ae
 wl:(agb a.aj)=agb a.ae.ar
 hl:(agb a.bv)+agb a.ae.bi=agb a.ae.ar
 fwd: ∀i,i<agb a.ae.ar->a.ae.be[i]! =age->0<=a.aj[i]!/\a.aj[i]!<agb a.bv/\(Ev.ix a.bv[(a.aj[i]!).toNat]!)=i/\(a.bv[(a.aj[i]!).toNat]!).2.2.2.2=a.ae.ar[i]!
 un: ∀i,i<agb a.ae.ar->a.ae.be[i]! =agm->a.aj[i]! = -1
 ev: ∀w,w<agb a.bv->o3 a.bv[w]!
 nd: ∀v w,v<w->w<agb a.bv->(Ev.num a.bv[v]!)≠(Ev.num a.bv[w]!)
 ord: ∀k,0<k->k<agb a.bv-> ¬less a.bv[k]! a.bv[(k-1) / 2]!
theorem cover: ∀(n:Nat) (l:List Nat),(∀x,x<n->x∈l)->n<=agb l
 |0,_,_=>Nat.zero_le _
 |n+1,l,h=>by have hn:=h n (by omega);have:=cover n (l.erase n) (fun x hx=>by rw [List.mem_erase_of_ne (by omega)];exact h x (by omega));rw [List.length_erase_of_mem hn] at this;have:=List.length_pos_of_mem hn;omega
def Hj (s:aU):List Nat:=(List.range (agb s.ar)).filter fun i=>s.be[i]!
theorem yT {s:aU} {i:Nat}:i∈Hj s↔i<agb s.ar/\s.be[i]! =age:=by unfold Hj;rw [abW,List.mem_range]
theorem yU {α β:Type} {f:α->β}: ∀{l:List α},l.Nodup->(∀x∈l,∀y∈l,f x=f y->x=y)->(l.map f).Nodup
 | [],_,_=>by simp
 |a::l,h,hf=>by rw [aat] at h;rw [List.map_cons,aat];refine ⟨?_,yU h.2 fun x hx y hy=>hf x (by simp [hx]) y (by simp [hy])⟩;intro hm;obtain ⟨b,hb,e⟩:=aaj.1 hm;have:=hf b (by simp [hb]) a (by simp) e;subst this;exact h.1 hb
theorem dW.back {a:aJ} (ok:dW a) {w:Nat} (hw:w<agb a.bv):0<=(Ev.ix a.bv[w]!)/\(Ev.ix a.bv[w]!)<agb a.ae.ar/\a.ae.be[(Ev.n a.bv[w]!)]! =age/\a.ae.ar[(Ev.n a.bv[w]!)]! =(a.bv[w]!).2.2.2.2/\a.aj[(Ev.n a.bv[w]!)]! =(w:Int):=by
 have so:=ok.so;have len:(agb a.ae.ar)<=(Hj a.ae).length+(agb a.ae.bi):=by
  have:=cover (agb a.ae.ar) (Hj a.ae++a.ae.bi.map acr) (fun x hx=>by
   rw [aba]
   by_cases hu:a.ae.be[x]! =age
   · exact .inl (yT.2 ⟨hx,hu⟩)
   right
   have:=so.uf x hx;have hm:(x:Int)∈a.ae.bi:=PP fun hc=>hu (this.2 hc)
   exact aaj.2 ⟨_,hm,by omega⟩)
  rw [List.length_append,aau] at this;exact this
 have f0: ∀i∈Hj a.ae,0<=a.aj[i]!/\a.aj[i]!<agb a.bv/\(Ev.ix a.bv[(a.aj[i]!).toNat]!)=i/\(a.bv[(a.aj[i]!).toNat]!).2.2.2.2=a.ae.ar[i]!:=fun i hi=>ok.fwd i (yT.1 hi).1 (yT.1 hi).2
 have full:=C7 (n:=agb a.bv) (l:=(Hj a.ae).map fun i=>(a.aj[i]!).toNat) (by
  refine yU ?_ ?_
  · exact List.Pairwise.filter _ List.nodup_range
  · intro x hx y hy he
    have h1:=(f0 x hx).2.2.1;have h2:=(f0 y hy).2.2.1;rw [he] at h1;omega) (by
  intro x hx;obtain ⟨i,hi,rfl⟩:=aaj.1 hx;have:=f0 i hi;omega) (by
  rw [aau];have:=ok.hl;omega) w hw
 obtain ⟨i,hi,e⟩:=aaj.1 full;obtain ⟨c1,c2,c3,c4⟩:=f0 i hi;obtain ⟨d1,d2⟩:=yT.1 hi;rw [e] at c3 c4;have hn:(Ev.n a.bv[w]!)=i:=by show ((Ev.ix a.bv[w]!)).toNat=i;omega
 rw [hn];refine ⟨by omega,by omega,d2,c4.symm,by omega⟩
noncomputable def MH (x y:Ev):Int:=if aW (x.1,x.2.1)/\aW (y.1,y.2.1) then FF x y else iH x.2.2.1 y.2.2.1
theorem As {x y:Ev} (hx:iJ (x.1,x.2.1)) (hy:iJ (y.1,y.2.1)):bT x y=agc (MH x y):=by
 unfold bT MH FF;rw [Cw hx hy]
 by_cases h:aW (x.1,x.2.1)/\aW (y.1,y.2.1)
 · rw [rc h,rc h]
   simp only [ao,iu,yR]
 rw [ut h,ut h]
 simp only [ao,iu,yR];simp
def FL (a:aJ) (i:Nat):Prop:=(a.ae.be[i]! =age->0<=a.aj[i]!/\a.aj[i]!<agb a.bv/\(Ev.ix a.bv[(a.aj[i]!).toNat]!)=i/\(a.bv[(a.aj[i]!).toNat]!).2.2.2.2=a.ae.ar[i]!)/\(a.ae.be[i]! =agm->a.aj[i]! = -1)
def Gw (H:List Ev) (k:Nat):Prop:=aW ((H[k]!).1,(H[k]!).2.1)/\0<=(H[k]!).2.2.1/\(H[k]!).2.2.1<=1000000/\(∀j,j<k->(H[j]!).2.2.1≠(H[k]!).2.2.1)/\(0<k-> ¬MH H[k]! H[(k-1) / 2]!<0)
theorem dW.of {a:aJ} (fit:yd a) (so:ef a.ae) (wl:(agb a.aj)=agb a.ae.ar) (hl:(agb a.bv)+agb a.ae.bi=agb a.ae.ar) (wh: ∀i,i<agb a.ae.ar->FL a i) (hp: ∀k,k<agb a.bv->Gw a.bv k):dW a:=by
 have ev: ∀w,w<agb a.bv->o3 a.bv[w]!:=fun w hw=>⟨(hp w hw).1,fit.MG w hw,(hp w hw).2.1,(hp w hw).2.2.1⟩
 refine ⟨so,wl,hl,fun i hi=>(wh i hi).1,fun i hi=>(wh i hi).2,ev,fun v w hv hw=>(hp w hw).2.2.2.1 v hv,fun k k0 hk=>?_⟩;have:=(hp k hk).2.2.2.2 k0;unfold MH at this;rw [rc ⟨(hp k hk).1,(hp ((k-1) / 2) (by omega)).1⟩,Bp] at this;exact this
theorem dW.to {a:aJ} (ok:dW a):(∀i,i<agb a.ae.ar->FL a i)/\(∀k,k<agb a.bv->Gw a.bv k):=by refine ⟨fun i hi=>⟨ok.fwd i hi,ok.un i hi⟩,fun k hk=>?_⟩;have e:=ok.ev k hk;refine ⟨e.1,e.2.2.1,e.2.2.2,fun j hj=>ok.nd j k hj hk,fun k0=>?_⟩;unfold MH;rw [rc ⟨e.1,(ok.ev ((k-1) / 2) (by omega)).1⟩,Bp];exact ok.ord k k0 hk
theorem Hk (H:List Ev) (k:Nat) (n:Int):nL [n] ((H.take k).map fun x=>[x.2.2.1])=age:=by unfold nL;rw [List.all_eq_true];intro x hx;obtain ⟨y,hy,rfl⟩:=aaj.1 hx;rfl
theorem Hl (H:List Ev) (k:Nat) (n:Int):Dr ((H.take k).map fun x=>[x.2.2.1]) [n]=agq (∃j,j<k/\j<agb H/\(H[j]!).2.2.1=n):=by
 unfold Dr;rw [Bool.eq_iff_iff,List.any_eq_true,decide_eq_true_iff];constructor
 · rintro ⟨x,hx,he⟩
   obtain ⟨y,hy,rfl⟩:=aaj.1 hx;obtain ⟨j,h1,h2,rfl⟩:=ck.1 hy;have:[n]=[(H[j]!).2.2.1]:=by simpa using he
   exact ⟨j,h1,h2,by injection this with h;exact h.symm⟩
 rintro ⟨j,h1,h2,h3⟩
 refine ⟨[(H[j]!).2.2.1],aaj.2 ⟨H[j]!,ck.2 ⟨j,h1,h2,rfl⟩,rfl⟩,?_⟩;rw [h3];simp
theorem IF (H:List Ev) (u fr W:List Int) (us:List Bool) (hl:(agb H)<=1000000) (lF: ∀w,w<agb H->iJ ((H[w]!).1,(H[w]!).2.1)):
 ((∀k,k<agb H->Gw H k)->aB iM (H,((agb H):Int),0,u,us,fr,H,W,[])=agc (.done 0))/\(¬(∀k,k<agb H->Gw H k)->aB iM (H,((agb H):Int),0,u,us,fr,H,W,[])=agc (.done 8)):=by
 have key:=cP (body:=iM) (fun k=>(H,((agb H):Int),(k:Int),u,us,fr,H,W,(H.take k).map fun x=>[x.2.2.1])) (agb H) (fun k=> ¬Gw H k) (r:= .done 8) (e:= .done 0) (fun k hk=>by
  have e1:agq ((k:Int)<((agb H):Int))=age:=aH (by omega);have ins: ∀n:Int,¬(∃j,j<k/\j<agb H/\(H[j]!).2.2.1=n)->JN ((H.take k).map fun x=>[x.2.2.1]) [n]=agc (((H.take k).map fun x=>[x.2.2.1])++[[n]]):=by intro n hn;unfold JN LQ;rw [Hk,Hl,aD hn];rfl
  have has: ∀n:Int,JM ((H.take k).map fun x=>[x.2.2.1]) [n]=agc (agq (∃j,j<k/\j<agb H/\(H[j]!).2.2.1=n)):=by intro n;unfold JM;rw [Hk,Hl];rfl
  have nx:(H.take (k+1)).map (fun x=>[x.2.2.1])=((H.take k).map fun x=>[x.2.2.1])++[[(H[k]!).2.2.1]]:=by rw [iv hk,List.map_append];rfl
  unfold iM;simp only [e1,lw,aq H k hk,ao,c7 (lF k hk),aV (show k<1000000000 by omega),has,nx];unfold Gw
  by_cases b1:aW ((H[k]!).1,(H[k]!).2.1)
  case neg=>rw [ut b1];exact ⟨fun _=>rfl,fun h=>absurd (ww.1 h).1 b1⟩
  rw [rc b1]
  by_cases b2:(H[k]!).2.2.1<0
  · rw [aH b2]
    exact ⟨fun _=>rfl,fun h=>absurd (ww.1 h).2.1 (by omega)⟩
  by_cases b3:1000000<(H[k]!).2.2.1
  · rw [aD b2,aH b3]
    exact ⟨fun _=>rfl,fun h=>absurd (ww.1 h).2.2.1 (by omega)⟩
  rw [aD b2,aD b3]
  by_cases b4: ∃j,j<k/\j<agb H/\(H[j]!).2.2.1=(H[k]!).2.2.1
  · rw [aH b4]
    refine ⟨fun _=>rfl,fun h=>?_⟩;obtain ⟨j,j1,j2,j3⟩:=b4;exact absurd j3 ((ww.1 h).2.2.2.1 j j1)
  rw [aD b4,ins _ b4];have b4': ∀j,j<k->(H[j]!).2.2.1≠(H[k]!).2.2.1:=fun j hj he=>b4 ⟨j,hj,by omega,he⟩
  simp only [show ((0:Int) !=0)=agm from rfl,pp,ao]
  by_cases b5:0<k
  · obtain ⟨m,rfl⟩: ∃m,k=m+1:=⟨k-1,by omega⟩
    have f1:agq ((0:Int)<((m+1:Nat):Int))=age:=aH (by omega);simp only [f1,lw,qB (show m<1000000000 by omega),aq H (m / 2) (by omega),ao,As (lF (m+1) hk) (lF (m / 2) (by omega)),show (m+1-1) / 2=m / 2 by omega]
    by_cases b6:MH H[m+1]! H[m / 2]!<0
    · rw [aH b6]
      exact ⟨fun _=>rfl,fun h=>absurd b6 ((ww.1 h).2.2.2.2 (by omega))⟩
    rw [aD b6]
    exact ⟨fun h=>absurd ⟨b1,by omega,by omega,b4',fun _=>b6⟩ h,fun _=>rfl⟩
  · have f1:agq ((0:Int)<(k:Int))=agm:=aD (by omega)
    rw [f1];exact ⟨fun h=>absurd ⟨b1,by omega,by omega,b4',fun h=>absurd h b5⟩ h,fun _=>rfl⟩) (by
  unfold iM;have:agq (((agb H):Int)<((agb H):Int))=agm:=aD (by omega);simp only [this,pp])
 constructor
 · intro h
   exact key.2 fun i hi=>ww.2 (h i hi)
 intro h
 obtain ⟨i,h⟩:=M2.1 h;obtain ⟨hi,hx⟩:=aar.1 h;exact key.1 ⟨i,hi,hx⟩
end Go.Proofs.YthljmpcakagceaaGreat
