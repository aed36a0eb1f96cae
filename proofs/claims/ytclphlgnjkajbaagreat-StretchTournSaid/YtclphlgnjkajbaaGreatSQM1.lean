/- Plain laws (1). -/
import Derived.Test.YtclphlgnjkajbaaGreatSVm3
import Derived.Test.YtclphlgnjkajbaaGreatSVm1
import Derived.Test.YtclphlgnjkajbaaGreatSQS1
open List renaming length_set->v6,set_set->aah,mem_map->aau,length_take->aav,nodup_cons->aaG,length_map->aaS,mem_singleton->ad2,getElem?_eq_getElem->ae7,mem_append->aeb,mem_of_mem_take->aep,set_comm->aes,length_cons->aex,mem_filter->aeB,mem_cons->aeF,length->aeI
open Int renaming ofNat->ww,tdiv->Do,tmod->UV,mul_le_mul_of_nonneg_right->WF,mul_neg_of_neg_of_pos->aax,eq_ofNat_of_zero_le->aaz,neg_mul->aaC,mul_comm->ac0,mul_lt_mul_of_pos_right->ac1,fdiv_eq_ediv_of_nonneg->ac2,mul_le_mul->acl,tdiv_eq_ediv_of_nonneg->acZ,lt_of_mul_lt_mul_right->ad8,lt_trichotomy->adc,mul_nonneg->aeh,natCast_mul->aeA,ofNat_tmod->aeC,ofNat_tdiv->aeD,mul_assoc->aeE,toNat->aeG
open Classical renaming not_not->AC,byContradiction->NE,not_forall->PP,not_imp->ae6
open Option.some renaming injEq->EQ
open Nat renaming gcd->If,gcd_comm->aaB,gcd_dvd_right->ae1,gcd_pos_of_pos_right->ae8,le_refl->aeg,mul_div_cancel'->aer,gcd_zero_right->aet,gcd_dvd_left->aev,strongRecOn->aey,div_le_self->aez,le_trans->aeH
open Bool renaming not_false->IR,not_true->M2,or_eq_false_iff->aeq,false_eq_true->aeu,not_eq_true->aew,true->aeL,false->aeM
open Prod.mk renaming injEq->aal
open Option renaming some->aeJ,none->aeK
open Decidable renaming decide->aeN
namespace Go.Vm
instance lpN:LP:=⟨aeK⟩
section
variable {σ ρ : Type}
theorem aR {body:σ->Option (Step σ ρ)} {x:σ} {r:ρ}:ar body x=aeJ r↔ ∃n,nb body n x=aeJ r:=CJ
theorem aV {body:σ->Option (Step σ ρ)} {x y:σ} (h:body x=aeJ (.next y)):ar body x=ar body y:=by
 apply Option.ext;intro r;rw [aR,aR];constructor
 · rintro ⟨n,hn⟩
   cases n with
   |zero=>cases hn
   |succ n=>simp only [nb,h] at hn;exact ⟨n,hn⟩
 rintro ⟨n,hn⟩
 exact ⟨n+1,by simp only [nb,h];exact hn⟩
theorem aC {body:σ->Option (Step σ ρ)} {x:σ} {r:ρ} (h:body x=aeJ (.done r)):ar body x=aeJ r:=
 aR.2 ⟨1,by simp only [nb,h]⟩
end
end Go.Vm
namespace Go.Proofs.YtclphlgnjkajbaaGreat
open Go.Vm
noncomputable def oq (p0:Field):Option Field:=
 (bL p0.am).bind fun l0=>
 aeJ (Field.mk l0)
noncomputable def vE (p0:bm):Option bm:=
 (bL p0.ce).bind fun l0=>
 aeJ (bm.mk p0.aM l0)
noncomputable def qX (p0:aS):Option aS:=
 (bL p0.aD).bind fun l0=>
 (bL p0.be).bind fun l1=>
 (bL p0.bi).bind fun l2=>
 aeJ (aS.mk l0 l1 l2)
noncomputable def ot (p0:aF):Option aF:=
 (qX p0.ai).bind fun r0=>
 (bL p0.bv).bind fun l1=>
 (bL p0.aq).bind fun l2=>
 aeJ (aF.mk r0 l1 l2)
noncomputable def ou (p0:aI):Option aI:=
 (oq p0.ii).bind fun r0=>
 (vE p0.af).bind fun r1=>
 (ot p0.ae).bind fun r2=>
 (bL p0.io).bind fun l3=>
 aeJ (aI.mk p0.ci r0 r1 r2 l3)
noncomputable def hZ (p0:Int):Option Int:=
 bif aeN (p0<0) then
  aeJ (aa .u64 ((aa .u64 (aa .i64 (0- (aa .i64 (p0+1)))))+1))
 else
  aeJ (aa .u64 p0)
noncomputable def me (s:(Int×Int)):Option (Step (Int×Int) Int):=
 bif s.2 !=0 then
  bif s.2==0 then
   aeK
  else
   aeJ (.next (s.2,UV s.1 s.2))
 else
  aeJ (.done s.1)
noncomputable def qu (p0:Int) (p1:Int):Option Int:=
 ar me (p0,p1)
noncomputable def xx (p0:Int×Int):Option Int:=
 bif aeN (p0.2<1) then
  aeJ 8
 else
  bif p0.1==(-9223372036854775808) then
   aeJ 8
  else
   (hZ p0.1).bind fun n0=>
   (qu n0 (aa .u64 p0.2)).bind fun n1=>
   bif n1 !=1 then
    aeJ 8
   else
    aeJ 0
noncomputable def xy (p0:Int×Int×Int):Option Int:=
 bif aeN (p0.1<0) then
  aeJ 8
 else
  bif aeN (65535<p0.1) then
   aeJ 8
  else
   bif aeN (p0.2.1<(-1048576)) then
    aeJ 8
   else
    bif aeN (1048576<p0.2.1) then
     aeJ 8
    else
     bif aeN (p0.2.2<(-1048576)) then
      aeJ 8
     else
      bif aeN (1048576<p0.2.2) then
       aeJ 8
      else
       aeJ 0
noncomputable def ia (s:(Int×(List (Int×Int×Int)))):Option (Step (Int×(List (Int×Int×Int))) (Step (Int×(List (Int×Int×Int))) Int)):=
 bif aeN (s.1<(ww (aeI s.2))) then
  (aH s.2 (aa .i64 (s.1-1))).bind fun a0=>
  (aH s.2 s.1).bind fun a1=>
  bif aeN (a1.1<=a0.1) then
   aeJ (.done (.done 32))
  else
   aeJ (.next (aa .i64 (s.1+1),s.2))
 else
  aeJ (.done (.done 0))
noncomputable def k7 (s:(Int×(List (Int×Int×Int)))):Option (Step (Int×(List (Int×Int×Int))) Int):=
 bif aeN (s.1<(ww (aeI s.2))) then
  (aH s.2 s.1).bind fun a0=>
  (xy a0).bind fun n1=>
  bif n1 !=0 then
   aeJ (.done 8)
  else
   aeJ (.next (aa .i64 (s.1+1),s.2))
 else
  ar ia (1,s.2)
noncomputable def sA (p0:Field):Option Int:=
 bif aeN (64<(ww (aeI p0.am))) then
  aeJ 4
 else
  ar k7 (0,p0.am)
noncomputable def vF (p0:Int×Int):Option Bool:=
 bif aeN (0<=p0.1) then
  bif aeN (p0.1<=65535) then
   bif aeN (0<=p0.2) then
    bif aeN (p0.2<=65535) then
     aeJ (p0.1 !=p0.2)
    else
     aeJ aeM
   else
    aeJ aeM
  else
   aeJ aeM
 else
  aeJ aeM
noncomputable def fD (s:(Int×Int×Int×(List (Int×Int×Int))×Int×Int×Int)):Option (Step (Int×Int×Int×(List (Int×Int×Int))×Int×Int×Int) (Step (Int×Int×(List (Int×Int×Int))) Int)):=
 bif aeN (s.2.1<s.1) then
  (aH s.2.2.2.1 s.2.1).bind fun a0=>
  bif (a0.2.1==s.2.2.2.2.2.1)&&(a0.2.2==s.2.2.2.2.2.2) then
   aeJ (.done (.done 8))
  else
   aeJ (.next (s.1,aa .i64 (s.2.1+1),s.2.2))
 else
  aeJ (.done (.next (aa .i64 (s.1+1),s.2.2.1,s.2.2.2.1)))
noncomputable def nA (s:(Int×Int×(List (Int×Int×Int)))):Option (Step (Int×Int×(List (Int×Int×Int))) Int):=
 bif aeN (s.1<(ww (aeI s.2.2))) then
  (aH s.2.2 s.1).bind fun a0=>
  (vF a0.2).bind fun b1=>
  bif !b1 then
   aeJ (.done 8)
  else
   bif aeN (a0.1<0) then
    aeJ (.done 8)
   else
    bif aeN (s.2.1<=a0.1) then
     aeJ (.done 8)
    else
     bif aeN (0<s.1) then
      (aH s.2.2 (aa .i64 (s.1-1))).bind fun a2=>
      bif aeN (a0.1<=a2.1) then
       aeJ (.done 8)
      else
       ar fD (s.1,0,s.2.1,s.2.2,a0)
     else
      ar fD (s.1,0,s.2.1,s.2.2,a0)
 else
  aeJ (.done 0)
noncomputable def xz (p0:bm):Option Int:=
 bif aeN (200<(ww (aeI p0.ce))) then
  aeJ 8
 else
  bif aeN (p0.aM<0) then
   aeJ 8
  else
   bif aeN (1000000<p0.aM) then
    aeJ 8
   else
    ar nA (0,p0.aM,p0.ce)
noncomputable def pF (s:(Int×Int×(List (Int×Int×Int)))):Option (Step (Int×Int×(List (Int×Int×Int))) Int):=
 bif aeN (s.2.1<(ww (aeI s.2.2))) then
  (aH s.2.2 s.2.1).bind fun a0=>
  bif a0.1==s.1 then
   aeJ (.done s.2.1)
  else
   aeJ (.next (s.1,aa .i64 (s.2.1+1),s.2.2))
 else
  aeJ (.done (-1))
noncomputable def nB (p0:Field) (p1:Int):Option Int:=
 ar pF (p1,0,p0.am)
noncomputable def tg (p0:Int) (p1:Int):Option (Bool×Int×Int):=
 aeJ (aeM,aa .u64 ((aa .u64 ((aa .u64 ((aa .u64 (Do p0 4294967296))*(aa .u64 (Do p1 4294967296))))+(aa .u64 (Do (aa .u64 ((aa .u64 ((aa .u64 (Do p0 4294967296))*(UV p1 4294967296)))+(aa .u64 (Do (aa .u64 ((UV p0 4294967296)*(UV p1 4294967296))) 4294967296)))) 4294967296))))+(aa .u64 (Do (aa .u64 ((aa .u64 ((UV p0 4294967296)*(aa .u64 (Do p1 4294967296))))+(UV (aa .u64 ((aa .u64 ((aa .u64 (Do p0 4294967296))*(UV p1 4294967296)))+(aa .u64 (Do (aa .u64 ((UV p0 4294967296)*(UV p1 4294967296))) 4294967296)))) 4294967296))) 4294967296))),aa .u64 ((aa .u64 ((UV (aa .u64 ((aa .u64 ((UV p0 4294967296)*(aa .u64 (Do p1 4294967296))))+(UV (aa .u64 ((aa .u64 ((aa .u64 (Do p0 4294967296))*(UV p1 4294967296)))+(aa .u64 (Do (aa .u64 ((UV p0 4294967296)*(UV p1 4294967296))) 4294967296)))) 4294967296))) 4294967296)*4294967296))+(UV (aa .u64 ((UV p0 4294967296)*(UV p1 4294967296))) 4294967296)))
noncomputable def kf (p0:Int) (p1:Int):Option (Bool×Int×Int):=
 (hZ p0).bind fun n0=>
 (hZ p1).bind fun n1=>
 (tg n0 n1).bind fun a2=>
 bif !((aeN (p0<0))==(aeN (p1<0))) then
  bif p0 !=0 then
   aeJ (p1 !=0,a2.2)
  else
   aeJ (aeM,a2.2)
 else
  aeJ (aeM,a2.2)
noncomputable def k8 (p0:Bool×Int×Int):Option Int:=
 bif p0.2.1==0 then
  bif p0.2.2==0 then
   aeJ 0
  else
   bif p0.1 then
    aeJ (-1)
   else
    aeJ 1
 else
  bif p0.1 then
   aeJ (-1)
  else
   aeJ 1
noncomputable def qY (p0:Bool×Int×Int) (p1:Bool×Int×Int):Option Int:=
 bif p0.2.1 !=p1.2.1 then
  bif aeN (p0.2.1<p1.2.1) then
   aeJ (-1)
  else
   aeJ 1
 else
  bif p0.2.2 !=p1.2.2 then
   bif aeN (p0.2.2<p1.2.2) then
    aeJ (-1)
   else
    aeJ 1
  else
   aeJ 0
noncomputable def th (p0:Int×Int) (p1:Int×Int):Option Int:=
 (kf p0.1 p1.2).bind fun a0=>
 (kf p1.1 p0.2).bind fun a1=>
 (k8 a0).bind fun n2=>
 (k8 a1).bind fun n3=>
 bif n2 !=n3 then
  (k8 a0).bind fun n4=>
  (k8 a1).bind fun n5=>
  bif aeN (n4<n5) then
   aeJ (-1)
  else
   aeJ 1
 else
  (k8 a0).bind fun n6=>
  bif aeN (n6<0) then
   (qY a1 a0).bind fun n7=>
   aeJ n7
  else
   (qY a0 a1).bind fun n8=>
   aeJ n8
noncomputable def fN (p0:Int×Int×Int×Int×Int) (p1:Int×Int×Int×Int×Int):Option Bool:=
 (th (p0.1,p0.2.1) (p1.1,p1.2.1)).bind fun n0=>
 bif aeN (n0<0) then
  aeJ aeL
 else
  bif n0==0 then
   aeJ (aeN (p0.2.2.1<p1.2.2.1))
  else
   aeJ aeM
noncomputable def sB (p0:Bool×Int×Int) (p1:Bool×Int×Int):Option (Bool×Int×Int):=
 bif aeN (p0.2.2<p1.2.2) then
  aeJ (aeM,aa .u64 ((aa .u64 (p0.2.1-p1.2.1)) -1),aa .u64 (p0.2.2-p1.2.2))
 else
  aeJ (aeM,aa .u64 (p0.2.1-p1.2.1),aa .u64 (p0.2.2-p1.2.2))
noncomputable def zW (p0:Bool×Int×Int) (p1:Bool×Int×Int):Option (Bool×Int×Int):=
 bif p0.1==p1.1 then
  bif aeN ((aa .u64 (p0.2.2+p1.2.2))<p0.2.2) then
   aeJ (p0.1,aa .u64 ((aa .u64 (p0.2.1+p1.2.1))+1),aa .u64 (p0.2.2+p1.2.2))
  else
   aeJ (p0.1,aa .u64 (p0.2.1+p1.2.1),aa .u64 (p0.2.2+p1.2.2))
 else
  (qY p0 p1).bind fun n0=>
  bif aeN (0<=n0) then
   (sB p0 p1).bind fun a1=>
   bif p0.1 then
    bif aeN (0<a1.2.1) then
     aeJ (aeL,a1.2)
    else
     aeJ (aeN (0<a1.2.2),a1.2)
   else
    aeJ (aeM,a1.2)
  else
   (sB p1 p0).bind fun a2=>
   aeJ (p1.1,a2.2)
noncomputable def Cb (p0:Int×Int×Int) (p1:Int×Int×Int) (p2:Int×Int):Option Int:=
 (kf (aa .i64 (p0.2.1-p1.2.1)) p2.2).bind fun a0=>
 (kf (aa .i64 (p0.2.2-p1.2.2)) p2.1).bind fun a1=>
 (zW a0 a1).bind fun a2=>
 (k8 a2).bind fun n3=>
 aeJ n3
noncomputable def sC (p0:Int×Int×Int) (p1:Int×Int×Int) (p2:Int×Int):Option Bool:=
 (Cb p0 p1 p2).bind fun n0=>
 bif n0 !=0 then
  aeJ (aeN (0<n0))
 else
  bif p0.2.2 !=p1.2.2 then
   aeJ (aeN (p1.2.2<p0.2.2))
  else
   aeJ (aeN (p0.1<p1.1))
noncomputable def qZ (p0:Bool) (p1:Bool×Int×Int) (p2:Bool×Int×Int):Option ((Int×Int)×Int):=
 bif aeN (0<p1.2.1) then
  aeJ ((0,0),16)
 else
  bif aeN (9223372036854775807<p1.2.2) then
   aeJ ((0,0),16)
  else
   bif aeN (0<p2.2.1) then
    aeJ ((0,0),16)
   else
    bif aeN (9223372036854775807<p2.2.2) then
     aeJ ((0,0),16)
    else
     bif p0 then
      aeJ ((aa .i64 (0- (aa .i64 p1.2.2)),aa .i64 p2.2.2),0)
     else
      aeJ ((aa .i64 p1.2.2,aa .i64 p2.2.2),0)
noncomputable def mw (p0:Int) (p1:Int):Option ((Int×Int)×Int):=
 bif p1==0 then
  aeJ ((0,0),26)
 else
  (hZ p0).bind fun n0=>
  (hZ p1).bind fun n1=>
  (qu n0 n1).bind fun n2=>
  bif !((aeN (p0<0))==(aeN (p1<0))) then
   (hZ p0).bind fun n3=>
   bif n2==0 then
    aeK
   else
    (hZ p1).bind fun n4=>
    bif n2==0 then
     aeK
    else
     (qZ (p0 !=0) (aeM,0,aa .u64 (Do n3 n2)) (aeM,0,aa .u64 (Do n4 n2))).bind fun a5=>
     aeJ a5
  else
   (hZ p0).bind fun n6=>
   bif n2==0 then
    aeK
   else
    (hZ p1).bind fun n7=>
    bif n2==0 then
     aeK
    else
     (qZ aeM (aeM,0,aa .u64 (Do n6 n2)) (aeM,0,aa .u64 (Do n7 n2))).bind fun a8=>
     aeJ a8
noncomputable def Cc (p0:Int×Int×Int) (p1:Int×Int×Int):Option (Int×Int):=
 (mw (aa .i64 (p0.2.1-p1.2.1)) (aa .i64 (p1.2.2-p0.2.2))).bind fun a0=>
 aeJ a0.1
noncomputable def ti (p0:Int×Int×Int) (p1:Int×Int×Int) (p2:Int×Int):Option ((Int×Int)×Bool):=
 (sC p1 p0 p2).bind fun b0=>
 bif b0 then
  aeJ (p2,aeL)
 else
  bif aeN (p0.2.2<p1.2.2) then
   (Cc p0 p1).bind fun a1=>
   aeJ (a1,aeL)
  else
   aeJ ((0,0),aeM)
noncomputable def vG (p0:Field) (p1:Int×Int) (p2:Int×Int):Option ((Int×Int)×Bool):=
 (nB p0 p1.2).bind fun n0=>
 (aH p0.am n0).bind fun a1=>
 (nB p0 p1.1).bind fun n2=>
 (aH p0.am n2).bind fun a3=>
 (ti a1 a3 p2).bind fun a4=>
 aeJ a4
noncomputable def sD (s:((List (Int×Int))×Int×Int×Int)):Option (Step ((List (Int×Int))×Int×Int×Int) Bool):=
 bif aeN (s.2.1<(ww (aeI s.1))) then
  (aH s.1 s.2.1).bind fun a0=>
  bif (a0.1==s.2.2.1)&&(a0.2==s.2.2.2) then
   aeJ (.done aeL)
  else
   aeJ (.next (s.1,aa .i64 (s.2.1+1),s.2.2))
 else
  aeJ (.done aeM)
noncomputable def E6 (p0:List (Int×Int)) (p1:Int×Int):Option Bool:=
 ar sD (p0,0,p1)
noncomputable def jq (s:(Int×Int×Int×(List (Int×Int×Int))×Int×Int×(List (Int×Int×Int)))):Option (Step (Int×Int×Int×(List (Int×Int×Int))×Int×Int×(List (Int×Int×Int))) bm):=
 bif aeN (s.2.1<(ww (aeI s.2.2.2.1))) then
  (aH s.2.2.2.1 s.2.1).bind fun a0=>
  bif a0.1 !=s.1 then
   (aH s.2.2.2.1 s.2.1).bind fun a1=>
   (bk s.2.2.2.2.2.2 [a1]).bind fun l2=>
   aeJ (.next (s.1,aa .i64 (s.2.1+1),s.2.2.1,s.2.2.2.1,s.2.2.2.2.1,s.2.2.2.2.2.1,l2))
  else
   aeJ (.next (s.1,aa .i64 (s.2.1+1),s.2.2))
 else
  aeJ (.done (bm.mk s.2.2.2.2.2.1 s.2.2.2.2.2.2))
noncomputable def tj (p0:bm) (p1:Int):Option bm:=
 ar jq (p1,0,p0.aM,p0.ce,0,p0.aM,[])
noncomputable def nC (s:(Int×Int×Int×Int×(List (Int×Int×Int))×Int×(List (Int×Int×Int))×(List Int)×(List Bool)×(List Int)×(List (Int×Int×Int×Int×Int))×(List Int)×(List (Int×Int×Int)))):Option (Step (Int×Int×Int×Int×(List (Int×Int×Int))×Int×(List (Int×Int×Int))×(List Int)×(List Bool)×(List Int)×(List (Int×Int×Int×Int×Int))×(List Int)×(List (Int×Int×Int))) Int):=
 bif aeN (s.2.1<(ww (aeI s.2.2.2.2.2.2.2.2.2.2.2.2))) then
  (aH s.2.2.2.2.2.2.2.2.2.2.2.2 s.2.1).bind fun a0=>
  bif a0.1==s.1 then
   aeJ (.done s.2.1)
  else
   aeJ (.next (s.1,aa .i64 (s.2.1+1),s.2.2))
 else
  aeJ (.done (-1))
noncomputable def pG (p0:aI) (p1:Int):Option Int:=
 ar nC (p1,0,p0.ci.1,p0.ci.2,p0.ii.am,p0.af.aM,p0.af.ce,p0.ae.ai.aD,p0.ae.ai.be,p0.ae.ai.bi,p0.ae.bv,p0.ae.aq,p0.io)
noncomputable def pH (p0:aS) (p1:Int×Int):Option aS:=
 (qX p0).bind fun r0=>
 (aH r0.be p1.1).bind fun b1=>
 (bk r0.bi [p1.1]).bind fun l2=>
 aeJ (aS.mk r0.aD (bU r0.be p1.1 aeM) l2)
noncomputable def fO (a:(Int×Int×(List Int)×(List Bool)×(List Int)×(List (Int×Int×Int×Int×Int))×(List Int))):Option ((List Int)×(List Bool)×(List Int)×(List (Int×Int×Int×Int×Int))×(List Int)):=
 (aH a.2.2.2.2.2.1 a.2.1).bind fun a0=>
 (aH a.2.2.2.2.2.1 a.1).bind fun a1=>
 (aH a.2.2.2.2.2.1 a.1).bind fun a2=>
 (aH (bU a.2.2.2.2.2.1 a.1 a0) a.2.1).bind fun a3=>
 (aH (bU (bU a.2.2.2.2.2.1 a.1 a0) a.2.1 a1) a.1).bind fun a4=>
 (aH (bU (bU a.2.2.2.2.2.1 a.1 a0) a.2.1 a1) a.2.1).bind fun a5=>
 (aH a.2.2.2.2.2.2 a4.2.2.2.1).bind fun n6=>
 (aH (bU a.2.2.2.2.2.2 a4.2.2.2.1 a.1) a5.2.2.2.1).bind fun n7=>
 bif (aeI a.2.2.1)==(aeI a.2.2.1) then
  bif (aeI a.2.2.2.1)==(aeI a.2.2.2.1) then
   bif (aeI a.2.2.2.2.1)==(aeI a.2.2.2.2.1) then
    bif ((bU (bU a.2.2.2.2.2.1 a.1 a0) a.2.1 a1).length)==(aeI a.2.2.2.2.2.1) then
     bif ((bU (bU a.2.2.2.2.2.2 a4.2.2.2.1 a.1) a5.2.2.2.1 a.2.1).length)==(aeI a.2.2.2.2.2.2) then
      aeJ (a.2.2.1,a.2.2.2.1,a.2.2.2.2.1,bU (bU a.2.2.2.2.2.1 a.1 a0) a.2.1 a1,bU (bU a.2.2.2.2.2.2 a4.2.2.2.1 a.1) a5.2.2.2.1 a.2.1)
     else
      aeK
    else
     aeK
   else
    aeK
  else
   aeK
 else
  aeK
noncomputable def gU (a:((List Int)×(List Bool)×(List Int)×Nat×Nat×Int×Int×(List (Int×Int×Int×Int×Int))×(List Int))):Option ((List (Int×Int×Int×Int×Int))×(List Int)):=
 (aH (a.2.2.2.2.2.2.2.1.take a.2.2.2.1) a.2.2.2.2.2.2.1).bind fun a0=>
 (aH (a.2.2.2.2.2.2.2.1.take a.2.2.2.1) a.2.2.2.2.2.1).bind fun a1=>
 (aH (a.2.2.2.2.2.2.2.1.take a.2.2.2.1) a.2.2.2.2.2.1).bind fun a2=>
 (aH ((bU a.2.2.2.2.2.2.2.1 a.2.2.2.2.2.1 a0).take a.2.2.2.1) a.2.2.2.2.2.2.1).bind fun a3=>
 (aH ((bU (bU a.2.2.2.2.2.2.2.1 a.2.2.2.2.2.1 a0) a.2.2.2.2.2.2.1 a1).take a.2.2.2.1) a.2.2.2.2.2.1).bind fun a4=>
 (aH ((bU (bU a.2.2.2.2.2.2.2.1 a.2.2.2.2.2.1 a0) a.2.2.2.2.2.2.1 a1).take a.2.2.2.1) a.2.2.2.2.2.2.1).bind fun a5=>
 (aH a.2.2.2.2.2.2.2.2 a4.2.2.2.1).bind fun n6=>
 (aH (bU a.2.2.2.2.2.2.2.2 a4.2.2.2.1 a.2.2.2.2.2.1) a5.2.2.2.1).bind fun n7=>
 bif ((bU (bU a.2.2.2.2.2.2.2.1 a.2.2.2.2.2.1 a0) a.2.2.2.2.2.2.1 a1).length)==(aeI a.2.2.2.2.2.2.2.1) then
  bif ((bU (bU a.2.2.2.2.2.2.2.2 a4.2.2.2.1 a.2.2.2.2.2.1) a5.2.2.2.1 a.2.2.2.2.2.2.1).length)==(aeI a.2.2.2.2.2.2.2.2) then
   aeJ (bU (bU a.2.2.2.2.2.2.2.1 a.2.2.2.2.2.1 a0) a.2.2.2.2.2.2.1 a1,bU (bU a.2.2.2.2.2.2.2.2 a4.2.2.2.1 a.2.2.2.2.2.1) a5.2.2.2.1 a.2.2.2.2.2.2.1)
  else
   aeK
 else
  aeK
noncomputable def gi (c0:((List Int)×(List Bool)×(List Int)×Nat×Nat×Int×(List (Int×Int×Int×Int×Int))×(List Int))) (s:(Int×(List (Int×Int×Int×Int×Int))×(List Int)×(List Int)×(List Bool)×(List Int)×Nat×Nat)):Option (Step (Int×(List (Int×Int×Int×Int×Int))×(List Int)×(List Int)×(List Bool)×(List Int)×Nat×Nat) (Int×(List (Int×Int×Int×Int×Int))×(List Int))):=
 bif aeN (0<s.1) then
  (aH (s.2.1.take s.2.2.2.2.2.2.1) s.1).bind fun a0=>
  (aH (s.2.1.take s.2.2.2.2.2.2.1) (aa .i64 (Do (aa .i64 (s.1-1)) 2))).bind fun a1=>
  (fN a0 a1).bind fun b2=>
  bif b2 then
   (gU (s.2.2.2.1,s.2.2.2.2.1,s.2.2.2.2.2.1,s.2.2.2.2.2.2.1,s.2.2.2.2.2.2.2,s.1,aa .i64 (Do (aa .i64 (s.1-1)) 2),s.2.1,s.2.2.1)).bind fun a3=>
   aeJ (.next (aa .i64 (Do (aa .i64 (s.1-1)) 2),a3.1,a3.2,s.2.2.2))
  else
   bif (aeI s.2.1)==(aeI c0.2.2.2.2.2.2.1) then
    bif (aeI s.2.2.1)==(aeI c0.2.2.2.2.2.2.2) then
     aeJ (.done (s.1,s.2.1,s.2.2.1))
    else
     aeK
   else
    aeK
 else
  bif (aeI s.2.1)==(aeI c0.2.2.2.2.2.2.1) then
   bif (aeI s.2.2.1)==(aeI c0.2.2.2.2.2.2.2) then
    aeJ (.done (s.1,s.2.1,s.2.2.1))
   else
    aeK
  else
   aeK
noncomputable def nD (a:((List Int)×(List Bool)×(List Int)×Nat×Nat×Int×(List (Int×Int×Int×Int×Int))×(List Int))):Option (Int×(List (Int×Int×Int×Int×Int))×(List Int)):=
 ar (gi a) (a.2.2.2.2.2.1,a.2.2.2.2.2.2.1,a.2.2.2.2.2.2.2,a.1,a.2.1,a.2.2.1,a.2.2.2.1,a.2.2.2.2.1)
noncomputable def ja (c0:((List Int)×(List Bool)×(List Int)×Nat×Nat×Int×(List (Int×Int×Int×Int×Int))×(List Int))) (s:(Int×(List (Int×Int×Int×Int×Int))×(List Int)×(List Int)×(List Bool)×(List Int)×Nat×Nat)):Option (Step (Int×(List (Int×Int×Int×Int×Int))×(List Int)×(List Int)×(List Bool)×(List Int)×Nat×Nat) ((List (Int×Int×Int×Int×Int))×(List Int))):=
 match s with
 |(a,b,d,e,f,g,h,i)=>
  bif aeN ((ww h)<=(aa .i64 ((aa .i64 (2*a))+1))) then
   bif (aeI b)==(aeI c0.2.2.2.2.2.2.1) then
    bif (aeI d)==(aeI c0.2.2.2.2.2.2.2) then
     aeJ (.done (b,d))
    else
     aeK
   else
    aeK
  else
   bif aeN ((aa .i64 ((aa .i64 ((aa .i64 (2*a))+1))+1))<(ww h)) then
    (aH (b.take h) (aa .i64 ((aa .i64 ((aa .i64 (2*a))+1))+1))).bind fun a0=>
    (aH (b.take h) (aa .i64 ((aa .i64 (2*a))+1))).bind fun a1=>
    (fN a0 a1).bind fun b2=>
    bif b2 then
     (aH (b.take h) (aa .i64 ((aa .i64 ((aa .i64 (2*a))+1))+1))).bind fun a3=>
     (aH (b.take h) a).bind fun a4=>
     (fN a3 a4).bind fun b5=>
     bif !b5 then
      bif (aeI b)==(aeI c0.2.2.2.2.2.2.1) then
       bif (aeI d)==(aeI c0.2.2.2.2.2.2.2) then
        aeJ (.done (b,d))
       else
        aeK
      else
       aeK
     else
      (gU (e,f,g,h,i,a,aa .i64 ((aa .i64 ((aa .i64 (2*a))+1))+1),b,d)).bind fun a6=>
      aeJ (.next (aa .i64 ((aa .i64 ((aa .i64 (2*a))+1))+1),a6.1,a6.2,(e,f,g,h,i)))
    else
     (aH (b.take h) (aa .i64 ((aa .i64 (2*a))+1))).bind fun a7=>
     (aH (b.take h) a).bind fun a8=>
     (fN a7 a8).bind fun b9=>
     bif !b9 then
      bif (aeI b)==(aeI c0.2.2.2.2.2.2.1) then
       bif (aeI d)==(aeI c0.2.2.2.2.2.2.2) then
        aeJ (.done (b,d))
       else
        aeK
      else
       aeK
     else
      (gU (e,f,g,h,i,a,aa .i64 ((aa .i64 (2*a))+1),b,d)).bind fun yu=>
      aeJ (.next (aa .i64 ((aa .i64 (2*a))+1),yu.1,yu.2,(e,f,g,h,i)))
   else
    (aH (b.take h) (aa .i64 ((aa .i64 (2*a))+1))).bind fun y8=>
    (aH (b.take h) a).bind fun a12=>
    (fN y8 a12).bind fun b13=>
    bif !b13 then
     bif (aeI b)==(aeI c0.2.2.2.2.2.2.1) then
      bif (aeI d)==(aeI c0.2.2.2.2.2.2.2) then
       aeJ (.done (b,d))
      else
       aeK
     else
      aeK
    else
     (gU (e,f,g,h,i,a,aa .i64 ((aa .i64 (2*a))+1),b,d)).bind fun Qs=>
     aeJ (.next (aa .i64 ((aa .i64 (2*a))+1),Qs.1,Qs.2,(e,f,g,h,i)))
noncomputable def lF (a:((List Int)×(List Bool)×(List Int)×Nat×Nat×Int×(List (Int×Int×Int×Int×Int))×(List Int))):Option ((List (Int×Int×Int×Int×Int))×(List Int)):=
 ar (ja a) (a.2.2.2.2.2.1,a.2.2.2.2.2.2.1,a.2.2.2.2.2.2.2,a.1,a.2.1,a.2.2.1,a.2.2.2.1,a.2.2.2.2.1)
noncomputable def kg (p0:aF) (p1:Int×Int):Option aF:=
 (ot p0).bind fun r0=>
 (aH r0.aq p1.1).bind fun n1=>
 bif n1 !=(aa .i64 ((ww (aeI r0.bv)) -1)) then
  (fO (n1,aa .i64 ((ww (aeI r0.bv)) -1),r0.ai.aD,r0.ai.be,r0.ai.bi,r0.bv,r0.aq)).bind fun a2=>
  (fL a2.2.2.2.1 0 (aa .i64 ((ww (aeI r0.bv)) -1))).bind fun l3=>
  (aH a2.2.2.2.2 p1.1).bind fun n4=>
  (pH (aS.mk a2.1 a2.2.1 a2.2.2.1) p1).bind fun r5=>
  bif n1 !=(aa .i64 ((ww (aeI r0.bv)) -1)) then
   (nD (r5.aD,r5.be,r5.bi,(aa .i64 ((ww (aeI r0.bv)) -1)).toNat,aeI a2.2.2.2.1,n1,a2.2.2.2.1,bU a2.2.2.2.2 p1.1 (-1))).bind fun a6=>
   (lF (r5.aD,r5.be,r5.bi,(aa .i64 ((ww (aeI r0.bv)) -1)).toNat,aeI a2.2.2.2.1,a6)).bind fun a7=>
   aeJ (aF.mk r5 (a7.1.take ((aa .i64 ((ww (aeI r0.bv)) -1)).toNat)) a7.2)
  else
   aeJ (aF.mk r5 (a2.2.2.2.1.take ((aa .i64 ((ww (aeI r0.bv)) -1)).toNat)) (bU a2.2.2.2.2 p1.1 (-1)))
 else
  (fL r0.bv 0 (aa .i64 ((ww (aeI r0.bv)) -1))).bind fun l8=>
  (aH r0.aq p1.1).bind fun n9=>
  (pH r0.ai p1).bind fun ZS=>
  bif n1 !=(aa .i64 ((ww (aeI r0.bv)) -1)) then
   (nD (ZS.aD,ZS.be,ZS.bi,(aa .i64 ((ww (aeI r0.bv)) -1)).toNat,aeI r0.bv,n1,r0.bv,bU r0.aq p1.1 (-1))).bind fun y8=>
   (lF (ZS.aD,ZS.be,ZS.bi,(aa .i64 ((ww (aeI r0.bv)) -1)).toNat,aeI r0.bv,y8)).bind fun a12=>
   aeJ (aF.mk ZS (a12.1.take ((aa .i64 ((ww (aeI r0.bv)) -1)).toNat)) a12.2)
  else
   aeJ (aF.mk ZS (r0.bv.take ((aa .i64 ((ww (aeI r0.bv)) -1)).toNat)) (bU r0.aq p1.1 (-1)))
noncomputable def vH (p0:aI) (p1:Int):Option aI:=
 (ou p0).bind fun r0=>
 (tj p0.af p1).bind fun r1=>
 (pG p0 p1).bind fun n2=>
 bif aeN (0<=n2) then
  (aH p0.io n2).bind fun a3=>
  (kg p0.ae a3.2).bind fun r4=>
  (fL p0.io 0 n2).bind fun l5=>
  (bL l5).bind fun l6=>
  (fL p0.io (aa .i64 (n2+1)) (ww (aeI p0.io))).bind fun l7=>
  bif l7.isEmpty then
   aeJ (aI.mk r0.ci r0.ii r1 r4 l6)
  else
   (bk l6 l7).bind fun l8=>
   aeJ (aI.mk r0.ci r0.ii r1 r4 l8)
 else
  aeJ (aI.mk r0.ci r0.ii r1 r0.ae r0.io)
noncomputable def oU (s:(Int×(List (Int×Int×Int))×(List (Int×Int×Int)))):Option (Step (Int×(List (Int×Int×Int))×(List (Int×Int×Int))) Bool):=
 bif aeN (s.1<(ww (aeI s.2.1))) then
  (aH s.2.1 s.1).bind fun a0=>
  (aH s.2.2 s.1).bind fun a1=>
  bif !((a0.1==a1.1)&&((a0.2.1==a1.2.1)&&(a0.2.2==a1.2.2))) then
   aeJ (.done aeM)
  else
   aeJ (.next (aa .i64 (s.1+1),s.2))
 else
  aeJ (.done aeL)
noncomputable def zX (p0:Field) (p1:Field):Option Bool:=
 bif (ww (aeI p0.am)) !=(ww (aeI p1.am)) then
  aeJ aeM
 else
  ar oU (0,p0.am,p1.am)
noncomputable def gj (c0:(Int×(List Int)×(List Bool)×(List Int)×(List (Int×Int×Int×Int×Int))×(List Int))) (s:(Int×(List Int)×(List Bool)×(List Int)×(List (Int×Int×Int×Int×Int))×(List Int))):Option (Step (Int×(List Int)×(List Bool)×(List Int)×(List (Int×Int×Int×Int×Int))×(List Int)) (Int×(List Int)×(List Bool)×(List Int)×(List (Int×Int×Int×Int×Int))×(List Int))):=
 bif aeN (0<s.1) then
  (aH s.2.2.2.2.1 s.1).bind fun a0=>
  (aH s.2.2.2.2.1 (aa .i64 (Do (aa .i64 (s.1-1)) 2))).bind fun a1=>
  (fN a0 a1).bind fun b2=>
  bif b2 then
   (fO (s.1,aa .i64 (Do (aa .i64 (s.1-1)) 2),s.2)).bind fun a3=>
   aeJ (.next (aa .i64 (Do (aa .i64 (s.1-1)) 2),a3))
  else
   bif (aeI s.2.1)==(aeI c0.2.1) then
    bif (aeI s.2.2.1)==(aeI c0.2.2.1) then
     bif (aeI s.2.2.2.1)==(aeI c0.2.2.2.1) then
      bif (aeI s.2.2.2.2.1)==(aeI c0.2.2.2.2.1) then
       bif (aeI s.2.2.2.2.2)==(aeI c0.2.2.2.2.2) then
        aeJ (.done s)
       else
        aeK
      else
       aeK
     else
      aeK
    else
     aeK
   else
    aeK
 else
  bif (aeI s.2.1)==(aeI c0.2.1) then
   bif (aeI s.2.2.1)==(aeI c0.2.2.1) then
    bif (aeI s.2.2.2.1)==(aeI c0.2.2.2.1) then
     bif (aeI s.2.2.2.2.1)==(aeI c0.2.2.2.2.1) then
      bif (aeI s.2.2.2.2.2)==(aeI c0.2.2.2.2.2) then
       aeJ (.done s)
      else
       aeK
     else
      aeK
    else
     aeK
   else
    aeK
  else
   aeK
noncomputable def q8 (a:(Int×(List Int)×(List Bool)×(List Int)×(List (Int×Int×Int×Int×Int))×(List Int))):Option (Int×(List Int)×(List Bool)×(List Int)×(List (Int×Int×Int×Int×Int))×(List Int)):=
 ar (gj a) a
noncomputable def jb (c0:(Int×(List Int)×(List Bool)×(List Int)×(List (Int×Int×Int×Int×Int))×(List Int))) (s:(Int×(List Int)×(List Bool)×(List Int)×(List (Int×Int×Int×Int×Int))×(List Int))):Option (Step (Int×(List Int)×(List Bool)×(List Int)×(List (Int×Int×Int×Int×Int))×(List Int)) ((List Int)×(List Bool)×(List Int)×(List (Int×Int×Int×Int×Int))×(List Int))):=
 bif aeN ((ww (aeI s.2.2.2.2.1))<=(aa .i64 ((aa .i64 (2*s.1))+1))) then
  bif (aeI s.2.1)==(aeI c0.2.1) then
   bif (aeI s.2.2.1)==(aeI c0.2.2.1) then
    bif (aeI s.2.2.2.1)==(aeI c0.2.2.2.1) then
     bif (aeI s.2.2.2.2.1)==(aeI c0.2.2.2.2.1) then
      bif (aeI s.2.2.2.2.2)==(aeI c0.2.2.2.2.2) then
       aeJ (.done s.2)
      else
       aeK
     else
      aeK
    else
     aeK
   else
    aeK
  else
   aeK
 else
  bif aeN ((aa .i64 ((aa .i64 ((aa .i64 (2*s.1))+1))+1))<(ww (aeI s.2.2.2.2.1))) then
   (aH s.2.2.2.2.1 (aa .i64 ((aa .i64 ((aa .i64 (2*s.1))+1))+1))).bind fun a0=>
   (aH s.2.2.2.2.1 (aa .i64 ((aa .i64 (2*s.1))+1))).bind fun a1=>
   (fN a0 a1).bind fun b2=>
   bif b2 then
    (aH s.2.2.2.2.1 (aa .i64 ((aa .i64 ((aa .i64 (2*s.1))+1))+1))).bind fun a3=>
    (aH s.2.2.2.2.1 s.1).bind fun a4=>
    (fN a3 a4).bind fun b5=>
    bif !b5 then
     bif (aeI s.2.1)==(aeI c0.2.1) then
      bif (aeI s.2.2.1)==(aeI c0.2.2.1) then
       bif (aeI s.2.2.2.1)==(aeI c0.2.2.2.1) then
        bif (aeI s.2.2.2.2.1)==(aeI c0.2.2.2.2.1) then
         bif (aeI s.2.2.2.2.2)==(aeI c0.2.2.2.2.2) then
          aeJ (.done s.2)
         else
          aeK
        else
         aeK
       else
        aeK
      else
       aeK
     else
      aeK
    else
     (fO (s.1,aa .i64 ((aa .i64 ((aa .i64 (2*s.1))+1))+1),s.2)).bind fun a6=>
     aeJ (.next (aa .i64 ((aa .i64 ((aa .i64 (2*s.1))+1))+1),a6))
   else
    (aH s.2.2.2.2.1 (aa .i64 ((aa .i64 (2*s.1))+1))).bind fun a7=>
    (aH s.2.2.2.2.1 s.1).bind fun a8=>
    (fN a7 a8).bind fun b9=>
    bif !b9 then
     bif (aeI s.2.1)==(aeI c0.2.1) then
      bif (aeI s.2.2.1)==(aeI c0.2.2.1) then
       bif (aeI s.2.2.2.1)==(aeI c0.2.2.2.1) then
        bif (aeI s.2.2.2.2.1)==(aeI c0.2.2.2.2.1) then
         bif (aeI s.2.2.2.2.2)==(aeI c0.2.2.2.2.2) then
          aeJ (.done s.2)
         else
          aeK
        else
         aeK
       else
        aeK
      else
       aeK
     else
      aeK
    else
     (fO (s.1,aa .i64 ((aa .i64 (2*s.1))+1),s.2)).bind fun yu=>
     aeJ (.next (aa .i64 ((aa .i64 (2*s.1))+1),yu))
  else
   (aH s.2.2.2.2.1 (aa .i64 ((aa .i64 (2*s.1))+1))).bind fun y8=>
   (aH s.2.2.2.2.1 s.1).bind fun a12=>
   (fN y8 a12).bind fun b13=>
   bif !b13 then
    bif (aeI s.2.1)==(aeI c0.2.1) then
     bif (aeI s.2.2.1)==(aeI c0.2.2.1) then
      bif (aeI s.2.2.2.1)==(aeI c0.2.2.2.1) then
       bif (aeI s.2.2.2.2.1)==(aeI c0.2.2.2.2.1) then
        bif (aeI s.2.2.2.2.2)==(aeI c0.2.2.2.2.2) then
         aeJ (.done s.2)
        else
         aeK
       else
        aeK
      else
       aeK
     else
      aeK
    else
     aeK
   else
    (fO (s.1,aa .i64 ((aa .i64 (2*s.1))+1),s.2)).bind fun Qs=>
    aeJ (.next (aa .i64 ((aa .i64 (2*s.1))+1),Qs))
noncomputable def ov (a:(Int×(List Int)×(List Bool)×(List Int)×(List (Int×Int×Int×Int×Int))×(List Int))):Option ((List Int)×(List Bool)×(List Int)×(List (Int×Int×Int×Int×Int))×(List Int)):=
 ar (jb a) a
noncomputable def tp (p0:aF) (p1:Int×Int) (p2:Int×Int):Option aF:=
 (ot p0).bind fun r0=>
 (aH r0.aq p1.1).bind fun n1=>
 (aH r0.bv n1).bind fun a2=>
 (q8 (n1,r0.ai.aD,r0.ai.be,r0.ai.bi,bU r0.bv n1 (p2.1,p2.2,a2.2.2),r0.aq)).bind fun a3=>
 (ov a3).bind fun a4=>
 aeJ (aF.mk (aS.mk a4.1 a4.2.1 a4.2.2.1) a4.2.2.2.1 a4.2.2.2.2)
noncomputable def gq (p0:aS):Option Bool:=
 bif aeN (0<(ww (aeI p0.bi))) then
  (aH p0.bi (aa .i64 ((ww (aeI p0.bi)) -1))).bind fun n0=>
  (aH p0.aD n0).bind fun n1=>
  aeJ (aeN (n1<1000000))
 else
  aeJ aeM
noncomputable def xA (p0:aS):Option (aS×(Int×Int)):=
 (qX p0).bind fun r0=>
 (aH r0.bi (aa .i64 ((ww (aeI r0.bi)) -1))).bind fun n1=>
 (fL r0.bi 0 (aa .i64 ((ww (aeI r0.bi)) -1))).bind fun l2=>
 (aH r0.aD n1).bind fun n3=>
 (aH r0.aD n1).bind fun n4=>
 (aH r0.be n1).bind fun b5=>
 (aH (bU r0.aD n1 (aa .i64 (n3+1))) n1).bind fun n6=>
 aeJ (aS.mk (bU r0.aD n1 (aa .i64 (n3+1))) (bU r0.be n1 aeL) (r0.bi.take ((aa .i64 ((ww (aeI r0.bi)) -1)).toNat)),n1,n6)
noncomputable def ox (a:((List Int)×(List Bool)×(List Int)×Int×Int×(List (Int×Int×Int×Int×Int))×(List Int))):Option ((List (Int×Int×Int×Int×Int))×(List Int)):=
 (aH a.2.2.2.2.2.1 a.2.2.2.2.1).bind fun a0=>
 (aH a.2.2.2.2.2.1 a.2.2.2.1).bind fun a1=>
 (aH a.2.2.2.2.2.1 a.2.2.2.1).bind fun a2=>
 (aH (bU a.2.2.2.2.2.1 a.2.2.2.1 a0) a.2.2.2.2.1).bind fun a3=>
 (aH (bU (bU a.2.2.2.2.2.1 a.2.2.2.1 a0) a.2.2.2.2.1 a1) a.2.2.2.1).bind fun a4=>
 (aH (bU (bU a.2.2.2.2.2.1 a.2.2.2.1 a0) a.2.2.2.2.1 a1) a.2.2.2.2.1).bind fun a5=>
 (aH a.2.2.2.2.2.2 a4.2.2.2.1).bind fun n6=>
 (aH (bU a.2.2.2.2.2.2 a4.2.2.2.1 a.2.2.2.1) a5.2.2.2.1).bind fun n7=>
 bif ((bU (bU a.2.2.2.2.2.1 a.2.2.2.1 a0) a.2.2.2.2.1 a1).length)==(aeI a.2.2.2.2.2.1) then
  bif ((bU (bU a.2.2.2.2.2.2 a4.2.2.2.1 a.2.2.2.1) a5.2.2.2.1 a.2.2.2.2.1).length)==(aeI a.2.2.2.2.2.2) then
   aeJ (bU (bU a.2.2.2.2.2.1 a.2.2.2.1 a0) a.2.2.2.2.1 a1,bU (bU a.2.2.2.2.2.2 a4.2.2.2.1 a.2.2.2.1) a5.2.2.2.1 a.2.2.2.2.1)
  else
   aeK
 else
  aeK
noncomputable def gm (c0:((List Int)×(List Bool)×(List Int)×Int×(List (Int×Int×Int×Int×Int))×(List Int))) (s:(Int×(List (Int×Int×Int×Int×Int))×(List Int)×(List Int)×(List Bool)×(List Int))):Option (Step (Int×(List (Int×Int×Int×Int×Int))×(List Int)×(List Int)×(List Bool)×(List Int)) (Int×(List (Int×Int×Int×Int×Int))×(List Int))):=
 bif aeN (0<s.1) then
  (aH s.2.1 s.1).bind fun a0=>
  (aH s.2.1 (aa .i64 (Do (aa .i64 (s.1-1)) 2))).bind fun a1=>
  (fN a0 a1).bind fun b2=>
  bif b2 then
   (ox (s.2.2.2.1,s.2.2.2.2.1,s.2.2.2.2.2,s.1,aa .i64 (Do (aa .i64 (s.1-1)) 2),s.2.1,s.2.2.1)).bind fun a3=>
   aeJ (.next (aa .i64 (Do (aa .i64 (s.1-1)) 2),a3.1,a3.2,s.2.2.2))
  else
   bif (aeI s.2.1)==(aeI c0.2.2.2.2.1) then
    bif (aeI s.2.2.1)==(aeI c0.2.2.2.2.2) then
     aeJ (.done (s.1,s.2.1,s.2.2.1))
    else
     aeK
   else
    aeK
 else
  bif (aeI s.2.1)==(aeI c0.2.2.2.2.1) then
   bif (aeI s.2.2.1)==(aeI c0.2.2.2.2.2) then
    aeJ (.done (s.1,s.2.1,s.2.2.1))
   else
    aeK
  else
   aeK
noncomputable def q9 (a:((List Int)×(List Bool)×(List Int)×Int×(List (Int×Int×Int×Int×Int))×(List Int))):Option (Int×(List (Int×Int×Int×Int×Int))×(List Int)):=
 ar (gm a) (a.2.2.2.1,a.2.2.2.2.1,a.2.2.2.2.2,a.1,a.2.1,a.2.2.1)
noncomputable def eN (p0:aF) (p1:Int×Int) (p2:Int):Option (aF×(Int×Int)):=
 (ot p0).bind fun r0=>
 (xA r0.ai).bind fun a1=>
 (bk r0.bv [(p1.1,p1.2,p2,a1.2)]).bind fun l2=>
 (aH r0.aq a1.2.1).bind fun n3=>
 (q9 (a1.1.aD,a1.1.be,a1.1.bi,aa .i64 ((ww (aeI l2)) -1),l2,bU r0.aq a1.2.1 (aa .i64 ((ww (aeI l2)) -1)))).bind fun a4=>
 aeJ (aF.mk a1.1 a4.2.1 a4.2.2,a1.2)
noncomputable def cE (s:(Int×Int×Int×(List (Int×Int×Int))×Int×(List (Int×Int×Int))×(List Int)×(List Bool)×(List Int)×(List (Int×Int×Int×Int×Int))×(List Int)×(List (Int×Int×Int))×(List (Int×Int×Int))×Int×Int×Int×Int×Int×(List (Int×Int×Int))×Int×(List (Int×Int×Int))×(List Int)×(List Bool)×(List Int)×(List (Int×Int×Int×Int×Int))×(List Int)×(List (Int×Int×Int)))):Option (Step (Int×Int×Int×(List (Int×Int×Int))×Int×(List (Int×Int×Int))×(List Int)×(List Bool)×(List Int)×(List (Int×Int×Int×Int×Int))×(List Int)×(List (Int×Int×Int))×(List (Int×Int×Int))×Int×Int×Int×Int×Int×(List (Int×Int×Int))×Int×(List (Int×Int×Int))×(List Int)×(List Bool)×(List Int)×(List (Int×Int×Int×Int×Int))×(List Int)×(List (Int×Int×Int))) (aI×Int)):=
 match s with
 |(a,b,d,e,f,g,h,i,j,k,l,m,n,o,q,r,t,u,v,w,x,y,z,A,B,C,D)=>
  bif aeN (a<(ww (aeI g))) then
   (aH g a).bind fun a0=>
   (pG (aI.mk (b,d) (Field.mk e) (bm.mk f g) (aF.mk (aS.mk h i j) k l) m) a0.1).bind fun n1=>
   (vG (Field.mk n) a0.2 (b,d)).bind fun a2=>
   bif a2.2 then
    bif aeN (0<=n1) then
     (aH m n1).bind fun a3=>
     (tp (aF.mk (aS.mk y z A) B C) a3.2 a2.1).bind fun r4=>
     (aH m n1).bind fun a5=>
     (bk D [a5]).bind fun l6=>
     bif !a2.2 then
      bif aeN (0<=n1) then
       (aH m n1).bind fun a7=>
       (kg r4 a7.2).bind fun r8=>
       bif !a2.2 then
        aeJ (.next (aa .i64 (a+1),b,d,e,f,g,h,i,j,k,l,m,n,o,q,r,t,u,v,w,x,r8.ai.aD,r8.ai.be,r8.ai.bi,r8.bv,r8.aq,l6))
       else
        bif aeN (0<=n1) then
         aeJ (.next (aa .i64 (a+1),b,d,e,f,g,h,i,j,k,l,m,n,o,q,r,t,u,v,w,x,r8.ai.aD,r8.ai.be,r8.ai.bi,r8.bv,r8.aq,l6))
        else
         (gq r8.ai).bind fun b9=>
         bif !b9 then
          aeJ (.done (aI.mk (0,0) (Field.mk []) (bm.mk 0 []) (aF.mk (aS.mk [] [] []) [] []) [],18))
         else
          (eN r8 a2.1 a0.1).bind fun yu=>
          (bk l6 [(a0.1,yu.2)]).bind fun l11=>
          aeJ (.next (aa .i64 (a+1),b,d,e,f,g,h,i,j,k,l,m,n,o,q,r,t,u,v,w,x,yu.1.ai.aD,yu.1.ai.be,yu.1.ai.bi,yu.1.bv,yu.1.aq,l11))
      else
       bif !a2.2 then
        aeJ (.next (aa .i64 (a+1),b,d,e,f,g,h,i,j,k,l,m,n,o,q,r,t,u,v,w,x,r4.ai.aD,r4.ai.be,r4.ai.bi,r4.bv,r4.aq,l6))
       else
        bif aeN (0<=n1) then
         aeJ (.next (aa .i64 (a+1),b,d,e,f,g,h,i,j,k,l,m,n,o,q,r,t,u,v,w,x,r4.ai.aD,r4.ai.be,r4.ai.bi,r4.bv,r4.aq,l6))
        else
         (gq r4.ai).bind fun b12=>
         bif !b12 then
          aeJ (.done (aI.mk (0,0) (Field.mk []) (bm.mk 0 []) (aF.mk (aS.mk [] [] []) [] []) [],18))
         else
          (eN r4 a2.1 a0.1).bind fun Ox=>
          (bk l6 [(a0.1,Ox.2)]).bind fun l14=>
          aeJ (.next (aa .i64 (a+1),b,d,e,f,g,h,i,j,k,l,m,n,o,q,r,t,u,v,w,x,Ox.1.ai.aD,Ox.1.ai.be,Ox.1.ai.bi,Ox.1.bv,Ox.1.aq,l14))
     else
      bif !a2.2 then
       aeJ (.next (aa .i64 (a+1),b,d,e,f,g,h,i,j,k,l,m,n,o,q,r,t,u,v,w,x,r4.ai.aD,r4.ai.be,r4.ai.bi,r4.bv,r4.aq,l6))
      else
       bif aeN (0<=n1) then
        aeJ (.next (aa .i64 (a+1),b,d,e,f,g,h,i,j,k,l,m,n,o,q,r,t,u,v,w,x,r4.ai.aD,r4.ai.be,r4.ai.bi,r4.bv,r4.aq,l6))
       else
        (gq r4.ai).bind fun b15=>
        bif !b15 then
         aeJ (.done (aI.mk (0,0) (Field.mk []) (bm.mk 0 []) (aF.mk (aS.mk [] [] []) [] []) [],18))
        else
         (eN r4 a2.1 a0.1).bind fun Jc=>
         (bk l6 [(a0.1,Jc.2)]).bind fun l17=>
         aeJ (.next (aa .i64 (a+1),b,d,e,f,g,h,i,j,k,l,m,n,o,q,r,t,u,v,w,x,Jc.1.ai.aD,Jc.1.ai.be,Jc.1.ai.bi,Jc.1.bv,Jc.1.aq,l17))
    else
     bif !a2.2 then
      bif aeN (0<=n1) then
       (aH m n1).bind fun YA=>
       (kg (aF.mk (aS.mk y z A) B C) YA.2).bind fun Qt=>
       bif !a2.2 then
        aeJ (.next (aa .i64 (a+1),b,d,e,f,g,h,i,j,k,l,m,n,o,q,r,t,u,v,w,x,Qt.ai.aD,Qt.ai.be,Qt.ai.bi,Qt.bv,Qt.aq,D))
       else
        bif aeN (0<=n1) then
         aeJ (.next (aa .i64 (a+1),b,d,e,f,g,h,i,j,k,l,m,n,o,q,r,t,u,v,w,x,Qt.ai.aD,Qt.ai.be,Qt.ai.bi,Qt.bv,Qt.aq,D))
        else
         (gq Qt.ai).bind fun b20=>
         bif !b20 then
          aeJ (.done (aI.mk (0,0) (Field.mk []) (bm.mk 0 []) (aF.mk (aS.mk [] [] []) [] []) [],18))
         else
          (eN Qt a2.1 a0.1).bind fun a21=>
          (bk D [(a0.1,a21.2)]).bind fun l22=>
          aeJ (.next (aa .i64 (a+1),b,d,e,f,g,h,i,j,k,l,m,n,o,q,r,t,u,v,w,x,a21.1.ai.aD,a21.1.ai.be,a21.1.ai.bi,a21.1.bv,a21.1.aq,l22))
      else
       bif !a2.2 then
        aeJ (.next (aa .i64 (a+1),(b,d,e,f,g,h,i,j,k,l,m,n,o,q,r,t,u,v,w,x,y,z,A,B,C,D)))
       else
        bif aeN (0<=n1) then
         aeJ (.next (aa .i64 (a+1),(b,d,e,f,g,h,i,j,k,l,m,n,o,q,r,t,u,v,w,x,y,z,A,B,C,D)))
        else
         (gq (aS.mk y z A)).bind fun b23=>
         bif !b23 then
          aeJ (.done (aI.mk (0,0) (Field.mk []) (bm.mk 0 []) (aF.mk (aS.mk [] [] []) [] []) [],18))
         else
          (eN (aF.mk (aS.mk y z A) B C) a2.1 a0.1).bind fun a24=>
          (bk D [(a0.1,a24.2)]).bind fun l25=>
          aeJ (.next (aa .i64 (a+1),b,d,e,f,g,h,i,j,k,l,m,n,o,q,r,t,u,v,w,x,a24.1.ai.aD,a24.1.ai.be,a24.1.ai.bi,a24.1.bv,a24.1.aq,l25))
     else
      bif !a2.2 then
       aeJ (.next (aa .i64 (a+1),(b,d,e,f,g,h,i,j,k,l,m,n,o,q,r,t,u,v,w,x,y,z,A,B,C,D)))
      else
       bif aeN (0<=n1) then
        aeJ (.next (aa .i64 (a+1),(b,d,e,f,g,h,i,j,k,l,m,n,o,q,r,t,u,v,w,x,y,z,A,B,C,D)))
       else
        (gq (aS.mk y z A)).bind fun b26=>
        bif !b26 then
         aeJ (.done (aI.mk (0,0) (Field.mk []) (bm.mk 0 []) (aF.mk (aS.mk [] [] []) [] []) [],18))
        else
         (eN (aF.mk (aS.mk y z A) B C) a2.1 a0.1).bind fun a27=>
         (bk D [(a0.1,a27.2)]).bind fun l28=>
         aeJ (.next (aa .i64 (a+1),b,d,e,f,g,h,i,j,k,l,m,n,o,q,r,t,u,v,w,x,a27.1.ai.aD,a27.1.ai.be,a27.1.ai.bi,a27.1.bv,a27.1.aq,l28))
   else
    bif !a2.2 then
     bif aeN (0<=n1) then
      (aH m n1).bind fun a29=>
      (kg (aF.mk (aS.mk y z A) B C) a29.2).bind fun Qu=>
      bif !a2.2 then
       aeJ (.next (aa .i64 (a+1),b,d,e,f,g,h,i,j,k,l,m,n,o,q,r,t,u,v,w,x,Qu.ai.aD,Qu.ai.be,Qu.ai.bi,Qu.bv,Qu.aq,D))
      else
       bif aeN (0<=n1) then
        aeJ (.next (aa .i64 (a+1),b,d,e,f,g,h,i,j,k,l,m,n,o,q,r,t,u,v,w,x,Qu.ai.aD,Qu.ai.be,Qu.ai.bi,Qu.bv,Qu.aq,D))
       else
        (gq Qu.ai).bind fun b31=>
        bif !b31 then
         aeJ (.done (aI.mk (0,0) (Field.mk []) (bm.mk 0 []) (aF.mk (aS.mk [] [] []) [] []) [],18))
        else
         (eN Qu a2.1 a0.1).bind fun a32=>
         (bk D [(a0.1,a32.2)]).bind fun l33=>
         aeJ (.next (aa .i64 (a+1),b,d,e,f,g,h,i,j,k,l,m,n,o,q,r,t,u,v,w,x,a32.1.ai.aD,a32.1.ai.be,a32.1.ai.bi,a32.1.bv,a32.1.aq,l33))
     else
      bif !a2.2 then
       aeJ (.next (aa .i64 (a+1),(b,d,e,f,g,h,i,j,k,l,m,n,o,q,r,t,u,v,w,x,y,z,A,B,C,D)))
      else
       bif aeN (0<=n1) then
        aeJ (.next (aa .i64 (a+1),(b,d,e,f,g,h,i,j,k,l,m,n,o,q,r,t,u,v,w,x,y,z,A,B,C,D)))
       else
        (gq (aS.mk y z A)).bind fun b34=>
        bif !b34 then
         aeJ (.done (aI.mk (0,0) (Field.mk []) (bm.mk 0 []) (aF.mk (aS.mk [] [] []) [] []) [],18))
        else
         (eN (aF.mk (aS.mk y z A) B C) a2.1 a0.1).bind fun a35=>
         (bk D [(a0.1,a35.2)]).bind fun l36=>
         aeJ (.next (aa .i64 (a+1),b,d,e,f,g,h,i,j,k,l,m,n,o,q,r,t,u,v,w,x,a35.1.ai.aD,a35.1.ai.be,a35.1.ai.bi,a35.1.bv,a35.1.aq,l36))
    else
     bif !a2.2 then
      aeJ (.next (aa .i64 (a+1),(b,d,e,f,g,h,i,j,k,l,m,n,o,q,r,t,u,v,w,x,y,z,A,B,C,D)))
     else
      bif aeN (0<=n1) then
       aeJ (.next (aa .i64 (a+1),(b,d,e,f,g,h,i,j,k,l,m,n,o,q,r,t,u,v,w,x,y,z,A,B,C,D)))
      else
       (gq (aS.mk y z A)).bind fun b37=>
       bif !b37 then
        aeJ (.done (aI.mk (0,0) (Field.mk []) (bm.mk 0 []) (aF.mk (aS.mk [] [] []) [] []) [],18))
       else
        (eN (aF.mk (aS.mk y z A) B C) a2.1 a0.1).bind fun a38=>
        (bk D [(a0.1,a38.2)]).bind fun l39=>
        aeJ (.next (aa .i64 (a+1),b,d,e,f,g,h,i,j,k,l,m,n,o,q,r,t,u,v,w,x,a38.1.ai.aD,a38.1.ai.be,a38.1.ai.bi,a38.1.bv,a38.1.aq,l39))
  else
   aeJ (.done (aI.mk (t,u) (Field.mk v) (bm.mk w x) (aF.mk (aS.mk y z A) B C) D,0))
noncomputable def lV (p0:aI) (p1:Field):Option (aI×Int):=
 (ou p0).bind fun r0=>
 (oq p1).bind fun r1=>
 ar cE (0,p0.ci.1,p0.ci.2,p0.ii.am,p0.af.aM,p0.af.ce,p0.ae.ai.aD,p0.ae.ai.be,p0.ae.ai.bi,p0.ae.bv,p0.ae.aq,p0.io,p1.am,0,0,0,r0.ci.1,r0.ci.2,r1.am,r0.af.aM,r0.af.ce,r0.ae.ai.aD,r0.ae.ai.be,r0.ae.ai.bi,r0.ae.bv,r0.ae.aq,[])
noncomputable def qv (s:(Int×Int×(List (Int×Int×Int))×Int×Int)):Option (Step (Int×Int×(List (Int×Int×Int))×Int×Int) Bool):=
 bif aeN (s.1<(ww (aeI s.2.2.1))) then
  (aH s.2.2.1 s.1).bind fun a0=>
  bif (a0.2.1==s.2.2.2.1)&&(a0.2.2==s.2.2.2.2) then
   aeJ (.done aeL)
  else
   aeJ (.next (aa .i64 (s.1+1),s.2))
 else
  aeJ (.done aeM)
noncomputable def yw (p0:bm) (p1:Int×Int):Option Bool:=
 ar qv (0,p0.aM,p0.ce,p1)
noncomputable def Cf (p0:bm) (p1:Int×Int):Option (bm×Int×Int):=
 (xz p0).bind fun n0=>
 bif n0 !=0 then
  aeJ (bm.mk 0 [],0,8)
 else
  (vF p1).bind fun b1=>
  bif !b1 then
   aeJ (bm.mk 0 [],0,8)
  else
   (yw p0 p1).bind fun b2=>
   bif b2 then
    aeJ (bm.mk 0 [],0,14)
   else
    bif (ww (aeI p0.ce))==200 then
     aeJ (bm.mk 0 [],0,18)
    else
     bif p0.aM==1000000 then
      aeJ (bm.mk 0 [],0,18)
     else
      (vE p0).bind fun r3=>
      (bk r3.ce [(p0.aM,p1)]).bind fun l4=>
      aeJ (bm.mk (aa .i64 (r3.aM+1)) l4,p0.aM,0)
noncomputable def k9 (p0:aI) (p1:Int×Int):Option (aI×Int×Int):=
 (Cf p0.af p1).bind fun a0=>
 bif a0.2.2 !=0 then
  aeJ (aI.mk (0,0) (Field.mk []) (bm.mk 0 []) (aF.mk (aS.mk [] [] []) [] []) [],0,a0.2.2)
 else
  (ou p0).bind fun r1=>
  (vG p0.ii p1 p0.ci).bind fun a2=>
  bif !a2.2 then
   aeJ (aI.mk r1.ci r1.ii a0.1 r1.ae r1.io,a0.2.1,0)
  else
   (gq p0.ae.ai).bind fun b3=>
   bif !b3 then
    aeJ (aI.mk (0,0) (Field.mk []) (bm.mk 0 []) (aF.mk (aS.mk [] [] []) [] []) [],0,18)
   else
    (eN p0.ae a2.1 a0.2.1).bind fun a4=>
    (bk r1.io [(a0.2.1,a4.2)]).bind fun l5=>
    aeJ (aI.mk r1.ci r1.ii a0.1 a4.1 l5,a0.2.1,0)
noncomputable def dD (s:((List (Int×Int))×Int×Int×Int×Int×Int×Int×(List (Int×Int×Int))×Int×(List (Int×Int×Int))×(List Int)×(List Bool)×(List Int)×(List (Int×Int×Int×Int×Int))×(List Int)×(List (Int×Int×Int)))):Option (Step ((List (Int×Int))×Int×Int×Int×Int×Int×Int×(List (Int×Int×Int))×Int×(List (Int×Int×Int))×(List Int)×(List Bool)×(List Int)×(List (Int×Int×Int×Int×Int))×(List Int)×(List (Int×Int×Int))) (Step ((List (Int×Int))×Int×Int×Int×(List (Int×Int×Int))×Int×(List (Int×Int×Int))×(List Int)×(List Bool)×(List Int)×(List (Int×Int×Int×Int×Int))×(List Int)×(List (Int×Int×Int))×(List (Int×Int×Int))×Int×Int×Int×Int×Int×(List (Int×Int×Int))×Int×(List (Int×Int×Int))×(List Int)×(List Bool)×(List Int)×(List (Int×Int×Int×Int×Int))×(List Int)×(List (Int×Int×Int))) (aI×Int))):=
 match s with
 |(a,b,d,e,f,g,h,i,j,k,l,m,n,o,q,r)=>
  bif aeN (b<(ww (aeI a))) then
   (aH a b).bind fun a0=>
   (yw (bm.mk j k) a0).bind fun b1=>
   bif b1 then
    aeJ (.next (a,aa .i64 (b+1),(d,e,f,g,h,i,j,k,l,m,n,o,q,r)))
   else
    (aH a b).bind fun a2=>
    (k9 (aI.mk (g,h) (Field.mk i) (bm.mk j k) (aF.mk (aS.mk l m n) o q) r) a2).bind fun a3=>
    bif a3.2.2 !=0 then
     aeJ (.done (.done (aI.mk (0,0) (Field.mk []) (bm.mk 0 []) (aF.mk (aS.mk [] [] []) [] []) [],a3.2.2)))
    else
     aeJ (.next (a,aa .i64 (b+1),d,e,f,a3.1.ci.1,a3.1.ci.2,a3.1.ii.am,a3.1.af.aM,a3.1.af.ce,a3.1.ae.ai.aD,a3.1.ae.ai.be,a3.1.ae.ai.bi,a3.1.ae.bv,a3.1.ae.aq,a3.1.io))
  else
   aeJ (.done (.done (aI.mk (g,h) (Field.mk i) (bm.mk j k) (aF.mk (aS.mk l m n) o q) r,0)))
noncomputable def di (s:((List (Int×Int))×Int×Int×Int×(List (Int×Int×Int))×Int×(List (Int×Int×Int))×(List Int)×(List Bool)×(List Int)×(List (Int×Int×Int×Int×Int))×(List Int)×(List (Int×Int×Int))×(List (Int×Int×Int))×Int×Int×Int×Int×Int×(List (Int×Int×Int))×Int×(List (Int×Int×Int))×(List Int)×(List Bool)×(List Int)×(List (Int×Int×Int×Int×Int))×(List Int)×(List (Int×Int×Int)))):Option (Step ((List (Int×Int))×Int×Int×Int×(List (Int×Int×Int))×Int×(List (Int×Int×Int))×(List Int)×(List Bool)×(List Int)×(List (Int×Int×Int×Int×Int))×(List Int)×(List (Int×Int×Int))×(List (Int×Int×Int))×Int×Int×Int×Int×Int×(List (Int×Int×Int))×Int×(List (Int×Int×Int))×(List Int)×(List Bool)×(List Int)×(List (Int×Int×Int×Int×Int))×(List Int)×(List (Int×Int×Int))) (aI×Int)):=
 match s with
 |(a,b,d,e,f,g,h,i,j,k,l,m,n,o,q,r,t,u,v,w,x,y,z,A,B,C,D,E)=>
  bif aeN (b<(ww (aeI h))) then
   (aH h b).bind fun a0=>
   (E6 a a0.2).bind fun b1=>
   bif !b1 then
    (aH h b).bind fun a2=>
    (vH (aI.mk (u,v) (Field.mk w) (bm.mk x y) (aF.mk (aS.mk z A B) C D) E) a2.1).bind fun r3=>
    aeJ (.next (a,aa .i64 (b+1),d,e,f,g,h,i,j,k,l,m,n,o,q,r,t,r3.ci.1,r3.ci.2,r3.ii.am,r3.af.aM,r3.af.ce,r3.ae.ai.aD,r3.ae.ai.be,r3.ae.ai.bi,r3.ae.bv,r3.ae.aq,r3.io))
   else
    aeJ (.next (a,aa .i64 (b+1),(d,e,f,g,h,i,j,k,l,m,n,o,q,r,t,u,v,w,x,y,z,A,B,C,D,E)))
  else
   (zX (Field.mk w) (Field.mk o)).bind fun b4=>
   bif !b4 then
    (lV (aI.mk (u,v) (Field.mk w) (bm.mk x y) (aF.mk (aS.mk z A B) C D) E) (Field.mk o)).bind fun a5=>
    bif a5.2 !=0 then
     aeJ (.done (aI.mk (0,0) (Field.mk []) (bm.mk 0 []) (aF.mk (aS.mk [] [] []) [] []) [],a5.2))
    else
     ar dD (a,0,q,r,t,a5.1.ci.1,a5.1.ci.2,a5.1.ii.am,a5.1.af.aM,a5.1.af.ce,a5.1.ae.ai.aD,a5.1.ae.ai.be,a5.1.ae.ai.bi,a5.1.ae.bv,a5.1.ae.aq,a5.1.io)
   else
    ar dD (a,0,(q,r,t,u,v,w,x,y,z,A,B,C,D,E))
noncomputable def kq (p0:aI) (p1:Field) (p2:List (Int×Int)):Option (aI×Int):=
 (ou p0).bind fun r0=>
 ar di (p2,0,p0.ci.1,p0.ci.2,p0.ii.am,p0.af.aM,p0.af.ce,p0.ae.ai.aD,p0.ae.ai.be,p0.ae.ai.bi,p0.ae.bv,p0.ae.aq,p0.io,p1.am,0,0,0,r0.ci.1,r0.ci.2,r0.ii.am,r0.af.aM,r0.af.ce,r0.ae.ai.aD,r0.ae.ai.be,r0.ae.ai.bi,r0.ae.bv,r0.ae.aq,r0.io)
structure zb where
 jp:aI
 bv:List Int
noncomputable def nE (s:((List Int)×Int×Int)):Option (Step ((List Int)×Int×Int) Int):=
 bif aeN (s.2.2<(ww (aeI s.1))) then
  (aH s.1 s.2.2).bind fun n0=>
  bif n0==s.2.1 then
   aeJ (.done s.2.2)
  else
   aeJ (.next (s.1,s.2.1,aa .i64 (s.2.2+1)))
 else
  aeJ (.done (-1))
noncomputable def KB (p0:List Int) (p1:Int):Option Int:=
 ar nE (p0,p1,0)
noncomputable def xB (s:(Int×(List Int)×(List Bool)×(List Int))):Option (Step (Int×(List Int)×(List Bool)×(List Int)) aS):=
 bif aeN (0<=s.1) then
  (bk s.2.2.2 [s.1]).bind fun l0=>
  aeJ (.next (aa .i64 (s.1-1),s.2.1,s.2.2.1,l0))
 else
  aeJ (.done (aS.mk s.2.1 s.2.2.1 s.2.2.2))
noncomputable def xC (p0:Int):Option aS:=
 bif p0==p0 then
  (sd p0 (0:Int)).bind fun l0=>
  bif p0==p0 then
   (sd p0 (aeM:Bool)).bind fun l1=>
   ar xB (aa .i64 (p0-1),l0,l1,[])
  else
   aeK
 else
  aeK
noncomputable def E7 (s:(Int×Int×(List Int)×(List Bool)×(List Int)×(List Int))):Option (Step (Int×Int×(List Int)×(List Bool)×(List Int)×(List Int)) aF):=
 bif aeN (s.2.1<s.1) then
  (bk s.2.2.2.2.2 [-1]).bind fun l0=>
  aeJ (.next (s.1,aa .i64 (s.2.1+1),s.2.2.1,s.2.2.2.1,s.2.2.2.2.1,l0))
 else
  aeJ (.done (aF.mk (aS.mk s.2.2.1 s.2.2.2.1 s.2.2.2.2.1) [] s.2.2.2.2.2))
noncomputable def xD (p0:Int):Option aF:=
 (xC p0).bind fun r0=>
 ar E7 (p0,0,r0.aD,r0.be,r0.bi,[])
noncomputable def xE (p0:Field) (p1:Int×Int):Option aI:=
 (oq p0).bind fun r0=>
 (xD 200).bind fun r1=>
 aeJ (aI.mk p1 r0 (bm.mk 0 []) r1 [])
structure ali where
 lc:Int
 lm:List (Int×Int×Int)
structure Cg where
 jp:aI
 ls:ali
noncomputable def zc (p0:Int×Int×Int) (p1:List (Int×Int)):Option Bool:=
 (dP p1 p0.2).bind fun b0=>
 aeJ (!b0)
noncomputable def bF (s:((List (Int×Int×Int))×(List (Int×Int))×Int×Int)):Option (Step ((List (Int×Int×Int))×(List (Int×Int))×Int×Int) Int):=
 bif aeN (s.2.2.2<s.2.2.1) then
  (aH s.1 s.2.2.2).bind fun a0=>
  (zc a0 s.2.1).bind fun b1=>
  bif b1 then
   aeJ (.done s.2.2.2)
  else
   aeJ (.next (s.1,s.2.1,s.2.2.1,aa .i64 (s.2.2.2+1)))
 else
  aeJ (.done (-1))
noncomputable def gB (p0:List (Int×Int×Int)) (p1:(List (Int×Int))):Option Int:=
 ar bF (p0,p1,ww (aeI p0),0)
noncomputable def fT (p0:List (Int×Int×Int)) (p1:(List (Int×Int))):Option Bool:=
 (gB p0 p1).bind fun n0=>
 aeJ (aeN (0<=n0))
noncomputable def xF (p0:aI) (p1:List (Int×Int)):Option Bool:=
 bif (ww (aeI p1))==(ww (aeI p0.af.ce)) then
  (fT p0.af.ce p1).bind fun b0=>
  aeJ (!b0)
 else
  aeJ aeM
noncomputable def nF (s:(Int×Int×(List (Int×Int×Int))×(List Int))):Option (Step (Int×Int×(List (Int×Int×Int))×(List Int)) (Step (Int×(List (Int×Int×Int))) (List Int))):=
 bif aeN (s.2.1<s.1) then
  bif aeN (s.2.1<(ww (aeI s.2.2.1))) then
   (aH s.2.2.1 s.2.1).bind fun a0=>
   (bk s.2.2.2 [a0.1]).bind fun l1=>
   aeJ (.next (s.1,aa .i64 (s.2.1+1),s.2.2.1,l1))
  else
   (bk s.2.2.2 [-1]).bind fun l2=>
   aeJ (.next (s.1,aa .i64 (s.2.1+1),s.2.2.1,l2))
 else
  aeJ (.done (.done s.2.2.2))
noncomputable def nG (s:(Int×(List (Int×Int×Int)))):Option (Step (Int×(List (Int×Int×Int))) (List Int)):=
 bif aeN (s.1<(ww (aeI s.2))) then
  aeJ (.next (aa .i64 (s.1*2),s.2))
 else
  ar nF (s.1,0,s.2,[])
noncomputable def sE (p0:Field):Option (List Int):=
 ar nG (1,p0.am)
noncomputable def oy (p0:bE) (p1:Int):Option Int:=
 bif aeN (p1<(ww (aeI p0.kU))) then
  (aH p0.kU p1).bind fun n0=>
  aeJ n0
 else
  (aH p0.aL (aa .i64 (p1- (ww (aeI p0.kU))))).bind fun n1=>
  aeJ n1
noncomputable def yx (p0:Field) (p1:Int×Int) (p2:Int) (p3:Int):Option Int:=
 bif aeN (p2<0) then
  aeJ p3
 else
  bif aeN (p3<0) then
   aeJ p2
  else
   (nB p0 p2).bind fun n0=>
   (aH p0.am n0).bind fun a1=>
   (nB p0 p3).bind fun n2=>
   (aH p0.am n2).bind fun a3=>
   (sC a1 a3 p1).bind fun b4=>
   bif b4 then
    aeJ p2
   else
    aeJ p3
noncomputable def la (s:(Int×(List (Int×Int×Int))×Int×Int×(List Int)×(List Int))):Option (Step (Int×(List (Int×Int×Int))×Int×Int×(List Int)×(List Int)) bE):=
 bif aeN (0<=s.1) then
  (oy (bE.mk s.2.2.2.2.1 s.2.2.2.2.2) (aa .i64 ((aa .i64 (2*s.1))+1))).bind fun n0=>
  (oy (bE.mk s.2.2.2.2.1 s.2.2.2.2.2) (aa .i64 ((aa .i64 (2*s.1))+2))).bind fun n1=>
  (yx (Field.mk s.2.1) (s.2.2.1,s.2.2.2.1) n0 n1).bind fun n2=>
  (aH s.2.2.2.2.2 s.1).bind fun n3=>
  aeJ (.next (aa .i64 (s.1-1),s.2.1,s.2.2.1,s.2.2.2.1,s.2.2.2.2.1,bU s.2.2.2.2.2 s.1 n2))
 else
  aeJ (.done (bE.mk s.2.2.2.2.1 s.2.2.2.2.2))
noncomputable def xG (p0:Field) (p1:Int×Int) (p2:List Int):Option bE:=
 (bL p2).bind fun l0=>
 bif (aa .i64 ((ww (aeI p2)) -1))==(aa .i64 ((ww (aeI p2)) -1)) then
  (sd (aa .i64 ((ww (aeI p2)) -1)) (0:Int)).bind fun l1=>
  ar la (aa .i64 ((ww (aeI l1)) -1),p0.am,p1.1,p1.2,l0,l1)
 else
  aeK
noncomputable def zY (p0:Field) (p1:Int×Int) (p2:List Int):Option bE:=
 (xG p0 p1 p2).bind fun r0=>
 aeJ r0
noncomputable def sF (s:(Int×(List Int)×(List Int)×(List (Int×Int)))):Option (Step (Int×(List Int)×(List Int)×(List (Int×Int))) (List (Int×Int))):=
 bif aeN (s.1<(ww (aeI s.2.2.1))) then
  (oy (bE.mk s.2.1 s.2.2.1) (aa .i64 ((aa .i64 (2*s.1))+1))).bind fun n0=>
  (oy (bE.mk s.2.1 s.2.2.1) (aa .i64 ((aa .i64 (2*s.1))+2))).bind fun n1=>
  bif aeN (n0<0) then
   aeJ (.next (aa .i64 (s.1+1),s.2))
  else
   bif aeN (n1<0) then
    aeJ (.next (aa .i64 (s.1+1),s.2))
   else
    (aH s.2.2.1 s.1).bind fun n2=>
    bif n2==n0 then
     (bk s.2.2.2 [(n1,n0)]).bind fun l3=>
     aeJ (.next (aa .i64 (s.1+1),s.2.1,s.2.2.1,l3))
    else
     (bk s.2.2.2 [(n0,n1)]).bind fun l4=>
     aeJ (.next (aa .i64 (s.1+1),s.2.1,s.2.2.1,l4))
 else
  aeJ (.done s.2.2.2)
noncomputable def E8 (p0:bE):Option (List (Int×Int)):=
 ar sF (0,p0.aL,p0.kU,[])
noncomputable def fw (p0:aI) (p1:Field) (p2:List Int):Option (bq×Int):=
 (zY p1 p0.ci p2).bind fun r0=>
 (E8 r0).bind fun l1=>
 (kq p0 p1 l1).bind fun a2=>
 bif a2.2 !=0 then
  aeJ (bq.mk (aI.mk (0,0) (Field.mk []) (bm.mk 0 []) (aF.mk (aS.mk [] [] []) [] []) []) (bE.mk [] []),a2.2)
 else
  aeJ (bq.mk a2.1 r0,0)
noncomputable def mM (p0:Field) (p1:Int×Int):Option (bq×Int):=
 (sA p0).bind fun n0=>
 bif n0 !=0 then
  (sA p0).bind fun n1=>
  aeJ (bq.mk (aI.mk (0,0) (Field.mk []) (bm.mk 0 []) (aF.mk (aS.mk [] [] []) [] []) []) (bE.mk [] []),n1)
 else
  (xx p1).bind fun n2=>
  bif n2 !=0 then
   aeJ (bq.mk (aI.mk (0,0) (Field.mk []) (bm.mk 0 []) (aF.mk (aS.mk [] [] []) [] []) []) (bE.mk [] []),8)
  else
   (xE p0 p1).bind fun r3=>
   (sE p0).bind fun l4=>
   (fw r3 p0 l4).bind fun a5=>
   aeJ a5
abbrev vI (n:Int):Prop:= -9223372036854775808<=n/\n<9223372036854775808
abbrev SW (n:Int):Prop:=0<=n/\n<18446744073709551616
theorem wi (n:Int):aa .i64 n=(n+9223372036854775808)%18446744073709551616-9223372036854775808:=by
 rw [qF];simp only [IntKind.wrap,IntKind.bits,IntKind.signed,Bool.true_and];have e1:(2:Int)^64=18446744073709551616:=by decide
 have e2:(2:Int)^(64-1)=9223372036854775808:=by decide
 simp only [e1,e2,decide_eq_true_eq];split<;>omega
theorem wu (n:Int):aa .u64 n=n%18446744073709551616:=by
 rw [qF];simp only [IntKind.wrap,IntKind.bits,IntKind.signed,Bool.false_and];have e1:(2:Int)^64=18446744073709551616:=by decide
 simp only [e1];simp
theorem ib {n:Int} (h:vI n):aa .i64 n=n:=by rw [wi];omega
theorem dZ {a b:Int} (h:a≠b):(a !=b)=aeL:=by simpa using h
theorem cS {a b:Int} (h:a=b):(a !=b)=aeM:=by simpa using h
theorem eT {a b:Int} (h:a=b):(a==b)=aeL:=by simpa using h
theorem eu {a b:Int} (h:a≠b):(a==b)=aeM:=by simpa using h
theorem YB (a b:Int):(a==b)=aeN (a=b):=by
 by_cases h:a=b
 · rw [eT h,decide_eq_true h]
 rw [eu h,decide_eq_false h]
theorem lt_or_ge (a b:Int):a<b\/b<=a:=by omega
theorem ad4 (a:Int):mQ .u64 a 32=a / 4294967296:=by unfold mQ;rw [show (min (32:Int).toNat (IntKind.bits .u64))=32 from by decide,show (2:Int)^32=4294967296 from by decide];exact ac2 _ (by decide)
theorem MO {a:Int} (h:SW a):zF .u64 a 4294967295=a%4294967296:=by
 obtain ⟨n,rfl⟩:=aaz h.1;unfold zF;have e:(BitVec.ofInt (IntKind.bits .u64) (n:Int)&&&BitVec.ofInt (IntKind.bits .u64) 4294967295).toNat=n%4294967296:=by
  rw [BitVec.toNat_and];have e1:(BitVec.ofInt (IntKind.bits .u64) (n:Int)).toNat=n:=by
   rw [BitVec.toNat_ofInt];have:((2^(IntKind.bits .u64):Nat):Int)=18446744073709551616:=by decide
   rw [this];omega
  have e2:(BitVec.ofInt (IntKind.bits .u64) (4294967295:Int)).toNat=2^32-1:=by decide
  rw [e1,e2,Nat.and_two_pow_sub_one_eq_mod]
 rw [e];have:=wu ((n%4294967296:Nat):Int);rw [qF] at this;rw [this];omega
theorem YC {a b:Nat} (ha:a<1000000000) (hb:b<1000000000):aa .i64 (mQ .u64 (aa .u64 (aa .i64 ((a:Int)+(b:Int)))) 1)=(((a+b) / 2:Nat):Int):=by unfold mQ;rw [show (min (1:Int).toNat (IntKind.bits .u64))=1 from by decide,show (2:Int)^1=2 from by decide,ac2 _ (by decide),wi (_+_),wu,wi];omega
section
variable {σ ρ : Type} {body : σ -> Option (Step σ ρ)}
theorem cB (st:Nat->σ) (n:Nat) (h: ∀i,i<n->body (st i)=aeJ (.next (st (i+1)))):ar body (st 0)=ar body (st n):=by
 induction n with
 |zero=>rfl
 |succ n ih=>rw [ih fun i hi=>h i (by omega)];exact aV (h n (by omega))
theorem ff (st:Nat->σ) (n:Nat) (c:Nat->Prop) {r e:ρ} (h: ∀i,i<n->(c i->body (st i)=aeJ (.done r))/\(¬c i->body (st i)=aeJ (.next (st (i+1)))))
 (SX:body (st n)=aeJ (.done e)):((∃i,i<n/\c i)->ar body (st 0)=aeJ r)/\((∀i,i<n-> ¬c i)->ar body (st 0)=aeJ e):=by
 constructor
 · rintro ⟨i,hi,hc⟩
   have key: ∀k,k<=n->(∃i,i<n/\n-k<=i/\c i)->ar body (st (n-k))=aeJ r:=by
    intro k
    induction k with
    |zero=>rintro _ ⟨i,h1,h2,_⟩;omega
    |succ k ih=>
     rintro hk ⟨i,h1,h2,h3⟩
     by_cases hc:c (n- (k+1))
     · exact aC ((h _ (by omega)).1 hc)
     rw [aV ((h _ (by omega)).2 hc),show n- (k+1)+1=n-k by omega]
     refine ih (by omega) ⟨i,h1,?_,h3⟩
     by_cases he:i=n- (k+1)
     · subst he;exact absurd h3 hc
     omega
   have:=key n (aeg n) ⟨i,hi,by omega,hc⟩
   rwa [Nat.sub_self] at this
 intro hn
 rw [cB st n fun i hi=>(h i hi).2 (hn i hi)];exact aC SX
theorem least {c:Nat->Prop}: ∀{n:Nat},(∃i,i<n/\c i)-> ∃k,k<n/\c k/\ ∀j,j<k-> ¬c j
 |0,h=>by obtain ⟨i,hi,_⟩:=h;omega
 |n+1,h=>by
  by_cases hx: ∃i,i<n/\c i
  · obtain ⟨k,h1,h2,h3⟩:=least hx
    exact ⟨k,by omega,h2,h3⟩
  obtain ⟨i,hi,hc⟩:=h
  refine ⟨i,hi,hc,fun j hj hcj=>hx ⟨j,by omega,hcj⟩⟩
theorem iG (st:Nat->σ) (n:Nat) (c:Nat->Prop) (r:Nat->ρ) {e:ρ} (h: ∀i,i<n->(c i->body (st i)=aeJ (.done (r i)))/\(¬c i->body (st i)=aeJ (.next (st (i+1)))))
 (SX:body (st n)=aeJ (.done e)):(∀k,k<n->c k->(∀j,j<k-> ¬c j)->ar body (st 0)=aeJ (r k))/\((∀i,i<n-> ¬c i)->ar body (st 0)=aeJ e):=by
 constructor
 · intro k hk hc hj
   rw [cB st k fun i hi=>(h i (by omega)).2 (hj i hi)];exact aC ((h k hk).1 hc)
 intro hn
 rw [cB st n fun i hi=>(h i hi).2 (hn i hi)];exact aC SX
theorem Ch (st:Nat->Nat->σ) (n m:Nat) (c:Nat->Prop)
 (h: ∀lo hi,lo<hi->hi<=n->(c ((lo+hi) / 2)->body (st lo hi)=aeJ (.next (st ((lo+hi) / 2+1) hi)))/\(¬c ((lo+hi) / 2)->body (st lo hi)=aeJ (.next (st lo ((lo+hi) / 2)))))
 (h1: ∀i,i<m->c i) (h2: ∀i,m<=i->i<n-> ¬c i): ∀d lo hi,hi-lo<=d->lo<=m->m<=hi->hi<=n->ar body (st lo hi)=ar body (st m m)
 |0,lo,hi,hd,a,b,_=>by
  have e1:lo=m:=by omega
  have e2:hi=m:=by omega
  rw [e1,e2]
 |d+1,lo,hi,hd,a,b,e=>by
  by_cases hl:lo<hi
  · by_cases hc:c ((lo+hi) / 2)
    · rw [aV ((h lo hi hl e).1 hc)]
      refine Ch st n m c h h1 h2 d _ _ (by omega) ?_ b e;refine NE fun hx=>?_
      exact h2 ((lo+hi) / 2) (by omega) (by omega) hc
    rw [aV ((h lo hi hl e).2 hc)]
    refine Ch st n m c h h1 h2 d _ _ (by omega) a ?_ (by omega);refine NE fun hx=>?_
    exact hc (h1 ((lo+hi) / 2) (by omega))
  have e1:lo=m:=by omega
  have e2:hi=m:=by omega
  rw [e1,e2]
end
section
variable {α : Type} [Inhabited α]
theorem au (l:List α) (n:Nat) (h:n<aeI l):aH l (n:Int)=aeJ l[n]!:=by show l[n]? =aeJ l[n]!;rw [ae7 h,getElem!_pos l n h]
theorem eG {l:List α} {i:Int} (h0:0<=i) (h:i<aeI l):aH l i=aeJ l[i.toNat]!:=by obtain ⟨n,rfl⟩:=aaz h0;exact au l n (by omega)
theorem lW {β:Type} (l:List β) (n:Nat) (a:β):bU l (n:Int) a=l.set n a:=rfl
theorem aT (l:List α) (n m:Nat) (a:α):(l.set n a)[m]! =if m=n/\n<(aeI l) then a else l[m]!:=by
 by_cases hm:m<aeI l
 · rw [getElem!_pos (l.set n a) m (by simpa using hm),getElem!_pos l m hm,List.getElem_set]
   split
   · rw [rc (by omega)]
   rw [ut (by omega)]
 rw [getElem!_neg (l.set n a) m (by simpa using hm),getElem!_neg l m hm]
 split
 · omega
 rfl
theorem aQ {l:List α} {x:α}:x∈l↔ ∃i,i<aeI l/\l[i]! =x:=by
 rw [List.mem_iff_getElem];constructor
 · rintro ⟨i,h,rfl⟩;exact ⟨i,h,getElem!_pos l i h⟩
 rintro ⟨i,h,rfl⟩;exact ⟨i,h,(getElem!_pos l i h).symm⟩
theorem aX {l:List α} {i:Nat} (h:i<aeI l):l[i]!∈l:=aQ.2 ⟨i,h,rfl⟩
theorem bN {l m:List α} {i:Nat} (h:i<aeI l):(l++m)[i]! =l[i]!:=by rw [getElem!_pos (l++m) i (by simp;omega),getElem!_pos l i h,List.getElem_append_left h]
theorem cV {l m:List α} {i:Nat} (h:(aeI l)<=i):(l++m)[i]! =m[i-(aeI l)]!:=by
 by_cases hi:i<aeI l+aeI m
 · rw [getElem!_pos (l++m) i (by simp;omega),getElem!_pos m (i-(aeI l)) (by omega),List.getElem_append_right h]
 rw [getElem!_neg (l++m) i (by simp;omega),getElem!_neg m (i-(aeI l)) (by omega)]
theorem iu {l:List α} {n i:Nat} (h:i<n):(l.take n)[i]! =l[i]!:=by
 by_cases hi:i<aeI l
 · rw [getElem!_pos (l.take n) i (by simp;omega),getElem!_pos l i hi,List.getElem_take]
 rw [getElem!_neg (l.take n) i (by simp;omega),getElem!_neg l i hi]
theorem lG {l:List α} {n i:Nat}:(l.drop n)[i]! =l[n+i]!:=by
 by_cases hi:n+i<aeI l
 · rw [getElem!_pos (l.drop n) i (by simp;omega),getElem!_pos l (n+i) hi,List.getElem_drop]
 rw [getElem!_neg (l.drop n) i (by simp;omega),getElem!_neg l (n+i) hi]
theorem rh {l m:List α} (hl:(aeI l)=aeI m) (h: ∀i,i<aeI l->l[i]! =m[i]!):l=m:=by
 apply List.ext_getElem hl;intro i h1 h2;have:=h i h1
 rwa [getElem!_pos l i h1,getElem!_pos m i h2] at this
theorem SY {l:List α} {i:Nat} (h:i<aeI l):l=l.take i++l[i]!::l.drop (i+1):=by rw [getElem!_pos l i h,List.getElem_cons_drop,List.take_append_drop]
end
theorem aW {α:Type} {l:List α} (h:(aeI l)<=1048576):bL l=aeJ l:=by unfold bL;rw [rc h]
theorem cZ {α:Type} {l m:List α} (h:(aeI l)+aeI m<=1048576):bk l m=aeJ (l++m):=by unfold bk;rw [rc h]
@[simp] theorem aj {α β:Type} (a:α) (f:α->Option β):(aeJ a).bind f=f a:=rfl
end Go.Proofs.YtclphlgnjkajbaaGreat
namespace Go.Proofs.YtclphlgnjkajbaaGreat
open Go.Vm Classical
theorem iM {n:Int} (h:vI n):hZ n=aeJ (n.natAbs:Int):=by
 unfold hZ;simp only [wi,wu]
 by_cases hn:n<0
 · simp only [hn,decide_true,lw,EQ];omega
 simp only [hn,decide_false,pp,EQ];omega
theorem nH {n:Int} (h:vI n):j9 n=aeJ (n.natAbs:Int):=by
 unfold j9;simp only [wu]
 by_cases hn:n<0
 · simp only [hn,decide_true,lw,EQ];omega
 simp only [hn,decide_false,pp,EQ];omega
theorem oz (m n:Nat):qu m n=aeJ (If m n:Int):=by
 unfold qu
 induction n using aey generalizing m with
 |ind n ih=>
  by_cases h0:n=0
  · subst h0
    rw [aet];exact aC (by simp [me])
  have e:me ((m:Int),(n:Int))=aeJ (.next ((n:Int),((m%n:Nat):Int))):=by
   have h1:((n:Int) !=0)=aeL:=by simp;omega
   have h2:((n:Int)==0)=aeM:=by simp;omega
   simp only [me,h1,h2,lw,pp,aeC]
  rw [aV e,ih (m%n) (Nat.mod_lt _ (by omega)) n,aaB m n,Nat.gcd_rec n m,aaB]
theorem zd (m n:Nat):uv m n=aeJ (If m n:Int):=by
 unfold uv
 induction n using aey generalizing m with
 |ind n ih=>
  by_cases h0:n=0
  · subst h0
    rw [aet];exact aC (by simp [qn])
  have e:qn ((m:Int),(n:Int))=aeJ (.next ((n:Int),((m%n:Nat):Int))):=by
   have h1:aeN (0<(n:Int))=aeL:=by simp;omega
   have h2:((n:Int)==0)=aeM:=by simp;omega
   simp only [qn,h1,h2,lw,pp,aeC]
  rw [aV e,ih (m%n) (Nat.mod_lt _ (by omega)) n,aaB m n,Nat.gcd_rec n m,aaB]
def bS (r:Int×Int):Prop:=1<=r.2/\r.1≠ -9223372036854775808/\If r.2.natAbs r.1.natAbs=1
abbrev nQ (r:Int×Int):Prop:=vI r.1/\vI r.2
theorem eH {r:Int×Int} (h:nQ r):fH r=aeJ (if bS r then 0 else 8):=by
 obtain ⟨a,b⟩:=r;obtain ⟨ha,hb⟩:=h;unfold fH bS;dsimp only at ha hb ⊢
 by_cases h1:b<1
 · rw [ut (by omega)];simp [h1]
 by_cases h2:a= -9223372036854775808
 · rw [ut (by omega)];simp [h1,h2]
 have e2:(a== -9223372036854775808)=aeM:=by simpa using h2
 have e3:aa .u64 b=(b.natAbs:Int):=by rw [wu];omega
 simp only [h1,decide_false,pp,e2,nH ha,aj,e3,zd];have hp:0<If b.natAbs a.natAbs:=Nat.gcd_pos_of_pos_left _ (by omega)
 by_cases h3:If b.natAbs a.natAbs=1
 · rw [rc ⟨by omega,h2,h3⟩,h3];rfl
 rw [ut (fun h=>h3 h.2.2)]
 have:aeN (1<(If b.natAbs a.natAbs:Int))=aeL:=by simp;omega
 rw [this];rfl
theorem ri {r:Int×Int} (h:nQ r):xx r=aeJ (if bS r then 0 else 8):=by
 obtain ⟨a,b⟩:=r;obtain ⟨ha,hb⟩:=h;unfold xx bS;dsimp only at ha hb ⊢
 by_cases h1:b<1
 · rw [ut (by omega)];simp [h1]
 by_cases h2:a= -9223372036854775808
 · rw [ut (by omega)];simp [h1,h2]
 have e2:(a== -9223372036854775808)=aeM:=by simpa using h2
 have e3:aa .u64 b=(b.natAbs:Int):=by rw [wu];omega
 simp only [h1,decide_false,pp,e2,iM ha,aj,e3,oz];rw [aaB]
 by_cases h3:If b.natAbs a.natAbs=1
 · rw [rc ⟨by omega,h2,h3⟩,h3];rfl
 rw [ut (fun h=>h3 h.2.2)]
 have:((If b.natAbs a.natAbs:Int) !=1)=aeL:=by simp;omega
 rw [this];rfl
theorem SZ (x y:Int) (hx:SW x) (hy:SW y): ∃p q r s:Int,0<=p/\p<=18446744065119617025/\0<=q/\q<=18446744065119617025/\0<=r/\r<=18446744065119617025/\0<=s/\s<=18446744065119617025/\
 x / 4294967296*(y / 4294967296)=p/\x / 4294967296*(y%4294967296)=q/\x%4294967296*(y / 4294967296)=r/\x%4294967296*(y%4294967296)=s/\
 x*y=p*18446744073709551616+(q+r)*4294967296+s:=by
 have FZ:0<=x / 4294967296/\x / 4294967296<=4294967295:=by omega
 have H7:0<=x%4294967296/\x%4294967296<=4294967295:=by omega
 have Uz:0<=y / 4294967296/\y / 4294967296<=4294967295:=by omega
 have PA:0<=y%4294967296/\y%4294967296<=4294967295:=by omega
 have ex:x=x / 4294967296*4294967296+x%4294967296:=by omega
 have ey:y=y / 4294967296*4294967296+y%4294967296:=by omega
 generalize x / 4294967296=a at*;generalize x%4294967296=b at*;generalize y / 4294967296=c at*;generalize y%4294967296=d at*;have bd: ∀{u v:Int},0<=u/\u<=4294967295->0<=v/\v<=4294967295->0<=u*v/\u*v<=18446744065119617025:=by
  intro u v hu hv;refine ⟨aeh hu.1 hv.1,?_⟩
  calc u*v<=4294967295*4294967295:=acl hu.2 hv.2 hv.1 (by decide)
   _=_:=by decide
 refine ⟨a*c,a*d,b*c,b*d,(bd FZ Uz).1,(bd FZ Uz).2,(bd FZ PA).1,(bd FZ PA).2,(bd H7 Uz).1,(bd H7 Uz).2,(bd H7 PA).1,(bd H7 PA).2,rfl,rfl,rfl,rfl,?_⟩;rw [ex,ey]
 grind
theorem uw {x y:Int} (hx:SW x) (hy:SW y):dV x y=aeJ (x*y / 18446744073709551616,x*y%18446744073709551616):=by
 unfold dV;obtain ⟨p,q,r,s,p0,p1,q0,q1,r0,r1,s0,s1,ep,eq,er,es,exy⟩:=SZ x y hx hy;have key: ∀z:Int,zF .u64 (z%18446744073709551616) 4294967295=z%18446744073709551616%4294967296:=fun z=>MO (by constructor<;>omega)
 simp only [ad4,MO hx,MO hy,wu,key,ep,eq,er,es,exy,EQ,aal,and_true];clear ep eq er es exy key hx hy;have e1:s%18446744073709551616=s:=by omega
 have e2:(q+s / 4294967296)%18446744073709551616=q+s / 4294967296:=by omega
 have ep:p%18446744073709551616=p:=by omega
 have eq:q%18446744073709551616=q:=by omega
 have er:r%18446744073709551616=r:=by omega
 rw [e1,ep,eq,er,e2];have e3:s=s / 4294967296*4294967296+s%4294967296:=by omega
 have e4:q+s / 4294967296=(q+s / 4294967296) / 4294967296*4294967296+(q+s / 4294967296)%4294967296:=by omega
 have b1:0<=s%4294967296/\s%4294967296<4294967296:=by omega
 have b2:0<=(q+s / 4294967296)%4294967296/\(q+s / 4294967296)%4294967296<4294967296:=by omega
 have b3:0<=(q+s / 4294967296) / 4294967296/\(q+s / 4294967296) / 4294967296<=4294967295:=by omega
 have b4:0<=s / 4294967296/\s / 4294967296<=4294967295:=by omega
 generalize (q+s / 4294967296) / 4294967296=t1 at*;generalize (q+s / 4294967296)%4294967296=t0 at*;generalize s / 4294967296=c1 at*;generalize s%4294967296=c0 at*;clear e1 e2;have e5:(t0+r)%18446744073709551616=t0+r:=by omega
 rw [e5];have e6:t0+r=(t0+r) / 4294967296*4294967296+(t0+r)%4294967296:=by omega
 have b5:0<=(t0+r)%4294967296/\(t0+r)%4294967296<4294967296:=by omega
 have b6:0<=(t0+r) / 4294967296/\(t0+r) / 4294967296<=4294967295:=by omega
 generalize (t0+r) / 4294967296=u1 at*;generalize (t0+r)%4294967296=u0 at*;omega
theorem MP {x y:Int} (hx:SW x) (hy:SW y):tg x y=aeJ (aeM,x*y / 18446744073709551616,x*y%18446744073709551616):=by
 unfold tg;obtain ⟨p,q,r,s,p0,p1,q0,q1,r0,r1,s0,s1,ep,eq,er,es,exy⟩:=SZ x y hx hy;have t1: ∀a:Int,0<=a->Do a 4294967296=a / 4294967296:=fun a h=>acZ h
 have t2: ∀a:Int,0<=a->UV a 4294967296=a%4294967296:=fun a h=>Int.tmod_eq_emod_of_nonneg h
 simp only [wu];rw [t1 x hx.1,t1 y hy.1,t2 x hx.1,t2 y hy.1];have f1:x / 4294967296%18446744073709551616=x / 4294967296:=by omega
 have f2:y / 4294967296%18446744073709551616=y / 4294967296:=by omega
 simp only [f1,f2,ep,eq,er,es];have g: ∀a:Int,Do (a%18446744073709551616) 4294967296=a%18446744073709551616 / 4294967296:=fun a=>t1 _ (by omega)
 have g2: ∀a:Int,UV (a%18446744073709551616) 4294967296=a%18446744073709551616%4294967296:=fun a=>t2 _ (by omega)
 simp only [g,g2,exy,EQ,aal,true_and];constructor<;>omega
abbrev B64 (a:Bool×Int×Int):Prop:=SW a.2.1/\SW a.2.2
theorem yz {n:Int} (h:vI n):SW (n.natAbs:Int):=by constructor<;>omega
theorem yA {n:Int} (h:vI n):(n.natAbs:Int)<=9223372036854775808:=by omega
theorem Ba (a b:Int):((a.natAbs:Int)*(b.natAbs:Int))=((a*b).natAbs:Int):=by rw [Int.natAbs_mul];rfl
theorem rj {a b:Int} (ha:vI a) (hb:vI b):((a*b).natAbs:Int)<=85070591730234615865843651857942052864:=by
 rw [<- Ba]
 calc (a.natAbs:Int)*(b.natAbs:Int)<=9223372036854775808*9223372036854775808:=acl (yA ha) (yA hb) (by omega) (by decide)
  _=_:=by decide
theorem vJ {a b:Int} (ha:vI a) (hb:vI b):
 kf a b=aeJ (aeN (a*b<0),((a*b).natAbs:Int) / 18446744073709551616,((a*b).natAbs:Int)%18446744073709551616):=by
 unfold kf;simp only [iM ha,iM hb,aj,MP (yz ha) (yz hb),Ba];have hs:(a*b<0)↔((a<0/\0<b)\/(0<a/\b<0)):=by
  constructor
  · intro h
    rcases adc a 0 with h1|h1|h1
    · rcases adc b 0 with h2|h2|h2
      · have:=Int.mul_pos_of_neg_of_neg h1 h2;omega
      · subst h2;simp at h
      exact .inl ⟨h1,h2⟩
    · subst h1;simp at h
    rcases adc b 0 with h2|h2|h2
    · exact .inr ⟨h1,h2⟩
    · subst h2;simp at h
    have:=Int.mul_pos h1 h2;omega
  rintro (⟨h1,h2⟩|⟨h1,h2⟩)
  · exact aax h1 h2
  exact Int.mul_neg_of_pos_of_neg h1 h2
 have hd:aeN (a*b<0)=aeN ((a<0/\0<b)\/(0<a/\b<0)):=by simp only [hs]
 rw [hd];clear hd hs;generalize ((a*b).natAbs:Int)=z
 by_cases h1:a<0
 · have Ly: ¬0<a:=by omega
   have ahm:(a !=0)=aeL:=dZ (by omega)
   by_cases h2:b<0
   · have Pq: ¬0<b:=by omega
     simp [h1,h2,Ly,Pq]
   by_cases h3:b=0
   · simp [h1,h3,ahm]
   have h3':0<b:=by omega
   simp [h1,h2,h3',ahm,dZ h3]
 by_cases h0:a=0
 · subst h0
   by_cases h2:b<0<;>simp [h2]
 have Ly:0<a:=by omega
 by_cases h2:b<0
 · have Pq:(b !=0)=aeL:=dZ (by omega)
   simp [h1,h2,Ly,dZ h0,Pq]
 simp [h1,h2,Ly]
theorem KC {a b:Int} (ha:vI a) (hb:vI b):
 pD a b=aeJ (!(aeN (a<0)==aeN (b<0)),((a*b).natAbs:Int) / 18446744073709551616,((a*b).natAbs:Int)%18446744073709551616):=by
 unfold pD;simp only [nH ha,nH hb,aj,uw (yz ha) (yz hb),Ba]
def iV (a b:Int):Int:=if a<b then -1 else if b<a then 1 else 0
theorem ze (a b:Int):iC a b=aeJ (iV a b):=by
 unfold iC mc iV
 by_cases h1:a<b<;>by_cases h2:b<a<;>simp [h1,h2]
theorem Gg (a b:Int):hO a b=aeJ (iV a b):=by
 unfold hO lB iV
 by_cases h1:a<b<;>by_cases h2:b<a<;>simp [h1,h2]
theorem jr (a b:Int):dW a b=aeJ (iV a b):=by
 unfold dW cmp_isNaN_int iV
 by_cases h1:a<b<;>by_cases h2:b<a<;>simp [h1,h2]
theorem eW (a b:Int):(a<b/\iV a b= -1)\/(a=b/\iV a b=0)\/(b<a/\iV a b=1):=by
 unfold iV
 by_cases h1:a<b
 · exact .inl ⟨h1,by rw [rc h1]⟩
 by_cases h2:b<a
 · exact .inr (.inr ⟨h2,by rw [ut h1,rc h2]⟩)
 exact .inr (.inl ⟨by omega,by rw [ut h1,ut h2]⟩)
theorem IH (a b:Bool×Int×Int) (ha:B64 a) (hb:B64 b):qY a b=aeJ (iV (a.2.1*18446744073709551616+a.2.2) (b.2.1*18446744073709551616+b.2.2)):=by
 obtain ⟨s,ah,al⟩:=a;obtain ⟨t,bh,bl⟩:=b;obtain ⟨⟨a1,a2⟩,a3,a4⟩:=ha;obtain ⟨⟨b1,b2⟩,b3,b4⟩:=hb;dsimp only at*;unfold qY iV;dsimp only
 by_cases h1:ah=bh
 · subst h1
   by_cases h2:al=bl
   · subst h2;simp
   by_cases h3:al<bl
   · simp [dZ h2,h3]
   rw [ut (by omega),rc (by omega)];simp [dZ h2,h3]
 by_cases h3:ah<bh
 · rw [rc (by omega)];simp [dZ h1,h3]
 rw [ut (by omega),rc (by omega)];simp [dZ h1,h3]
theorem MQ (a b:Bool×Int×Int) (ha:B64 a) (hb:B64 b):oS a b=aeJ (iV (a.2.1*18446744073709551616+a.2.2) (b.2.1*18446744073709551616+b.2.2)):=by
 obtain ⟨s,ah,al⟩:=a;obtain ⟨t,bh,bl⟩:=b;obtain ⟨⟨a1,a2⟩,a3,a4⟩:=ha;obtain ⟨⟨b1,b2⟩,b3,b4⟩:=hb;dsimp only at*;unfold oS;simp only [Gg,aj];unfold iV
 by_cases h1:ah=bh
 · subst h1
   by_cases h3:al<bl
   · simp [h3]
   by_cases h2:bl<al
   · rw [ut (show¬(ah*18446744073709551616+al<ah*18446744073709551616+bl) by omega),rc (show ah*18446744073709551616+bl<ah*18446744073709551616+al by omega)];simp [h2,h3]
   have:al=bl:=by omega
   subst this;simp
 by_cases h3:ah<bh
 · rw [rc (show ah*18446744073709551616+al<bh*18446744073709551616+bl by omega)];simp [h3]
 rw [ut (show¬(ah*18446744073709551616+al<bh*18446744073709551616+bl) by omega),rc (show bh*18446744073709551616+bl<ah*18446744073709551616+al by omega)];simp [h3,show bh<ah by omega]
theorem sG (a:Bool) {n:Int} (h0:0<=n) (h:n<=85070591730234615865843651857942052864):B64 (a,n / 18446744073709551616,n%18446744073709551616):=by constructor<;>constructor<;>dsimp only<;>omega
theorem II {n:Int} (h:(n.natAbs:Int)<=85070591730234615865843651857942052864):k8 (aeN (n<0),(n.natAbs:Int) / 18446744073709551616,(n.natAbs:Int)%18446744073709551616)=aeJ (iV n 0):=by
 unfold k8 iV;dsimp only
 by_cases h0:n=0
 · subst h0;simp
 by_cases h1:n<0
 · rw [rc h1]
   by_cases h2:(n.natAbs:Int) / 18446744073709551616=0
   · have h3: ¬((n.natAbs:Int)%18446744073709551616=0):=by omega
     simp [h1,h2,eu h3]
   simp [h1,eu h2]
 rw [ut h1,rc (by omega)]
 by_cases h2:(n.natAbs:Int) / 18446744073709551616=0
 · have h3: ¬((n.natAbs:Int)%18446744073709551616=0):=by omega
   simp [h1,h2,eu h3]
 simp [h1,eu h2]
def vK (a b:Int×Int):Int:=iV (a.1*b.2) (b.1*a.2)
theorem MR {a b:Int×Int} (ha:nQ a) (hb:nQ b):th a b=aeJ (vK a b):=by
 unfold th vK;have n1:=rj ha.1 hb.2;have n2:=rj hb.1 ha.2;simp only [vJ ha.1 hb.2,vJ hb.1 ha.2,aj,II n1,II n2];generalize a.1*b.2=x at*;generalize b.1*a.2=y at*;rw [IH _ _ (sG _ (by omega) n1) (sG _ (by omega) n2),IH _ _ (sG _ (by omega) n2) (sG _ (by omega) n1)];have ex:((x.natAbs:Int) / 18446744073709551616)*18446744073709551616+(x.natAbs:Int)%18446744073709551616=(x.natAbs:Int):=by omega
 have ey:((y.natAbs:Int) / 18446744073709551616)*18446744073709551616+(y.natAbs:Int)%18446744073709551616=(y.natAbs:Int):=by omega
 simp only [ex,ey,aj];rcases eW x 0 with ⟨h1,e1⟩|⟨h1,e1⟩|⟨h1,e1⟩<;>rcases eW y 0 with ⟨h2,e2⟩|⟨h2,e2⟩|⟨h2,e2⟩<;>rw [e1,e2]<;>simp<;>
  unfold iV<;>(repeat' split)<;>first|rfl|omega
theorem YD {a b:Int×Int} (ha:nQ a) (hb:nQ b):vA a b=aeJ (if bS a/\bS b then 0 else 8):=by
 unfold vA;simp only [eH ha,eH hb,aj]
 by_cases h1:bS a<;>by_cases h2:bS b<;>simp [h1,h2]
theorem S0 {a b:Int×Int} (ha:nQ a) (hb:nQ b):yr a b=aeJ (if bS a/\bS b then (vK a b,0) else (0,8)):=by
 unfold yr;rw [YD ha hb]
 by_cases h:bS a/\bS b
 · rw [rc h,rc h]
   obtain ⟨⟨a1,a2,a3⟩,b1,b2,b3⟩:=h;have n1:=rj ha.1 hb.2;have n2:=rj hb.1 ha.2;simp only [aj,ze,KC ha.1 hb.2,KC hb.1 ha.2];rw [MQ _ _ (sG _ (by omega) n1) (sG _ (by omega) n2)];have ex:((a.1*b.2).natAbs:Int) / 18446744073709551616*18446744073709551616+((a.1*b.2).natAbs:Int)%18446744073709551616=((a.1*b.2).natAbs:Int):=by omega
   have ey:((b.1*a.2).natAbs:Int) / 18446744073709551616*18446744073709551616+((b.1*a.2).natAbs:Int)%18446744073709551616=((b.1*a.2).natAbs:Int):=by omega
   simp only [ex,ey,aj];unfold vK;have s1:(a.1<0↔a.1*b.2<0):=by
    constructor
    · intro h;exact aax h (by omega)
    intro h;rcases lt_or_ge a.1 0 with h1|h1
    · exact h1
    have:=aeh h1 (show 0<=b.2 by omega);omega
   have s2:(b.1<0↔b.1*a.2<0):=by
    constructor
    · intro h;exact aax h (by omega)
    intro h;rcases lt_or_ge b.1 0 with h1|h1
    · exact h1
    have:=aeh h1 (show 0<=a.2 by omega);omega
   generalize a.1*b.2=x at*;generalize b.1*a.2=y at*
   by_cases h1:a.1<0<;>by_cases h2:b.1<0
   · have h3:=s1.1 h1;have h4:=s2.1 h2
     have:aa .i64 (-iV (x.natAbs:Int) (y.natAbs:Int))=iV x y:=by rw [wi];unfold iV;(repeat' split)<;>omega
     simp [h1,h2,this]
   · have h3:=s1.1 h1;have h4: ¬y<0:=fun h=>h2 (s2.2 h)
     have:iV a.1 b.1=iV x y:=by unfold iV;(repeat' split)<;>omega
     simp [h1,h2,this]
   · have h3: ¬x<0:=fun h=>h1 (s1.2 h);have h4:=s2.1 h2
     have:iV a.1 b.1=iV x y:=by unfold iV;(repeat' split)<;>omega
     simp [h1,h2,this]
   have h3: ¬x<0:=fun h=>h1 (s1.2 h);have h4: ¬y<0:=fun h=>h2 (s2.2 h)
   have:iV (x.natAbs:Int) (y.natAbs:Int)=iV x y:=by unfold iV;(repeat' split)<;>omega
   simp [h1,h2,this]
 rw [ut h,ut h];rfl
abbrev Pt:=Int×Int×Int
def eO (p:Pt):Prop:=0<=p.1/\p.1<=65535/\ -1048576<=p.2.1/\p.2.1<=1048576/\ -1048576<=p.2.2/\p.2.2<=1048576
theorem gr (p:Pt):jG p=aeJ (if eO p then 0 else 8):=by
 obtain ⟨i,a,b⟩:=p;unfold jG nk eO;dsimp only
 by_cases h1:i<0
 · rw [ut (by omega)];simp [h1]
 by_cases h2:65535<i
 · rw [ut (by omega)];simp [h1,h2]
 by_cases h3:a< -1048576
 · rw [ut (by omega)];simp [h1,h2,h3]
 by_cases h4:1048576<a
 · rw [ut (by omega)];simp [h1,h2,h3,h4]
 by_cases h5:b< -1048576
 · rw [ut (by omega)];simp [h1,h2,h3,h4,h5]
 by_cases h6:1048576<b
 · rw [ut (by omega)];simp [h1,h2,h3,h4,h5,h6]
 rw [rc (by omega)];simp [h1,h2,h3,h4,h5,h6]
theorem E9 (p:Pt):xy p=aeJ (if eO p then 0 else 8):=by
 obtain ⟨i,a,b⟩:=p;unfold xy eO;dsimp only
 by_cases h1:i<0
 · rw [ut (by omega)];simp [h1]
 by_cases h2:65535<i
 · rw [ut (by omega)];simp [h1,h2]
 by_cases h3:a< -1048576
 · rw [ut (by omega)];simp [h1,h2,h3]
 by_cases h4:1048576<a
 · rw [ut (by omega)];simp [h1,h2,h3,h4]
 by_cases h5:b< -1048576
 · rw [ut (by omega)];simp [h1,h2,h3,h4,h5]
 by_cases h6:1048576<b
 · rw [ut (by omega)];simp [h1,h2,h3,h4,h5,h6]
 rw [rc (by omega)];simp [h1,h2,h3,h4,h5,h6]
theorem uy {x y:Int} (hx:vI x) (hy:vI y): -85070591730234615865843651857942052864<=x*y/\x*y<=85070591730234615865843651857942052864:=by have:=rj hx hy;omega
theorem ZT {x y:Int} (hx:vI x) (hy:vI y):(x%18446744073709551616)*(y%18446744073709551616)=x*y+(if x<0 then y else 0)*18446744073709551616+(if y<0 then x else 0)*18446744073709551616+(if x<0/\y<0 then 340282366920938463463374607431768211456 else 0):=by
 by_cases h1:x<0<;>by_cases h2:y<0
 · have e1:x%18446744073709551616=x+18446744073709551616:=by omega
   have e2:y%18446744073709551616=y+18446744073709551616:=by omega
   rw [e1,e2,rc h1,rc h2,rc ⟨h1,h2⟩];grind
 · have e1:x%18446744073709551616=x+18446744073709551616:=by omega
   have e2:y%18446744073709551616=y:=by omega
   rw [e1,e2,rc h1,ut h2,ut (fun h=>h2 h.2)];grind
 · have e1:x%18446744073709551616=x:=by omega
   have e2:y%18446744073709551616=y+18446744073709551616:=by omega
   rw [e1,e2,ut h1,rc h2,ut (fun h=>h1 h.1)];grind
 have e1:x%18446744073709551616=x:=by omega
 have e2:y%18446744073709551616=y:=by omega
 rw [e1,e2,ut h1,ut h2,ut (fun h=>h1 h.1)];grind
theorem KD {a b:Int} (ha:0<=a) (hb:0<=b):oe a b 0=aeJ ((a+b)%18446744073709551616,(a+b) / 18446744073709551616):=by unfold oe;simp [ha,hb]
theorem S1 {a b c d u v:Int} (ha:vI a) (hb:vI b):lS (a,b,c,d,0,u,v,0,0)=aeJ (.next (a,b,c,d,1,u,v,a*b / 18446744073709551616,a*b%18446744073709551616)):=by
 unfold lS;have hm:=uw (x:=aa .u64 a) (y:=aa .u64 b) (by rw [wu];constructor<;>omega) (by rw [wu];constructor<;>omega);have Q3:=uy ha hb;have hu:=ZT ha hb;simp only [hm,aj];simp only [wu,hu];generalize a*b=x at*
 by_cases h1:a<0<;>by_cases h2:b<0
 all_goals
  simp only [h1,h2,decide_true,decide_false,lw,pp,if_true,if_false,and_self,and_false,false_and];rw [KD (by omega) (by omega)];simp only [wi,aj,show aeN ((0:Int)<2)=aeL from rfl,lw,show ((0:Int)==0)=aeL from rfl,EQ,Step.next.injEq,aal,true_and];refine ⟨by omega,?_,?_⟩<;>omega
theorem S2 {a b c d u v h l:Int} (hc:vI c) (hd:vI d) (hl:SW l)
 (_hh: -9223372036854775808<=h/\h<9223372036854775808) (hs: -170141183460469231731687303715884105728<=h*18446744073709551616+l+c*d/\h*18446744073709551616+l+c*d<170141183460469231731687303715884105728):
 lS (a,b,c,d,1,u,v,h,l)=aeJ (.next (a,b,c,d,2,u,v,(h*18446744073709551616+l+c*d) / 18446744073709551616,(h*18446744073709551616+l+c*d)%18446744073709551616)):=by
 unfold lS;have hm:=uw (x:=aa .u64 c) (y:=aa .u64 d) (by rw [wu];constructor<;>omega) (by rw [wu];constructor<;>omega);have Q3:=uy hc hd;have hu:=ZT hc hd;simp only [hm,aj];simp only [wu,hu];generalize c*d=x at*
 by_cases h1:c<0<;>by_cases h2:d<0
 all_goals
  simp only [h1,h2,decide_true,decide_false,lw,pp,if_true,if_false,and_self,and_false,false_and];rw [KD (by omega) (by omega)];simp only [wi,aj,show aeN ((1:Int)<2)=aeL from rfl,lw,pp,show ((1:Int)==0)=aeM from rfl,show ((1:Int)==1)=aeL from rfl,EQ,Step.next.injEq,aal,true_and];refine ⟨by omega,?_,?_⟩<;>omega
theorem Gh {a b c d:Int} (ha:vI a) (hb:vI b) (hc:vI c) (hd:vI d) (hs: -170141183460469231731687303715884105728<=a*b+c*d/\a*b+c*d<170141183460469231731687303715884105728):
 vz (a,b,c,d)=aeJ ((a*b+c*d) / 18446744073709551616,(a*b+c*d)%18446744073709551616):=by
 unfold vz;dsimp only;have Q3:=uy ha hb;have e:a*b / 18446744073709551616*18446744073709551616+a*b%18446744073709551616+c*d=a*b+c*d:=by omega
 rw [aV (S1 ha hb),aV (S2 hc hd (by constructor<;>omega) (by constructor<;>omega) (by rw [e];exact hs)),e];exact aC rfl
def G9 (p q:Pt) (t:Int×Int):Int:=(p.2.1-q.2.1)*t.2+(p.2.2-q.2.2)*t.1
def leads (p q:Pt) (t:Int×Int):Prop:=0<G9 p q t\/(G9 p q t=0/\(q.2.2<p.2.2\/(p.2.2=q.2.2/\p.1<q.1)))
def MS (p q:Pt) (t:Int×Int):Int:=if G9 p q t<0 then -1 else if 0<G9 p q t then 1 else if p.2.2<q.2.2 then -1 else if q.2.2<p.2.2 then 1 else iV q.1 p.1
theorem E' (p q:Pt) (t:Int×Int):0<MS p q t↔leads p q t:=by
 unfold MS leads
 by_cases h1:G9 p q t<0
 · rw [rc h1];omega
 by_cases h2:0<G9 p q t
 · rw [ut h1,rc h2];simp [h2]
 rw [ut h1,ut h2]
 by_cases h3:p.2.2<q.2.2
 · rw [rc h3];omega
 by_cases h4:q.2.2<p.2.2
 · rw [ut h3,rc h4];omega
 rw [ut h3,ut h4]
 rcases eW q.1 p.1 with ⟨h,e⟩|⟨h,e⟩|⟨h,e⟩<;>rw [e]<;>omega
theorem yB (a b:Int):qR [a,b]=aeJ (if a≠0 then a else b):=by
 unfold qR
 by_cases h1:a=0
 · subst h1
   rw [aV (y:=(0,[0,b],2,1)) (by rfl)]
   by_cases h2:b=0
   · subst h2
     rw [aV (y:=(0,[0,0],2,2)) (by rfl)];exact aC rfl
   refine (aC (r:=b) ?_).trans (by simp)
   have e:s9 (0,[0,b],2,1)=(bif b !=0 then aeJ (.done b) else aeJ (.next (0,[0,b],2,aa .i64 (1+1)))):=rfl;rw [e,dZ h2];rfl
 refine (aC (r:=a) ?_).trans (by simp [h1])
 have e:s9 (0,[a,b],ww [a,b].length,0)=(bif a !=0 then aeJ (.done a) else aeJ (.next (0,[a,b],ww [a,b].length,aa .i64 (0+1)))):=rfl;rw [e,dZ h1];rfl
theorem S3 {p q:Pt} {t:Int×Int} (hp:eO p) (hq:eO q) (ht:nQ t):vI (p.2.1-q.2.1)/\vI (p.2.2-q.2.2)/\ -170141183460469231731687303715884105728<=G9 p q t/\G9 p q t<170141183460469231731687303715884105728:=by
 obtain ⟨a1,a2,a3,a4,a5,a6⟩:=hp;obtain ⟨b1,b2,b3,b4,b5,b6⟩:=hq;have h1:vI (p.2.1-q.2.1):=by constructor<;>omega
 have h2:vI (p.2.2-q.2.2):=by constructor<;>omega
 refine ⟨h1,h2,?_⟩;have k: ∀{x y:Int},-2097152<=x/\x<=2097152->vI y-> -19342813113834066795298816<=x*y/\x*y<=19342813113834066795298816:=by
  intro x y hx hy;have:((x*y).natAbs:Int)<=2097152*9223372036854775808:=by rw [<- Ba];exact acl (by omega) (yA hy) (by omega) (by decide)
  omega
 have k1:=k (x:=p.2.1-q.2.1) (by omega) ht.2;have k2:=k (x:=p.2.2-q.2.2) (by omega) ht.1;unfold G9;omega
theorem sH {p q:Pt} {t:Int×Int} (hp:eO p) (hq:eO q) (ht:nQ t):kW p q t=aeJ (MS p q t):=by
 obtain ⟨g1,g2,g3⟩:=S3 hp hq ht;unfold kW;rw [ib g1,ib g2,Gh g1 ht.2 g2 ht.1 g3];simp only [aj,ze,jr,yB];rw [show (p.2.1-q.2.1)*t.2+(p.2.2-q.2.2)*t.1=G9 p q t from rfl];unfold MS;generalize G9 p q t=n at*
 by_cases h1:n<0
 · have e1:(n / 18446744073709551616==0)=aeM:=by simp;omega
   have e2:aeN (n / 18446744073709551616<0)=aeL:=by simp;omega
   rw [rc h1];simp [e1,e2]
 by_cases h2:0<n
 · have e1:((n / 18446744073709551616==0)&&(n%18446744073709551616==0))=aeM:=by simp;omega
   have e2:aeN (n / 18446744073709551616<0)=aeM:=by simp;omega
   rw [ut h1,rc h2];simp only [e1,e2,IR,lw,pp]
 have:n=0:=by omega
 subst this;rw [ut h1,ut h2];unfold iV
 by_cases h3:p.2.2<q.2.2
 · simp [h3]
 by_cases h4:q.2.2<p.2.2
 · simp [h3,h4]
 simp [h3,h4]
theorem YE {x y:Int} (hx: -85070591730234615865843651857942052864<=x/\x<=85070591730234615865843651857942052864) (hy: -85070591730234615865843651857942052864<=y/\y<=85070591730234615865843651857942052864):
 zW (aeN (x<0),(x.natAbs:Int) / 18446744073709551616,(x.natAbs:Int)%18446744073709551616) (aeN (y<0),(y.natAbs:Int) / 18446744073709551616,(y.natAbs:Int)%18446744073709551616)=
  aeJ (aeN (x+y<0),((x+y).natAbs:Int) / 18446744073709551616,((x+y).natAbs:Int)%18446744073709551616):=by
 have n1:(x.natAbs:Int)<=85070591730234615865843651857942052864:=by omega
 have n2:(y.natAbs:Int)<=85070591730234615865843651857942052864:=by omega
 unfold zW;rw [IH _ _ (sG _ (by omega) n1) (sG _ (by omega) n2)];have ex:((x.natAbs:Int) / 18446744073709551616)*18446744073709551616+(x.natAbs:Int)%18446744073709551616=(x.natAbs:Int):=by omega
 have ey:((y.natAbs:Int) / 18446744073709551616)*18446744073709551616+(y.natAbs:Int)%18446744073709551616=(y.natAbs:Int):=by omega
 simp only [ex,ey,aj];have same: ∀{X Y Z:Int},0<=X->0<=Y->X<=85070591730234615865843651857942052864->Y<=85070591730234615865843651857942052864->Z=X+Y-> ∀b:Bool,
  (bif aeN (aa .u64 (X%18446744073709551616+Y%18446744073709551616)<X%18446744073709551616) then aeJ (b,aa .u64 (aa .u64 (X / 18446744073709551616+Y / 18446744073709551616)+1),aa .u64 (X%18446744073709551616+Y%18446744073709551616))
   else aeJ (b,aa .u64 (X / 18446744073709551616+Y / 18446744073709551616),aa .u64 (X%18446744073709551616+Y%18446744073709551616)))=aeJ (b,Z / 18446744073709551616,Z%18446744073709551616):=by
  intro X Y Z h1 h2 h3 h4 h5 b;subst h5;simp only [wu]
  by_cases h:(X%18446744073709551616+Y%18446744073709551616)%18446744073709551616<X%18446744073709551616
  · simp only [h,decide_true,lw,EQ,aal,true_and];constructor<;>omega
  simp only [h,decide_false,pp,EQ,aal,true_and];constructor<;>omega
 have minus: ∀{X Y Z:Int} (b c:Bool),0<=X->0<=Y->X<=85070591730234615865843651857942052864->Y<=X->Z=X-Y->sB (b,X / 18446744073709551616,X%18446744073709551616) (c,Y / 18446744073709551616,Y%18446744073709551616)=aeJ (aeM,Z / 18446744073709551616,Z%18446744073709551616):=by
  intro X Y Z b c h1 h2 h3 h4 h5;subst h5;unfold sB;simp only [wu]
  by_cases h:X%18446744073709551616<Y%18446744073709551616
  · simp only [h,decide_true,lw,EQ,aal,true_and];constructor<;>omega
  simp only [h,decide_false,pp,EQ,aal,true_and];constructor<;>omega
 by_cases h1:x<0<;>by_cases h2:y<0
 · have h3:x+y<0:=by omega
   simp only [h1,h2,h3,decide_true,beq_self_eq_true,lw];exact same (by omega) (by omega) n1 n2 (by omega) aeL
 · simp only [h1,h2,decide_true,decide_false,show (aeL==aeM)=aeM from rfl,pp,lw]
   by_cases h3:(y.natAbs:Int)<=(x.natAbs:Int)
   · have e:aeN (0<=iV (x.natAbs:Int) (y.natAbs:Int))=aeL:=by
      rcases eW (x.natAbs:Int) (y.natAbs:Int) with ⟨h,e⟩|⟨h,e⟩|⟨h,e⟩<;>rw [e]<;>first|rfl|omega
     rw [e,minus (Z:=((x+y).natAbs:Int)) _ _ (by omega) (by omega) n1 h3 (by omega)];simp only [lw,aj]
     by_cases h4:x+y=0
     · rw [h4];rfl
     have h5:x+y<0:=by omega
     by_cases h6:0<((x+y).natAbs:Int) / 18446744073709551616
     · simp [h5,h6]
     have h7:0<((x+y).natAbs:Int)%18446744073709551616:=by omega
     simp only [h5,h6,h7,decide_true,decide_false,pp]
   have e:aeN (0<=iV (x.natAbs:Int) (y.natAbs:Int))=aeM:=by
    rcases eW (x.natAbs:Int) (y.natAbs:Int) with ⟨h,e⟩|⟨h,e⟩|⟨h,e⟩<;>rw [e]<;>first|rfl|omega
   rw [e,minus (Z:=((x+y).natAbs:Int)) _ _ (by omega) (by omega) n2 (by omega) (by omega)];have h5: ¬(x+y<0):=by omega
   simp [h5]
 · simp only [h1,h2,decide_true,decide_false,show (aeM==aeL)=aeM from rfl,pp]
   by_cases h3:(y.natAbs:Int)<=(x.natAbs:Int)
   · have e:aeN (0<=iV (x.natAbs:Int) (y.natAbs:Int))=aeL:=by
      rcases eW (x.natAbs:Int) (y.natAbs:Int) with ⟨h,e⟩|⟨h,e⟩|⟨h,e⟩<;>rw [e]<;>first|rfl|omega
     rw [e,minus (Z:=((x+y).natAbs:Int)) _ _ (by omega) (by omega) n1 h3 (by omega)];have h5: ¬(x+y<0):=by omega
     simp [h5]
   have e:aeN (0<=iV (x.natAbs:Int) (y.natAbs:Int))=aeM:=by
    rcases eW (x.natAbs:Int) (y.natAbs:Int) with ⟨h,e⟩|⟨h,e⟩|⟨h,e⟩<;>rw [e]<;>first|rfl|omega
   rw [e,minus (Z:=((x+y).natAbs:Int)) _ _ (by omega) (by omega) n2 (by omega) (by omega)];have h5:x+y<0:=by omega
   simp [h5]
 have h3: ¬(x+y<0):=by omega
 simp only [h1,h2,h3,decide_false,beq_self_eq_true,lw];exact same (by omega) (by omega) n1 n2 (by omega) aeM
theorem ad5 {p q:Pt} {t:Int×Int} (hp:eO p) (hq:eO q) (ht:nQ t):Cb p q t=aeJ (iV (G9 p q t) 0):=by
 obtain ⟨g1,g2,g3⟩:=S3 hp hq ht;unfold Cb;rw [ib g1,ib g2,vJ g1 ht.2,vJ g2 ht.1];simp only [aj];rw [YE (uy g1 ht.2) (uy g2 ht.1)];simp only [aj];rw [show (p.2.1-q.2.1)*t.2+(p.2.2-q.2.2)*t.1=G9 p q t from rfl];obtain ⟨a1,a2,a3,a4,a5,a6⟩:=hp;obtain ⟨b1,b2,b3,b4,b5,b6⟩:=hq;have k: ∀{x y:Int},-2097152<=x/\x<=2097152->vI y-> -19342813113834066795298816<=x*y/\x*y<=19342813113834066795298816:=by
  intro x y hx hy;have:((x*y).natAbs:Int)<=2097152*9223372036854775808:=by rw [<- Ba];exact acl (by omega) (yA hy) (by omega) (by decide)
  omega
 have k1:=k (x:=p.2.1-q.2.1) (by omega) ht.2;have k2:=k (x:=p.2.2-q.2.2) (by omega) ht.1;have:((G9 p q t).natAbs:Int)<=85070591730234615865843651857942052864:=by unfold G9;omega
 rw [II this];rfl
theorem KE {p q:Pt} {t:Int×Int} (hp:eO p) (hq:eO q) (ht:nQ t):sC p q t=aeJ (aeN (leads p q t)):=by
 unfold sC leads;rw [ad5 hp hq ht];simp only [aj];rcases eW (G9 p q t) 0 with ⟨h,e⟩|⟨h,e⟩|⟨h,e⟩<;>rw [e]
 · have h1: ¬(0<G9 p q t):=by omega
   have h2: ¬(G9 p q t=0):=by omega
   simp [h1,h2]
 · rw [h]
   by_cases h3:p.2.2=q.2.2
   · simp [h3]
   simp [h3,dZ h3]
 simp [h]
theorem tq {p q:Pt} {t:Int×Int} (ht:nQ t):oi p q t=aeJ (if eO p/\eO q/\bS t then (if p.1=q.1 then 2 else 0) else 8):=by
 unfold oi;simp only [gr,eH ht,aj]
 by_cases h4:p.1=q.1
 · by_cases h1:eO p<;>by_cases h2:eO q<;>by_cases h3:bS t<;>simp [h1,h2,h3,h4]
 have h5:=eu h4
 by_cases h1:eO p<;>by_cases h2:eO q<;>by_cases h3:bS t<;>simp [h1,h2,h3,h4,h5]
theorem YF {n d:Int} (hn:vI n) (hd:vI d):vB n d=mw n d:=by
 unfold vB mw
 by_cases h0:d=0
 · subst h0;rfl
 have e0:(d==0)=aeM:=by simpa using h0
 simp only [e0,pp,nH hn,nH hd,iM hn,iM hd,aj,zd,oz];have hp:0<If n.natAbs d.natAbs:=ae8 _ (by omega);have e1:((If n.natAbs d.natAbs:Int)==0)=aeM:=by simp;omega
 simp only [e1,pp];unfold xq qZ;simp only [show aeN ((0:Int)<0)=aeM from rfl,pp]
 by_cases h3:n=0
 · subst h3
   have z: ∀k:Int,aa .u64 (Do (((0:Int).natAbs:Nat):Int) k)=0:=fun k=>by rw [show (((0:Int).natAbs:Nat):Int)=0 from rfl,Int.zero_tdiv];rfl
   have z2:aa .i64 0=0:=rfl;have z3:aa .i64 (0-0)=0:=rfl;simp only [z,z2,z3,show ((0:Int) !=0)=aeM from rfl,pp,show aeN ((0:Int)<0)=aeM from rfl];cases (!(aeM==aeN (d<0)))<;>simp
 simp only [dZ h3]
 cases (!(aeN (n<0)==aeN (d<0)))<;>rfl
noncomputable def met (p q:Pt):Int×Int:=((mw (p.2.1-q.2.1) (q.2.2-p.2.2)).getD ((0,0),0)).1
theorem MT {n d:Int} (hn: -2097152<=n/\n<=2097152) (hd: -2097152<=d/\d<=2097152) (h0:d≠0): ∃r,mw n d=aeJ (r,0)/\bS r/\nQ r/\r.1*d=n*r.2:=by
 have hn':vI n:=by constructor<;>omega
 have hd':vI d:=by constructor<;>omega
 unfold mw;have e0:(d==0)=aeM:=by simpa using h0
 have hp:0<If n.natAbs d.natAbs:=ae8 _ (by omega);have e1:((If n.natAbs d.natAbs:Int)==0)=aeM:=by simp;omega
 simp only [e0,pp,iM hn',iM hd',aj,oz,e1];have q1:Do (n.natAbs:Int) (If n.natAbs d.natAbs:Int)=((n.natAbs / If n.natAbs d.natAbs:Nat):Int):=by rw [aeD]
 have q2:Do (d.natAbs:Int) (If n.natAbs d.natAbs:Int)=((d.natAbs / If n.natAbs d.natAbs:Nat):Int):=by rw [aeD]
 rw [q1,q2];have l1:n.natAbs / If n.natAbs d.natAbs<=2097152:=aeH (aez _ _) (by omega);have l2:d.natAbs / If n.natAbs d.natAbs<=2097152:=aeH (aez _ _) (by omega);have l3:1<=d.natAbs / If n.natAbs d.natAbs:=Nat.div_pos (Nat.le_of_dvd (by omega) (ae1 _ _)) hp;have co:If (d.natAbs / If n.natAbs d.natAbs) (n.natAbs / If n.natAbs d.natAbs)=1:=by rw [aaB,Nat.gcd_div (aev _ _) (ae1 _ _)];exact Nat.div_self hp
 have v1:n.natAbs=If n.natAbs d.natAbs*(n.natAbs / If n.natAbs d.natAbs):=(aer (aev _ _)).symm;have v2:d.natAbs=If n.natAbs d.natAbs*(d.natAbs / If n.natAbs d.natAbs):=(aer (ae1 _ _)).symm;have val:(n.natAbs:Int)*((d.natAbs / If n.natAbs d.natAbs:Nat):Int)=(d.natAbs:Int)*((n.natAbs / If n.natAbs d.natAbs:Nat):Int):=by
  generalize n.natAbs / If n.natAbs d.natAbs=a at*;generalize d.natAbs / If n.natAbs d.natAbs=b at*;generalize If n.natAbs d.natAbs=g at*;rw [v1,v2,aeA,aeA,aeE,aeE,ac0 (a:Int) (b:Int)]
 clear v1 v2;generalize n.natAbs / If n.natAbs d.natAbs=a at*;generalize d.natAbs / If n.natAbs d.natAbs=b at*;have w1:aa .u64 (a:Int)=a:=by rw [wu];omega
 have w2:aa .u64 (b:Int)=b:=by rw [wu];omega
 have made: ∀s:Bool,qZ s (aeM,0,(a:Int)) (aeM,0,(b:Int))=aeJ ((if s=aeL then -(a:Int) else a,(b:Int)),0):=by
  intro s;unfold qZ;have d1:aeN (9223372036854775807<(a:Int))=aeM:=by simp;omega
  have d2:aeN (9223372036854775807<(b:Int))=aeM:=by simp;omega
  have v1:aa .i64 (a:Int)=a:=by rw [wi];omega
  have v2:aa .i64 (b:Int)=b:=by rw [wi];omega
  have v3:aa .i64 (0- (a:Int))= -(a:Int):=by rw [wi];omega
  simp only [show aeN ((0:Int)<0)=aeM from rfl,pp,d1,d2,v1,v2,v3];cases s<;>simp
 have fin: ∀s:Bool,(if s=aeL then -(a:Int) else a)*d=n*b-> ∃r,(aeJ ((if s=aeL then -(a:Int) else a,(b:Int)),(0:Int)):Option ((Int×Int)×Int))=aeJ (r,0)/\bS r/\nQ r/\r.1*d=n*r.2:=by
  intro s hv;refine ⟨_,rfl,?_,?_,hv⟩
  · unfold bS
    dsimp only;refine ⟨by omega,?_,?_⟩
    · cases s
      · simp only [aeu,if_false];omega
      simp only [if_true];omega
    rw [show (if s=aeL then -(a:Int) else (a:Int)).natAbs=a by cases s<;>simp,show ((b:Int)).natAbs=b by omega];exact co
  constructor
  · dsimp only;cases s
    · simp only [aeu,if_false];constructor<;>omega
    simp only [if_true];constructor<;>omega
  dsimp only;constructor<;>omega
 simp only [w1,w2,made,aj]
 by_cases h1:(!(aeN (n<0)==aeN (d<0)))=aeL
 · rw [h1]
   refine fin (n !=0) ?_
   by_cases Uc:n=0
   · subst Uc
     have a0:(a:Int)=0:=by
      have:((d.natAbs:Nat):Int)*(a:Int)=0:=by rw [<- val];simp
      rcases Int.mul_eq_zero.1 this with h|h
      · omega
      exact h
     simp [a0]
   have e:(n !=0)=aeL:=by simpa using Uc
   rw [e,rc rfl]
   by_cases S4:n<0
   · have hd0: ¬d<0:=fun k=>by simp [S4,k] at h1
     have x1:(n.natAbs:Int)= -n:=by omega
     have x2:(d.natAbs:Int)=d:=by omega
     rw [x1,x2,aaC] at val;rw [aaC,ac0];omega
   have hd0:d<0:=by
    by_cases k:d<0
    · exact k
    simp [S4,k] at h1
   have x1:(n.natAbs:Int)=n:=by omega
   have x2:(d.natAbs:Int)= -d:=by omega
   rw [x1,x2,aaC] at val;rw [aaC,ac0];omega
 rw [aew] at h1;rw [h1]
 refine fin aeM ?_;rw [ut (by simp)]
 by_cases S4:n<0
 · have hd0:d<0:=by
    by_cases k:d<0
    · exact k
    simp [S4,k] at h1
   have x1:(n.natAbs:Int)= -n:=by omega
   have x2:(d.natAbs:Int)= -d:=by omega
   rw [x1,x2,aaC,aaC] at val;rw [ac0];omega
 have hd0: ¬d<0:=fun k=>by simp [S4,k] at h1
 have x1:(n.natAbs:Int)=n:=by omega
 have x2:(d.natAbs:Int)=d:=by omega
 rw [x1,x2] at val;rw [ac0];omega
theorem MU {p q:Pt} (hp:eO p) (hq:eO q) (h:p.2.2≠q.2.2):mw (p.2.1-q.2.1) (q.2.2-p.2.2)=aeJ (met p q,0)/\bS (met p q)/\nQ (met p q)/\(met p q).1*(q.2.2-p.2.2)=(p.2.1-q.2.1)*(met p q).2:=by
 obtain ⟨a1,a2,a3,a4,a5,a6⟩:=hp;obtain ⟨b1,b2,b3,b4,b5,b6⟩:=hq;obtain ⟨r,h1,h2,h3⟩:=MT (n:=p.2.1-q.2.1) (d:=q.2.2-p.2.2) (by omega) (by omega) (by omega);have:met p q=r:=by unfold met;rw [h1];rfl
 rw [this];exact ⟨h1,h2,h3⟩
theorem G' {p q:Pt} (hp:eO p) (hq:eO q):aa .i64 (p.2.1-q.2.1)=p.2.1-q.2.1/\aa .i64 (q.2.2-p.2.2)=q.2.2-p.2.2/\vI (p.2.1-q.2.1)/\vI (q.2.2-p.2.2):=by
 obtain ⟨a1,a2,a3,a4,a5,a6⟩:=hp;obtain ⟨b1,b2,b3,b4,b5,b6⟩:=hq;have h1:vI (p.2.1-q.2.1):=by constructor<;>omega
 have h2:vI (q.2.2-p.2.2):=by constructor<;>omega
 exact ⟨ib h1,ib h2,h1,h2⟩
noncomputable def xH (h l:Pt) (t:Int×Int):(Int×Int)×Bool:=if leads l h t then (t,aeL) else if h.2.2<l.2.2 then (met h l,aeL) else ((0,0),aeM)
theorem ad6 {p q:Pt} (hp:eO p) (hq:eO q) (h:p.2.2≠q.2.2):Cc p q=aeJ (met p q):=by obtain ⟨w1,w2,_,_⟩:=G' hp hq;unfold Cc;rw [w1,w2,(MU hp hq h).1];rfl
theorem MV {h l:Pt} {t:Int×Int} (hh:eO h) (hl:eO l) (ht:nQ t):ti h l t=aeJ (xH h l t):=by
 unfold ti xH;rw [KE hl hh ht];simp only [aj]
 by_cases h1:leads l h t
 · simp [h1]
 simp only [h1,decide_false,pp,if_false]
 by_cases h2:h.2.2<l.2.2
 · simp [h2,ad6 hh hl (by omega)]
 simp [h2]
theorem S5:bS (0,1):=by unfold bS;decide
theorem Dd {h l:Pt} {t:Int×Int} (ht:nQ t):
 qo h l t=aeJ (if eO h/\eO l/\bS t/\h.1≠l.1 then ((xH h l t).1,(xH h l t).2,0) else ((0,0),aeM,if eO h/\eO l/\bS t then 2 else 8)):=by
 unfold qo;rw [tq ht]
 by_cases h1:eO h/\eO l/\bS t
 · rw [rc h1]
   by_cases h2:h.1=l.1
   · simp [h1,h2]
   obtain ⟨hh,hl,hr⟩:=h1
   rw [ut h2,rc ⟨hh,hl,hr,h2⟩];simp only [aj,show ((0:Int) !=0)=aeM from rfl,pp,sH hl hh ht];unfold xH
   by_cases h3:leads l h t
   · have:aeN (0<MS l h t)=aeL:=by simpa using (E' l h t).2 h3
     rw [this];simp [h3]
   have:aeN (0<MS l h t)=aeM:=decide_eq_false fun k=>h3 ((E' l h t).1 k)
   rw [this,ut h3];simp only [pp]
   by_cases h4:h.2.2<l.2.2
   · have e:aeN (l.2.2<=h.2.2)=aeM:=by simp;omega
     rw [e,rc h4];unfold xt;obtain ⟨w1,w2,i1,i2⟩:=G' hh hl;have e2:(h.2.2==l.2.2)=aeM:=by simp;omega
     rw [tq (by constructor<;>constructor<;>decide),rc ⟨hh,hl,S5⟩,ut h2];simp only [aj,show ((0:Int) !=0)=aeM from rfl,pp,e2,w1,w2,YF i1 i2,(MU hh hl (by omega)).1];rfl
   have e:aeN (l.2.2<=h.2.2)=aeL:=by simp;omega
   rw [e,ut h4];rfl
 rw [ut h1,ut (fun h=>h1 ⟨h.1,h.2.1,h.2.2.1⟩),ut h1];rfl
theorem Fa {h l:Pt} {t:Int×Int} (hh:eO h) (hl:eO l) (ht:nQ t) (hr:bS t) (h2:(xH h l t).2=aeL):bS (xH h l t).1/\nQ (xH h l t).1:=by
 unfold xH at*
 by_cases h3:leads l h t
 · rw [rc h3];exact ⟨hr,ht⟩
 rw [ut h3] at h2 ⊢
 by_cases h4:h.2.2<l.2.2
 · rw [rc h4];have:=(MU hh hl (by omega)).2;exact ⟨this.1,this.2.1⟩
 rw [ut h4] at h2;cases h2
theorem MW: ∀(n:Nat) (l:List Nat),l.Nodup->(∀x∈l,x<n)->aeI l<=n
 |0,l,_,h=>by
  cases l with
  |nil=>simp
  |cons a l=>exact absurd (h a (by simp)) (by omega)
 |n+1,l,hd,h=>by
  have h1:=MW n (l.filter (fun x=>x≠n)) (hd.filter _) (by
   intro x hx;rw [aeB] at hx;have:=h x hx.1;have h2:x≠n:=by simpa using hx.2
   omega)
  have h2:(aeI l)<=(l.filter (fun x=>x≠n)).length+1:=by
   clear h1 h
   induction l with
   |nil=>simp
   |cons a l ih=>
    rw [aaG] at hd;have:=ih hd.2
    by_cases ha:a=n
    · subst ha
      have e:l.filter (fun x=>decide (x≠a))=l:=by rw [List.filter_eq_self];intro x hx;simp only [ne_eq,decide_eq_true_eq];rintro rfl;exact hd.1 hx
      rw [List.filter_cons_of_neg (by simp),e];simp
    rw [List.filter_cons_of_pos (by simpa using ha)]
    simp only [aex];omega
  omega
theorem CW {n:Nat} {l:List Nat} (hd:l.Nodup) (h: ∀x∈l,x<n) (hn:n<=aeI l): ∀x,x<n->x∈l:=by
 intro x hx;refine NE fun hc=>?_
 have:=MW n (x::l) (by rw [aaG];exact ⟨hc,hd⟩) (by
  intro y hy;rcases aeF.1 hy with rfl|hy
  · exact hx
  exact h y hy)
 simp only [aex] at this;omega
def eX (l:List Pt):Prop:= ∀i,i+1<aeI l->(l[i]!).1<(l[i+1]!).1
def bn (l:List Pt):Prop:=aeI l<=64/\(∀p∈l,eO p)/\eX l
noncomputable def ic (l:List Pt):Int:=if 64<(aeI l) then 4 else if¬(∀p∈l,eO p) then 8 else if¬eX l then 32 else 0
theorem fh {l:List Pt}:ic l=0↔bn l:=by
 unfold ic bn
 by_cases h1:64<aeI l
 · rw [rc h1];simp;omega
 rw [ut h1]
 by_cases h2: ∀p∈l,eO p
 · rw [ut (AC.2 h2)]
   by_cases h3:eX l
   · rw [ut (AC.2 h3)]
     exact ⟨fun _=>⟨by omega,h2,h3⟩,fun _=>rfl⟩
   rw [rc h3]
   exact ⟨fun h=>(by cases h),fun h=>absurd h.2.2 h3⟩
 rw [rc h2]
 constructor
 · intro h;cases h
 intro h;exact absurd h.2.1 h2
theorem ba {n:Nat} (h:n<1000000000):aa .i64 ((n:Int)+1)=((n+1:Nat):Int):=by rw [wi];omega
theorem nI {n:Nat} (h:n<1000000000) (h1:1<=n):aa .i64 ((n:Int) -1)=((n-1:Nat):Int):=by rw [wi];omega
theorem aA (n:Nat):ww n=(n:Int):=rfl
theorem KF (l:List Pt) (h:(aeI l)<=64):ar ia (1,l)=aeJ (.done (if eX l then 0 else 32)):=by
 by_cases hl:(aeI l)<=1
 · have:eX l:=fun i hi=>by omega
   rw [rc this];refine aC ?_;unfold ia;rw [aA];have:aeN ((1:Int)<((aeI l):Int))=aeM:=by simp;omega
   simp [this]
 have key:=ff (body:=ia) (fun i=>(((i+1:Nat):Int),l)) (aeI l-1) (fun i=>(l[i+1]!).1<=(l[i]!).1) (r:= .done 32) (e:= .done 0) (by
  intro i hi;have e1:aeN (((i+1:Nat):Int)<((aeI l):Int))=aeL:=by simp;omega
  have e2:aa .i64 (((i+1:Nat):Int) -1)=(i:Int):=by rw [wi];omega
  have hb:ia (((i+1:Nat):Int),l)=bif aeN ((l[i+1]!).1<=(l[i]!).1) then aeJ (.done (.done 32)) else aeJ (.next (((i+1+1:Nat):Int),l)):=by unfold ia;simp only [aA,e1,lw,e2,au l i (by omega),au l (i+1) (by omega),aj,ba (show i+1<1000000000 by omega)]
  constructor
  · intro hc;rw [hb,decide_eq_true hc];rfl
  · intro hc;rw [hb,decide_eq_false hc];rfl) (by
  unfold ia;have:aeN (((aeI l-1+1:Nat):Int)<ww (aeI l))=aeM:=by rw [aA];simp;omega
  simp only [this,pp])
 by_cases hs:eX l
 · rw [rc hs]
   refine key.2 fun i hi=>?_
   have:=hs i (by omega);omega
 rw [ut hs]
 refine key.1 ?_;unfold eX at hs;simp only [PP] at hs;obtain ⟨i,hi,h2⟩:=hs;exact ⟨i,by omega,by omega⟩
theorem nJ (f:Field):sA f=aeJ (ic f.am):=by
 unfold sA ic;rw [aA]
 by_cases h:64<aeI f.am
 · have:aeN ((64:Int)<((aeI f.am):Int))=aeL:=by simp;omega
   rw [this,rc h];rfl
 have:aeN ((64:Int)<((aeI f.am):Int))=aeM:=by simp;omega
 rw [this,ut h];simp only [pp];generalize f.am=l at*;have key:=ff (body:=k7) (fun i=>((i:Int),l)) (aeI l) (fun i=> ¬eO l[i]!) (r:=8) (e:=if eX l then 0 else 32) (by
  intro i hi;have e1:aeN ((i:Int)<((aeI l):Int))=aeL:=by simp;omega
  have hb:k7 ((i:Int),l)=bif (if eO l[i]! then (0:Int) else 8) !=0 then aeJ (.done 8) else aeJ (.next (((i+1:Nat):Int),l)):=by unfold k7;simp only [aA,e1,lw,au l i (by omega),aj,E9,ba (show i<1000000000 by omega)]
  constructor
  · intro hc;rw [hb,ut hc];rfl
  · intro hc;rw [hb,rc (AC.1 hc)];rfl) (by
  unfold k7;have:aeN (((aeI l):Int)<ww (aeI l))=aeM:=by rw [aA];simp
  simp only [this,pp];exact KF l (by omega))
 by_cases hp: ∀p∈l,eO p
 · rw [ut (AC.2 hp)]
   refine (key.2 fun i hi=>?_).trans ?_
   · exact AC.2 (hp _ (aX hi))
   by_cases hs:eX l
   · simp [hs]
   simp [hs]
 rw [rc hp]
 refine key.1 ?_;obtain ⟨p,hp⟩:=PP.1 hp;obtain ⟨hm,h2⟩:=ae6.1 hp;obtain ⟨i,hi,rfl⟩:=aQ.1 hm;exact ⟨i,hi,h2⟩
theorem KG (l:List Pt) (h:(aeI l)<=64):ar hM (l,((aeI l):Int),0,l)=aeJ (.done (if eX l then 0 else 32)):=by
 have key:=ff (body:=hM) (fun i=>(l,((aeI l):Int),(i:Int),l)) (aeI l) (fun i=>0<i/\(l[i]!).1<=(l[i-1]!).1) (r:= .done 32) (e:= .done 0) (by
  intro i hi;have e1:aeN ((i:Int)<((aeI l):Int))=aeL:=by simp;omega
  by_cases h0:0<i
  · have e3:aeN ((0:Int)<(i:Int))=aeL:=by simp;omega
    have hb:hM (l,((aeI l):Int),(i:Int),l)=bif aeN ((l[i]!).1<=(l[i-1]!).1) then aeJ (.done (.done 32)) else aeJ (.next (l,((aeI l):Int),((i+1:Nat):Int),l)):=by unfold hM;simp only [e1,e3,lw,au l i (by omega),nI (show i<1000000000 by omega) h0,au l (i-1) (by omega),aj,ba (show i<1000000000 by omega)]
    constructor
    · intro hc;rw [hb,decide_eq_true hc.2];rfl
    intro hc
    have: ¬(l[i]!).1<=(l[i-1]!).1:=fun h=>hc ⟨h0,h⟩
    rw [hb,decide_eq_false this];rfl
  · have e3:aeN ((0:Int)<(i:Int))=aeM:=by simp;omega
    constructor
    · intro hc;exact absurd hc.1 h0
    intro _
    unfold hM;simp only [e1,e3,lw,pp,au l i (by omega),aj,ba (show i<1000000000 by omega)]) (by
  unfold hM;have:aeN (((aeI l):Int)<((aeI l):Int))=aeM:=by simp
  simp only [this,pp])
 by_cases hs:eX l
 · rw [rc hs]
   refine key.2 fun i hi=>?_
   rintro ⟨h0,h1⟩;have:=hs (i-1) (by omega);rw [show i-1+1=i by omega] at this;omega
 rw [ut hs]
 refine key.1 ?_;unfold eX at hs;simp only [PP] at hs;obtain ⟨i,hi,h2⟩:=hs;exact ⟨i+1,by omega,by omega,by rw [show i+1-1=i by omega];omega⟩
theorem dU (f:Field):cT f=aeJ (ic f.am):=by
 unfold cT ic;rw [aA]
 by_cases h:64<aeI f.am
 · have:aeN ((64:Int)<((aeI f.am):Int))=aeL:=by simp;omega
   rw [this,rc h];rfl
 have:aeN ((64:Int)<((aeI f.am):Int))=aeM:=by simp;omega
 rw [this,ut h];simp only [pp];generalize f.am=l at*;have key:=ff (body:=kV) (fun i=>(l,((aeI l):Int),(i:Int),l)) (aeI l) (fun i=> ¬eO l[i]!) (r:=8) (e:=if eX l then 0 else 32) (by
  intro i hi;have e1:aeN ((i:Int)<((aeI l):Int))=aeL:=by simp;omega
  have hb:kV (l,((aeI l):Int),(i:Int),l)=bif (if eO l[i]! then (0:Int) else 8) !=0 then aeJ (.done (if eO l[i]! then (0:Int) else 8)) else aeJ (.next (l,((aeI l):Int),((i+1:Nat):Int),l)):=by unfold kV;simp only [e1,lw,au l i (by omega),aj,gr,ba (show i<1000000000 by omega)]
  constructor
  · intro hc;rw [hb,ut hc];rfl
  · intro hc;rw [hb,rc (AC.1 hc)];rfl) (by
  unfold kV;have:aeN (((aeI l):Int)<((aeI l):Int))=aeM:=by simp
  simp only [this,pp];exact KG l (by omega))
 by_cases hp: ∀p∈l,eO p
 · rw [ut (AC.2 hp)]
   refine (key.2 fun i hi=>?_).trans ?_
   · exact AC.2 (hp _ (aX hi))
   by_cases hs:eX l
   · simp [hs]
   simp [hs]
 rw [rc hp]
 refine key.1 ?_;obtain ⟨p,hp⟩:=PP.1 hp;obtain ⟨hm,h2⟩:=ae6.1 hp;obtain ⟨i,hi,rfl⟩:=aQ.1 hm;exact ⟨i,hi,h2⟩
theorem eh {l:List Pt} (h:eX l) {i j:Nat} (kL:i<j) (hj:j<aeI l):(l[i]!).1<(l[j]!).1:=by
 induction j with
 |zero=>omega
 |succ j ih=>
  have h1:=h j hj
  by_cases he:i=j
  · subst he;exact h1
  have:=ih (by omega) (by omega);omega
theorem vL {l:List Pt} (h:eX l) {i j:Nat} (hi:i<aeI l) (hj:j<aeI l) (he:(l[i]!).1=(l[j]!).1):i=j:=by
 rcases Nat.lt_trichotomy i j with h1|h1|h1
 · have:=eh h h1 hj;omega
 · exact h1
 have:=eh h h1 hi;omega
theorem KH (l:List Pt) (id:Int) (hl:(aeI l)<=1000000):(∀k,k<aeI l->(l[k]!).1=id->(∀j,j<k->(l[j]!).1≠id)->nB ⟨l⟩ id=aeJ (k:Int))/\((∀k,k<aeI l->(l[k]!).1≠id)->nB ⟨l⟩ id=aeJ (-1)):=by
 unfold nB;refine iG (body:=pF) (fun i=>(id,(i:Int),l)) (aeI l) (fun i=>(l[i]!).1=id) (fun i=>(i:Int)) (fun i hi=>?_) ?_
 · have e1:aeN ((i:Int)<((aeI l):Int))=aeL:=by simp;omega
   have hb:pF (id,(i:Int),l)=bif (l[i]!).1==id then aeJ (.done (i:Int)) else aeJ (.next (id,((i+1:Nat):Int),l)):=by unfold pF;simp only [aA,e1,lw,au l i hi,aj,ba (show i<1000000000 by omega)]
   constructor
   · intro hc;rw [hb,eT hc];rfl
   intro hc;rw [hb,eu hc];rfl
 unfold pF
 have:aeN (((aeI l):Int)<((aeI l):Int))=aeM:=by simp
 simp only [aA,this,pp]
theorem PY {l:List Pt} (hs:eX l) (hl:(aeI l)<=1000000) {k:Nat} (hk:k<aeI l) {id:Int} (he:(l[k]!).1=id):nB ⟨l⟩ id=aeJ (k:Int):=by
 refine (KH l id hl).1 k hk he fun j hj hc=>?_
 have:=eh hs hj hk;omega
theorem KI (f:Nat->Int) (id:Int): ∀(n:Nat),(∀i j,i<j->j<n->f i<f j)-> ∃m,m<=n/\(∀i,i<m->f i<id)/\(∀i,m<=i->i<n->id<=f i)
 |0,_=>⟨0,aeg _,fun i h=>by omega,fun i _ h=>by omega⟩
 |n+1,h=>by
  obtain ⟨m,h1,h2,h3⟩:=KI f id n fun i j a b=>h i j a (by omega)
  by_cases hm:m=n
  · by_cases hf:f n<id
    · refine ⟨n+1,aeg _,fun i hi=>?_,fun i a b=>by omega⟩
      by_cases he:i=n
      · subst he;exact hf
      exact h2 i (by omega)
    refine ⟨n,by omega,fun i hi=>h2 i (by omega),fun i a b=>?_⟩
    have:i=n:=by omega
    subst this;omega
  refine ⟨m,by omega,h2,fun i a b=>?_⟩
  by_cases he:i=n
  · subst he
    have:=h m i (by omega) (by omega);have:=h3 m (aeg _) (by omega);omega
  exact h3 i a (by omega)
theorem iN {α:Type} [Inhabited α] {l:List α}:l.Nodup↔ ∀i j,i<j->j<aeI l->l[i]!≠l[j]!:=by
 unfold List.Nodup;rw [List.pairwise_iff_getElem];constructor
 · intro h i j kL hj
   rw [getElem!_pos l i (by omega),getElem!_pos l j hj];exact h i j (by omega) hj kL
 intro h i j hi hj kL
 have:=h i j kL hj
 rwa [getElem!_pos l i hi,getElem!_pos l j hj] at this
theorem cC {α:Type} [Inhabited α] {l:List α} {k:Nat} {x:α}:x∈l.take k↔ ∃i,i<k/\i<aeI l/\l[i]! =x:=by
 rw [aQ];constructor
 · rintro ⟨i,hi,rfl⟩
   rw [aav] at hi;exact ⟨i,by omega,by omega,(iu (by omega)).symm⟩
 rintro ⟨i,h1,h2,rfl⟩
 exact ⟨i,by rw [aav];omega,iu h1⟩
theorem fE {α:Type} [Inhabited α] {l:List α} {k:Nat} (h:k<aeI l):l.take (k+1)=l.take k++[l[k]!]:=by rw [List.take_add_one,ae7 h,getElem!_pos l k h];rfl
def marks (l:List Bool):List Int->List Bool
 | []=>l
 |x::r=>marks (bU l x aeL) r
theorem oA: ∀(r:List Int) (l:List Bool),(marks l r).length=aeI l
 | [],_=>rfl
 |x::r,l=>by rw [marks,oA r,xd]
theorem Fb: ∀(r:List Int) (l:List Bool) (x:Int),marks l (r++[x])=bU (marks l r) x aeL
 | [],_,_=>rfl
 |y::r,l,x=>by show marks (bU l y aeL) (r++[x])=_;rw [Fb r];rfl
theorem uz : ∀ (r : List Int) (l : List Bool) (i : Nat), (∀ x ∈ r, 0 <= x) -> i < (aeI l) -> (marks l r)[i]! = (l[i]! || aeN ((i : Int) ∈ r))
  | [], l, i, _, _ => by simp [marks]
  | x :: r, l, i, h, hi => by
    rw [marks, uz r _ i (fun y hy => h y (by simp [hy])) (by rw [xd]; exact hi)]
    obtain ⟨k, rfl⟩ := aaz (h x (by simp))
    rw [lW, aT]
    by_cases e : i = k
    · subst e; rw [rc ⟨rfl, hi⟩]; simp
    rw [ut (fun h => e h.1)]
    have : ((i : Int) ∈ (k : Int) :: r) ↔ (i : Int) ∈ r := by
      rw [aeF]
      constructor
      · rintro (h | h)
        · omega
        exact h
      exact .inr
    simp only [this]
theorem Fc (l:List Bool) (h:(aeI l)<=1000000):dO l aeM=aeJ (aeN (aeM∈l)):=by
 unfold dO nq;have key:=iG (body:=fY) (fun i=>(l,aeM,((aeI l):Int),(i:Int))) (aeI l) (fun i=>l[i]! =aeM) (fun i=>(i:Int)) (e:= -1) (fun i hi=>by
  have e1:aeN ((i:Int)<((aeI l):Int))=aeL:=by simp;omega
  have hb:fY (l,aeM,((aeI l):Int),(i:Int))=bif aeM==l[i]! then aeJ (.done (i:Int)) else aeJ (.next (l,aeM,((aeI l):Int),((i+1:Nat):Int))):=by unfold fY;simp only [e1,lw,au l i hi,aj,ba (show i<1000000000 by omega)]
  constructor
  · intro hc;rw [hb,hc];rfl
  · intro hc
    have:l[i]! =aeL:=by simpa using hc
    rw [hb,this];rfl) (by
  unfold fY;have:aeN (((aeI l):Int)<((aeI l):Int))=aeM:=by simp
  simp only [this,pp])
 rw [aA]
 by_cases hx:aeM∈l
 · obtain ⟨i,hi,he⟩:=aQ.1 hx
   obtain ⟨k,h1,h2,h3⟩:=least (c:=fun i=>l[i]! =aeM) ⟨i,hi,he⟩;have:=key.1 k h1 h2 h3;rw [show ((0:Nat):Int)=0 from rfl] at this;rw [this];have e:aeN ((0:Int)<=(k:Int))=aeL:=by simp
   simp [hx]
 have:=key.2 fun i hi he=>hx (aQ.2 ⟨i,hi,he⟩)
 rw [show ((0:Nat):Int)=0 from rfl] at this;rw [this];simp [hx]
structure fF (s:aS):Prop where
 n1:1<=aeI s.aD
 n2:(aeI s.aD)<=200
 ul:(aeI s.be)=aeI s.aD
 fr: ∀x∈s.bi,0<=x/\x<aeI s.aD
 fd:s.bi.Nodup
 uf: ∀i,i<aeI s.aD->(s.be[i]! =aeL↔(i:Int)∉s.bi)
 us: ∀i,i<aeI s.aD->0<=s.aD[i]!/\s.aD[i]!<=1000000/\(s.be[i]! =aeL->1<=s.aD[i]!)
theorem MX (aD:List Int) (be:List Bool) (fr:List Int) (h1:(aeI aD)<=200) (h2:(aeI be)=aeI aD):
 ar fV (aD,((aeI aD):Int),0,aD,be,fr)=aeJ (.done (if∀i,i<aeI aD->0<=aD[i]!/\aD[i]!<=1000000/\(be[i]! =aeL->1<=aD[i]!) then 0 else 8)):=by
 have key:=ff (body:=fV) (fun i=>(aD,((aeI aD):Int),(i:Int),aD,be,fr)) (aeI aD) (fun i=> ¬(0<=aD[i]!/\aD[i]!<=1000000/\(be[i]! =aeL->1<=aD[i]!))) (r:= .done 8) (e:= .done 0) (fun i hi=>by
  have e1:aeN ((i:Int)<((aeI aD):Int))=aeL:=by simp;omega
  have hb:fV (aD,((aeI aD):Int),(i:Int),aD,be,fr)=bif aeN (aD[i]!<0) then aeJ (.done (.done 8)) else bif aeN (1000000<aD[i]!) then aeJ (.done (.done 8)) else bif aD[i]! ==0 then (bif be[i]! then aeJ (.done (.done 8)) else aeJ (.next (aD,((aeI aD):Int),((i+1:Nat):Int),aD,be,fr))) else aeJ (.next (aD,((aeI aD):Int),((i+1:Nat):Int),aD,be,fr)):=by unfold fV;simp only [e1,lw,au aD i hi,au be i (by omega),aj,ba (show i<1000000000 by omega)]
  rw [hb];generalize aD[i]! =u at*
  by_cases a1:u<0
  · simp [a1];omega
  · by_cases a2:1000000<u
    · simp [a1,a2];omega
    by_cases a3:u=0
    · subst a3
      cases be[i]!<;>simp
    have a4:1<=u:=by omega
    have a5:0<=u:=by omega
    have a6:u<=1000000:=by omega
    simp [a1,a2,eu a3,a4,a5,a6]) (by
  unfold fV;have:aeN (((aeI aD):Int)<((aeI aD):Int))=aeM:=by simp
  simp only [this,pp])
 by_cases hc: ∀i,i<aeI aD->0<=aD[i]!/\aD[i]!<=1000000/\(be[i]! =aeL->1<=aD[i]!)
 · rw [rc hc]
   exact key.2 fun i hi=>AC.2 (hc i hi)
 rw [ut hc]
 simp only [PP] at hc;obtain ⟨i,hi,hx⟩:=hc;exact key.1 ⟨i,hi,by simpa only [PP] using hx⟩
theorem tu (s:aS) (hf:(aeI s.bi)<=1000000):om s=aeJ (if fF s then 0 else 8):=by
 obtain ⟨aD,be,fr⟩:=s;dsimp only at hf;unfold om;simp only [aA]
 by_cases a1:(aeI aD)<1
 · have e:aeN (((aeI aD):Int)<1)=aeL:=by simp;omega
   rw [e,ut (fun h=>by have:=h.n1;dsimp only at this;omega)];rfl
 have e1:aeN (((aeI aD):Int)<1)=aeM:=by simp;omega
 by_cases a2:200<aeI aD
 · have e:aeN (200<((aeI aD):Int))=aeL:=by simp;omega
   rw [e1,e,ut (fun h=>by have:=h.n2;dsimp only at this;omega)];rfl
 have e2:aeN (200<((aeI aD):Int))=aeM:=by simp;omega
 by_cases a3:(aeI be)=aeI aD
 case neg=>
  have e:(((aeI be):Int) !=((aeI aD):Int))=aeL:=by simp;omega
  rw [e1,e2,e,ut (fun h=>a3 h.ul)];rfl
 have e3:(((aeI be):Int) !=((aeI aD):Int))=aeM:=by simp;omega
 simp only [e1,e2,e3,pp,aW (show (aeI be)<=1048576 by omega),aj];have Oy:=MX aD be fr (by omega) a3;have key:=ff (body:=oR be) (fun k=>(fr,((aeI fr):Int),(k:Int),aD,be,fr,((aeI aD):Int),marks be (fr.take k))) (aeI fr)
  (fun k=>fr[k]!<0\/((aeI aD):Int)<=fr[k]!\/(marks be (fr.take k))[(fr[k]!).toNat]! =aeL) (r:=8)
  (e:=if aeM∈marks be fr then 8 else if∀i,i<aeI aD->0<=aD[i]!/\aD[i]!<=1000000/\(be[i]! =aeL->1<=aD[i]!) then 0 else 8) (fun k hk=>by
   have f1:aeN ((k:Int)<((aeI fr):Int))=aeL:=by simp;omega
   have f2:((marks be (fr.take k)).length==aeI be)=aeL:=by rw [oA];simp
   have f3:aeN ((0:Int)<=(k:Int))=aeL:=by simp
   have f4: ∀x:Int,((bU (marks be (fr.take k)) x aeL).length==(marks be (fr.take k)).length)=aeL:=by intro x;rw [xd];simp
   have f5:marks be (fr.take (k+1))=bU (marks be (fr.take k)) fr[k]! aeL:=by rw [fE hk,Fb]
   unfold oR;simp only [f1,f2,f3,f4,lw,beq_self_eq_true,au fr k hk,aj,ba (show k<1000000000 by omega),f5];clear f5;generalize fr[k]! =x
   by_cases b1:x<0
   · simp [b1]
   · by_cases b2:((aeI aD):Int)<=x
     · simp [b1,b2]
     simp only [b1,b2,decide_false,pp,false_or]
     rw [eG (l:=marks be (fr.take k)) (i:=x) (by omega) (by rw [oA];omega)];simp only [aj];cases (marks be (fr.take k))[x.toNat]!<;>simp) (by
   have f1:aeN (((aeI fr):Int)<((aeI fr):Int))=aeM:=by simp
   unfold oR;simp only [f1,pp,List.take_length];rw [Fc _ (by rw [oA];omega)];have f2:((marks be fr).length==aeI be)=aeL:=by rw [oA];simp
   simp only [f2,lw,aj,aA,Oy]
   by_cases hx:aeM∈marks be fr
   · simp [hx]
   simp [hx])
 have h0:marks be (fr.take 0)=be:=rfl;rw [show ((0:Nat):Int)=0 from rfl,h0] at key
 by_cases bad: ∃k,k<aeI fr/\(fr[k]!<0\/((aeI aD):Int)<=fr[k]!\/(marks be (fr.take k))[(fr[k]!).toNat]! =aeL)
 · rw [key.1 bad,ut]
   intro ok;obtain ⟨k,hk,hb⟩:=bad;have hr:=ok.fr fr[k]! (aX hk);dsimp only at hr;rcases hb with hb|hb|hb
   · omega
   · omega
   rw [uz _ _ _ (fun x hx=>(ok.fr x (aep hx)).1) (by omega)] at hb
   have hi:((fr[k]!).toNat:Int)=fr[k]!:=by omega
   rw [hi,Bool.or_eq_true] at hb;rcases hb with hb|hb
   · have:=(ok.uf (fr[k]!).toNat (by show _<aeI aD;omega)).1 hb
     rw [hi] at this;exact this (aX hk)
   have hm:fr[k]!∈fr.take k:=by simpa using hb
   obtain ⟨j,h1,h2,h3⟩:=cC.1 hm;exact iN.1 ok.fd j k h1 hk h3
 have ad7: ∀k,k<aeI fr->0<=fr[k]!/\fr[k]!<aeI aD/\(marks be (fr.take k))[(fr[k]!).toNat]! =aeM:=by
  intro k hk;refine ⟨?_,?_,?_⟩
  · exact Int.not_lt.1 fun h=>bad ⟨k,hk,.inl h⟩
  · exact Int.not_le.1 fun h=>bad ⟨k,hk,.inr (.inl h)⟩
  exact aew _▸fun h=>bad ⟨k,hk,.inr (.inr h)⟩
 rw [key.2 fun k hk hb=>bad ⟨k,hk,hb⟩];have S6: ∀x∈fr,0<=x/\x<((aeI aD):Int):=by intro x hx;obtain ⟨k,hk,rfl⟩:=aQ.1 hx;exact ⟨(ad7 k hk).1,(ad7 k hk).2.1⟩
 have g2: ∀k,k<aeI fr->be[(fr[k]!).toNat]! =aeM/\fr[k]!∉fr.take k:=by intro k hk;obtain ⟨c1,c2,c3⟩:=ad7 k hk;rw [uz _ _ _ (fun x hx=>(S6 x (aep hx)).1) (by omega),show ((fr[k]!).toNat:Int)=fr[k]! by omega,aeq] at c3;exact ⟨c3.1,by simpa using c3.2⟩
 have nd:fr.Nodup:=iN.2 fun i j kL hj he=>(g2 j hj).2 (cC.2 ⟨i,kL,by omega,he⟩)
 by_cases hx:aeM∈marks be fr
 · rw [rc hx,ut]
   intro ok;obtain ⟨i,hi,he⟩:=aQ.1 hx;rw [oA] at hi;rw [uz _ _ _ (fun x hx=>(S6 x hx).1) hi,aeq] at he;have h3:(i:Int)∉fr:=by simpa using he.2
   have:=(ok.uf i (by show _<aeI aD;omega)).2 h3;rw [show be[i]! =aeM from he.1] at this;cases this
 rw [ut hx]
 by_cases hu: ∀i,i<aeI aD->0<=aD[i]!/\aD[i]!<=1000000/\(be[i]! =aeL->1<=aD[i]!)
 · rw [rc hu,rc]
   refine ⟨by show 1<=aeI aD;omega,by show (aeI aD)<=200;omega,a3,S6,nd,fun i hi=>?_,hu⟩;dsimp only at hi ⊢;constructor
   · intro h1 h2
     obtain ⟨k,hk,he⟩:=aQ.1 h2;have:=(g2 k hk).1;rw [he,show ((i:Int)).toNat=i by omega,h1] at this;cases this
   intro h1
   refine NE fun h2=>hx ?_
   refine aQ.2 ⟨i,by rw [oA];omega,?_⟩;rw [uz _ _ _ (fun x hx=>(S6 x hx).1) (by omega)];have:be[i]! =aeM:=by simpa using h2
   rw [this];simpa using h1
 rw [ut hu,ut]
 intro ok;exact hu ok.us
theorem fF.fl {s:aS} (ok:fF s):(aeI s.bi)<=(aeI s.aD):=by
 have h:=MW (aeI s.aD) (s.bi.map aeG) (by
  rw [iN];intro i j kL hj he;rw [aaS] at hj;have e: ∀k,k<aeI s.bi->(s.bi.map aeG)[k]! =(s.bi[k]!).toNat:=by intro k hk;rw [getElem!_pos _ k (by simpa using hk),List.getElem_map,getElem!_pos s.bi k hk]
  rw [e i (by omega),e j hj] at he;have h1:=(ok.fr _ (aX (show i<(aeI s.bi) by omega))).1;have h2:=(ok.fr _ (aX hj)).1;exact iN.1 ok.fd i j kL hj (by omega)) (by
  intro x hx;obtain ⟨y,hy,rfl⟩:=aau.1 hx;have:=ok.fr y hy;omega)
 rwa [aaS] at h
def Ha (s:aS) (h:Int×Int):Prop:=0<=h.1/\h.1<aeI s.aD/\s.be[h.1.toNat]! =aeL/\s.aD[h.1.toNat]! =h.2
def eY (s:aS) (h:Int×Int):aS:=⟨s.aD,s.be.set h.1.toNat aeM,s.bi++[h.1]⟩
def cM (s:aS):Nat:=(s.bi[aeI s.bi-1]!).toNat
def uA (s:aS):Prop:=0<aeI s.bi/\s.aD[cM s]!<1000000
def fP (s:aS):aS:=⟨s.aD.set (cM s) (s.aD[cM s]!+1),s.be.set (cM s) aeL,s.bi.take (aeI s.bi-1)⟩
def jM (s:aS):Int×Int:=((cM s:Int),s.aD[cM s]!+1)
theorem CX {s:aS} (ok:fF s) (h:Int×Int):xu s h=aeJ (aeN (Ha s h),0):=by
 have hl:=ok.fl;have hn:=ok.n2;have hu:=ok.ul;unfold xu Ha;rw [tu s (by omega),rc ok];simp only [aj,show ((0:Int) !=0)=aeM from rfl,pp,aA]
 by_cases a1:0<=h.1
 · by_cases a2:h.1<aeI s.aD
   · have e2:aeN (h.1<((aeI s.be):Int))=aeL:=by simp;omega
     simp only [a1,a2,e2,decide_true,lw,eG (l:=s.be) a1 (by omega),eG (l:=s.aD) a1 a2,aj,true_and];generalize s.aD[h.1.toNat]! =u;cases s.be[h.1.toNat]!<;>simp [YB]
   have e2:aeN (h.1<((aeI s.be):Int))=aeM:=by simp;omega
   simp [a1,a2,e2]
 simp [a1]
theorem IJ {s:aS} (ok:fF s) {h:Int×Int} (lv:Ha s h):yt s h=aeJ (eY s h,0):=by
 have hl:=ok.fl;have hn:=ok.n2;have hu:=ok.ul;unfold yt;rw [CX ok,decide_eq_true lv];unfold pV;obtain ⟨l1,l2,l3,l4⟩:=lv;have e1:bU s.be h.1 aeM=s.be.set h.1.toNat aeM:=rfl;simp only [aj,show ((0:Int) !=0)=aeM from rfl,pp,M2,aW (show (aeI s.aD)<=1048576 by omega),aW (show (aeI s.be)<=1048576 by omega),aW (show (aeI s.bi)<=1048576 by omega),
  cZ (show (aeI s.bi)+[h.1].length<=1048576 by simp;omega),eG (l:=s.be) l1 (by omega),e1,eY]
theorem tz {s:aS} (ok:fF s):qX s=aeJ s:=by have hl:=ok.fl;have hn:=ok.n2;have hu:=ok.ul;unfold qX;simp only [aj,aW (show (aeI s.aD)<=1048576 by omega),aW (show (aeI s.be)<=1048576 by omega),aW (show (aeI s.bi)<=1048576 by omega)]
theorem Fe {s:aS} (ok:fF s) {h:Int×Int} (lv:Ha s h):pH s h=aeJ (eY s h):=by have hl:=ok.fl;have hn:=ok.n2;have hu:=ok.ul;obtain ⟨l1,l2,l3,l4⟩:=lv;unfold pH;rw [tz ok];have e1:bU s.be h.1 aeM=s.be.set h.1.toNat aeM:=rfl;simp only [aj,cZ (show (aeI s.bi)+[h.1].length<=1048576 by simp;omega),eG (l:=s.be) l1 (by omega),e1,eY]
theorem S7 {s:aS} (ok:fF s) {h:Int×Int} (lv:Ha s h):fF (eY s h):=by
 have hl:=ok.fl;have hn:=ok.n2;have hu:=ok.ul;obtain ⟨l1,l2,l3,l4⟩:=lv;have nf:h.1∉s.bi:=by
  have:=(ok.uf h.1.toNat (by omega)).1 l3
  rwa [show (h.1.toNat:Int)=h.1 by omega] at this
 refine ⟨ok.n1,ok.n2,?_,?_,?_,?_,?_⟩
 · show (s.be.set _ _).length=_;rw [v6];exact hu
 · intro x hx
   rcases aeb.1 hx with hx|hx
   · exact ok.fr x hx
   rw [ad2] at hx;subst hx;exact ⟨l1,l2⟩
 · show (s.bi++[h.1]).Nodup
   rw [List.nodup_append];refine ⟨ok.fd,by simp,?_⟩;intro x hx y hy he;rw [ad2] at hy;subst hy;subst he;exact nf hx
 · intro i hi
   change i<(aeI s.aD) at hi;show (s.be.set h.1.toNat aeM)[i]! =aeL↔(i:Int)∉s.bi++[h.1];rw [aT,aeb,ad2]
   by_cases e:i=h.1.toNat
   · rw [rc ⟨e,by omega⟩]
     have:(i:Int)=h.1:=by omega
     simp [this]
   rw [ut (fun k=>e k.1),ok.uf i hi]
   have: ¬(i:Int)=h.1:=by omega
   simp [this]
 intro i hi
 change i<(aeI s.aD) at hi;obtain ⟨u1,u2,u3⟩:=ok.us i hi;refine ⟨u1,u2,?_⟩;show (s.be.set h.1.toNat aeM)[i]! =aeL->_;rw [aT];split
 · intro h;cases h
 exact u3
theorem vM {s:aS} (ok:fF s) (h:0<aeI s.bi):cM s<aeI s.aD/\(cM s:Int)=s.bi[aeI s.bi-1]!/\(cM s:Int)∈s.bi:=by
 have hm:=aX (l:=s.bi) (i:=aeI s.bi-1) (by omega);have:=ok.fr _ hm;have e:(cM s:Int)=s.bi[aeI s.bi-1]!:=by unfold cM;omega
 refine ⟨by omega,e,by rw [e];exact hm⟩
theorem js {α:Type} (l:List α) (n:Nat) (h:n<=aeI l):fL l 0 (n:Int)=aeJ (l.take n):=by unfold fL;rw [rc ⟨by omega,by omega,by omega⟩];simp
theorem Bb {s:aS} (ok:fF s):yv s=aeJ (if uA s then (fP s,jM s,0) else (⟨[],[],[]⟩,(0,0),18)):=by
 have hl:=ok.fl;have hn:=ok.n2;have hu:=ok.ul;unfold yv uA;rw [tu s (by omega),rc ok];simp only [aj,show ((0:Int) !=0)=aeM from rfl,pp,aA]
 by_cases a1:0<aeI s.bi
 · obtain ⟨n1,n2,n3⟩:=vM ok a1
   have e1:(((aeI s.bi):Int)==0)=aeM:=eu (by omega);have e2:aa .i64 (((aeI s.bi):Int) -1)=((aeI s.bi-1:Nat):Int):=nI (by omega) (by omega);unfold qV;simp only [e1,pp,aA,e2,js s.bi (aeI s.bi-1) (by omega),aj,aW (show (s.bi.take (aeI s.bi-1)).length<=1048576 by rw [aav];omega),
    au s.bi (aeI s.bi-1) (by omega),<- n2,au s.aD (cM s) n1]
   obtain ⟨u1,u2,u3⟩:=ok.us (cM s) n1
   by_cases a2:s.aD[cM s]! =1000000
   · have e3:(s.aD[cM s]! ==1000000)=aeL:=by simpa using a2
     rw [e3,ut (by omega)];rfl
   have e3:(s.aD[cM s]! ==1000000)=aeM:=by simpa using a2
   have e4:aa .i64 (s.aD[cM s]!+1)=s.aD[cM s]!+1:=by rw [wi];omega
   rw [e3,rc (by omega)];simp only [pp,aW (show (aeI s.aD)<=1048576 by omega),aW (show (aeI s.be)<=1048576 by omega),aj,au s.be (cM s) (by omega),au s.aD (cM s) n1,e4,lW,
    au (s.aD.set (cM s) (s.aD[cM s]!+1)) (cM s) (by rw [v6];exact n1),aT,n1,and_self,if_true,fP,jM]
 have e1:(((aeI s.bi):Int)==0)=aeL:=eT (by omega)
 rw [e1,ut (fun h=>a1 h.1)];rfl
theorem oV {s:aS} (ok:fF s):gq s=aeJ (aeN (uA s)):=by
 have hl:=ok.fl;have hn:=ok.n2;have hu:=ok.ul;unfold gq uA;simp only [aA]
 by_cases a1:0<aeI s.bi
 · obtain ⟨n1,n2,n3⟩:=vM ok a1
   have e1:aeN ((0:Int)<((aeI s.bi):Int))=aeL:=by simp;omega
   have e2:aa .i64 (((aeI s.bi):Int) -1)=((aeI s.bi-1:Nat):Int):=nI (by omega) (by omega);simp only [e1,e2,lw,au s.bi (aeI s.bi-1) (by omega),aj,<- n2,au s.aD (cM s) n1,a1,true_and]
 have e1:aeN ((0:Int)<((aeI s.bi):Int))=aeM:=decide_eq_false (by omega)
 rw [e1];simp [a1]
theorem Ff {s:aS} (ok:fF s) (h:uA s):xA s=aeJ (fP s,jM s):=by
 have hl:=ok.fl;have hn:=ok.n2;have hu:=ok.ul;obtain ⟨a1,a2⟩:=h;obtain ⟨n1,n2,n3⟩:=vM ok a1;obtain ⟨u1,u2,u3⟩:=ok.us (cM s) n1;unfold xA;rw [tz ok];have e2:aa .i64 (((aeI s.bi):Int) -1)=((aeI s.bi-1:Nat):Int):=nI (by omega) (by omega);have e4:aa .i64 (s.aD[cM s]!+1)=s.aD[cM s]!+1:=by rw [wi];omega
 simp only [aj,aA,e2,au s.bi (aeI s.bi-1) (by omega),js s.bi (aeI s.bi-1) (by omega),<- n2,au s.aD (cM s) n1,au s.be (cM s) (by omega),e4,lW,
  au (s.aD.set (cM s) (s.aD[cM s]!+1)) (cM s) (by rw [v6];exact n1),aT,n1,and_self,if_true,fP,jM,Int.toNat_natCast]
theorem S8 {s:aS} (ok:fF s) (h:uA s):fF (fP s):=by
 have hl:=ok.fl;have hn:=ok.n2;have hu:=ok.ul;obtain ⟨a1,a2⟩:=h;obtain ⟨n1,n2,n3⟩:=vM ok a1;have mt: ∀x:Int,x∈s.bi.take (aeI s.bi-1)↔(x∈s.bi/\x≠(cM s:Int)):=by
  intro x;rw [cC];constructor
  · rintro ⟨i,h1,h2,rfl⟩
    refine ⟨aX h2,?_⟩;rw [n2];exact iN.1 ok.fd i (aeI s.bi-1) h1 (by omega)
  rintro ⟨h1,h2⟩
  obtain ⟨i,hi,rfl⟩:=aQ.1 h1;refine ⟨i,?_,hi,rfl⟩;refine NE fun hc=>h2 ?_
  rw [n2,show i=aeI s.bi-1 by omega]
 refine ⟨?_,?_,?_,?_,?_,?_,?_⟩
 · show 1<=(s.aD.set _ _).length;rw [v6];exact ok.n1
 · show (s.aD.set _ _).length<=200;rw [v6];exact ok.n2
 · show (s.be.set _ _).length=(s.aD.set _ _).length;rw [v6,v6];exact hu
 · intro x hx
   show 0<=x/\x<((s.aD.set _ _).length:Int);rw [v6];exact ok.fr x ((mt x).1 hx).1
 · exact ok.fd.sublist (List.take_sublist _ _)
 · intro i hi
   change i<(s.aD.set _ _).length at hi;rw [v6] at hi;show (s.be.set (cM s) aeL)[i]! =aeL↔(i:Int)∉s.bi.take (aeI s.bi-1);rw [aT,mt]
   by_cases e:i=cM s
   · rw [rc ⟨e,by omega⟩]
     simp [e]
   rw [ut (fun k=>e k.1),ok.uf i hi]
   have:(i:Int)≠(cM s:Int):=by omega
   simp [this]
 intro i hi
 change i<(s.aD.set _ _).length at hi;rw [v6] at hi;obtain ⟨u1,u2,u3⟩:=ok.us i hi;show 0<=(s.aD.set (cM s) (s.aD[cM s]!+1))[i]!/\(s.aD.set (cM s) (s.aD[cM s]!+1))[i]!<=1000000/\((s.be.set (cM s) aeL)[i]! =aeL->1<=(s.aD.set (cM s) (s.aD[cM s]!+1))[i]!);rw [aT,aT]
 by_cases e:i=cM s
 · subst e
   rw [rc ⟨rfl,n1⟩];refine ⟨by omega,by omega,fun _=>by omega⟩
 rw [ut (fun k=>e k.1),ut (fun k=>e k.1)]
 exact ⟨u1,u2,u3⟩
abbrev Ev:=Int×Int×Int×Int×Int
abbrev Ev.at (x:Ev):Int×Int:=(x.1,x.2.1)
abbrev Ev.num (x:Ev):Int:=x.2.2.1
abbrev Ev.ix (x:Ev):Int:=x.2.2.2.1
abbrev Ev.n (x:Ev):Nat:=x.2.2.2.1.toNat
theorem aho {x:Ev} {k:Nat} (h:x.ix<(k:Int)) (h0:0<=x.ix):x.n<k:=by show x.ix.toNat<k;omega
theorem ahp {x y:Ev} (h0:0<=x.ix) (h1:0<=y.ix) (h:x.ix≠y.ix):x.n≠y.n:=by
 show x.ix.toNat≠y.ix.toNat
 omega
def less (x y:Ev):Prop:=vK (x.1,x.2.1) (y.1,y.2.1)<0\/(vK (x.1,x.2.1) (y.1,y.2.1)=0/\x.2.2.1<y.2.2.1)
theorem IK {a b:Int×Int}:vK a b<0↔a.1*b.2<b.1*a.2:=by unfold vK;rcases eW (a.1*b.2) (b.1*a.2) with ⟨h,e⟩|⟨h,e⟩|⟨h,e⟩<;>rw [e]<;>constructor<;>intro<;>omega
theorem Oz {a b:Int×Int}:vK a b=0↔a.1*b.2=b.1*a.2:=by unfold vK;rcases eW (a.1*b.2) (b.1*a.2) with ⟨h,e⟩|⟨h,e⟩|⟨h,e⟩<;>rw [e]<;>constructor<;>intro<;>omega
theorem oB {x y:Ev} (h:less x y): ¬less y x:=by unfold less at*;rw [IK,Oz] at*;dsimp only at*;rintro (k|k)<;>rcases h with h|h<;>omega
theorem Fg {a1 a2 b1 b2 c1 c2:Int} (ha:1<=a2) (hb:1<=b2) (hc:1<=c2) (h1:a1*b2<=b1*a2) (h2:b1*c2<=c1*b2):a1*c2<=c1*a2:=by
 have e1:a1*b2*c2<=b1*a2*c2:=WF h1 (by omega);have e2:b1*c2*a2<=c1*b2*a2:=WF h2 (by omega);have e3:(a1*c2)*b2<=(c1*a2)*b2:=by
  have r1:(a1*c2)*b2=a1*b2*c2:=by grind
  have r2:b1*a2*c2=b1*c2*a2:=by grind
  have r3:c1*b2*a2=(c1*a2)*b2:=by grind
  omega
 exact Int.le_of_mul_le_mul_right e3 (by omega)
theorem Gi {a1 a2 b1 b2 c1 c2:Int} (ha:1<=a2) (hb:1<=b2) (hc:1<=c2) (h1:a1*b2<b1*a2) (h2:b1*c2<=c1*b2):a1*c2<c1*a2:=by
 have e1:a1*b2*c2<b1*a2*c2:=ac1 h1 (by omega);have e2:b1*c2*a2<=c1*b2*a2:=WF h2 (by omega);have e3:(a1*c2)*b2<(c1*a2)*b2:=by
  have r1:(a1*c2)*b2=a1*b2*c2:=by grind
  have r2:b1*a2*c2=b1*c2*a2:=by grind
  have r3:c1*b2*a2=(c1*a2)*b2:=by grind
  omega
 exact ad8 e3 (by omega)
theorem Fh {a1 a2 b1 b2 c1 c2:Int} (ha:1<=a2) (hb:1<=b2) (hc:1<=c2) (h1:a1*b2<=b1*a2) (h2:b1*c2<c1*b2):a1*c2<c1*a2:=by
 have e1:a1*b2*c2<=b1*a2*c2:=WF h1 (by omega);have e2:b1*c2*a2<c1*b2*a2:=ac1 h2 (by omega);have e3:(a1*c2)*b2<(c1*a2)*b2:=by
  have r1:(a1*c2)*b2=a1*b2*c2:=by grind
  have r2:b1*a2*c2=b1*c2*a2:=by grind
  have r3:c1*b2*a2=(c1*a2)*b2:=by grind
  omega
 exact ad8 e3 (by omega)
theorem yC {x y z:Ev} (hx:1<=x.2.1) (hy:1<=y.2.1) (hz:1<=z.2.1) (h1: ¬less y x) (h2: ¬less z y): ¬less z x:=by
 unfold less at*;rw [IK,Oz] at*;dsimp only at*;have t1:= @Fg x.1 x.2.1 y.1 y.2.1 z.1 z.2.1 hx hy hz;have t2:= @Gi x.1 x.2.1 y.1 y.2.1 z.1 z.2.1 hx hy hz;have t3:= @Fh x.1 x.2.1 y.1 y.2.1 z.1 z.2.1 hx hy hz;generalize x.1*y.2.1=p at*;generalize y.1*x.2.1=q at*;generalize y.1*z.2.1=r at*;generalize z.1*y.2.1=s at*;generalize x.1*z.2.1=u at*;generalize z.1*x.2.1=v at*;have a1:p<=q:=by omega
 have a2:r<=s:=by omega
 have a3:=t1 a1 a2;rintro (k|k)
 · omega
 by_cases b1:p<q
 · have:=t2 b1 a2;omega
 by_cases b2:r<s
 · have:=t3 a1 b2;omega
 omega
structure zZ (n:Nat) (x:Ev) (M:Ev->Prop) (H:List Ev) (W:List Int) (i:Nat):Prop where
 lt:i<n
 hn:n<=aeI H
 ix: ∀w,w<n->w≠i->0<=(H[w]!).ix/\(H[w]!).ix<aeI W/\W[(H[w]!).n]! =(w:Int)/\(H[w]!).ix≠x.ix
 x0:0<=x.ix
 x1:x.ix<aeI W
 mem: ∀e,(∃w,w<n/\w≠i/\H[w]! =e)↔M e
theorem zZ.move {n:Nat} {x:Ev} {M:Ev->Prop} {H:List Ev} {W:List Int} {i j:Nat} (h:zZ n x M H W i) (hj:j<n) (kL:j≠i):zZ n x M (H.set i H[j]!) (W.set (H[j]!).n (i:Int)) j:=by
 have hn:=h.hn;have hi:=h.lt;obtain ⟨j1,j2,j3,j4⟩:=h.ix j hj kL;have cell: ∀w,(H.set i H[j]!)[w]! =if w=i then H[j]! else H[w]!:=by
  intro w;rw [aT]
  by_cases e:w=i
  · rw [rc ⟨e,by omega⟩,rc e]
  rw [ut (fun k=>e k.1),ut e]
 refine ⟨hj,by rw [v6];exact hn,?_,h.x0,by rw [v6];exact h.x1,?_⟩
 · intro w hw hwj
   rw [cell,v6]
   by_cases e:w=i
   · rw [rc e,aT,rc ⟨rfl,aho j2 j1⟩]
     exact ⟨j1,j2,by rw [e],j4⟩
   rw [ut e,aT]
   obtain ⟨k1,k2,k3,k4⟩:=h.ix w hw e;refine ⟨k1,k2,?_,k4⟩;rw [ut,k3];rintro ⟨c,_⟩;rw [c,j3] at k3;omega
 intro e
 rw [<- h.mem e];constructor
 · rintro ⟨w,hw,hwj,he⟩
   rw [cell] at he
   by_cases c:w=i
   · rw [rc c] at he;exact ⟨j,hj,kL,he⟩
   rw [ut c] at he;exact ⟨w,hw,c,he⟩
 rintro ⟨w,hw,IL,he⟩
 by_cases c:w=j
 · refine ⟨i,hi,fun h=>kL h.symm,?_⟩
   rw [cell,rc rfl,<- c];exact he
 exact ⟨w,hw,c,by rw [cell,ut IL];exact he⟩
theorem zZ.fill {n:Nat} {x:Ev} {M:Ev->Prop} {H:List Ev} {W:List Int} {i:Nat} (h:zZ n x M H W i):
 (∀w,w<n->0<=((H.set i x)[w]!).ix/\((H.set i x)[w]!).ix<aeI W/\(W.set x.n (i:Int))[((H.set i x)[w]!).n]! =(w:Int))/\
  (∀e,(∃w,w<n/\(H.set i x)[w]! =e)↔(e=x\/M e)):=by
 have hn:=h.hn;have hi:=h.lt;have x0:=h.x0;have x1:=h.x1;have cell: ∀w,(H.set i x)[w]! =if w=i then x else H[w]!:=by
  intro w;rw [aT]
  by_cases e:w=i
  · rw [rc ⟨e,by omega⟩,rc e]
  rw [ut (fun k=>e k.1),ut e]
 constructor
 · intro w hw
   rw [cell]
   by_cases e:w=i
   · rw [rc e,aT,rc ⟨rfl,aho x1 x0⟩]
     exact ⟨x0,x1,by rw [e]⟩
   rw [ut e,aT]
   obtain ⟨k1,k2,k3,k4⟩:=h.ix w hw e;exact ⟨k1,k2,by rw [ut (fun c=>ahp k1 x0 k4 c.1),k3]⟩
 intro e
 rw [<- h.mem e];constructor
 · rintro ⟨w,hw,he⟩
   rw [cell] at he
   by_cases c:w=i
   · rw [rc c] at he;exact .inl he.symm
   rw [ut c] at he;exact .inr ⟨w,hw,c,he⟩
 rintro (he|⟨w,hw,IL,he⟩)
 · exact ⟨i,hi,by rw [cell,rc rfl,he]⟩
 exact ⟨w,hw,by rw [cell,ut IL];exact he⟩
noncomputable def ie (x:Ev):Nat->List Ev->List Int->Nat×List Ev×List Int
 |0,H,W=>(0,H,W)
 |i+1,H,W=>if less x H[i / 2]! then ie x (i / 2) (H.set (i+1) H[i / 2]!) (W.set (H[i / 2]!).n ((i+1:Nat):Int)) else (i+1,H,W)
termination_by i=>i
decreasing_by omega
noncomputable def gu (n:Nat) (H:List Ev) (i:Nat):Nat:=if 2*i+2<n/\less H[2*i+2]! H[2*i+1]! then 2*i+2 else 2*i+1
theorem mN (n:Nat) (H:List Ev) (i:Nat):gu n H i=2*i+1\/(gu n H i=2*i+2/\2*i+2<n):=by
 unfold gu;split
 · rename_i h;exact .inr ⟨rfl,h.1⟩
 exact .inl rfl
noncomputable def dC (n:Nat) (x:Ev) (i:Nat) (H:List Ev) (W:List Int):Nat×List Ev×List Int:=
 if _h:2*i+1<n then
  if less H[gu n H i]! x then dC n x (gu n H i) (H.set i H[gu n H i]!) (W.set (H[gu n H i]!).n (i:Int)) else (i,H,W)
 else (i,H,W)
termination_by n-i
decreasing_by
 rcases mN n H i with h|h<;>omega
structure Ord (n:Nat) (H:List Ev) (i:Nat):Prop where
 den: ∀w,w<n->1<=(H[w]!).2.1
 ord: ∀k,0<k->k<n->k≠i->(k-1) / 2≠i-> ¬less H[k]! H[(k-1) / 2]!
 KJ:0<i-> ∀k,0<k->k<n->(k-1) / 2=i-> ¬less H[k]! H[(i-1) / 2]!
theorem Dy {n : Nat} {x : Ev} {M : Ev -> Prop} (dx : 1 <= x.2.1) : ∀ (i : Nat) (H : List Ev) (W : List Int), zZ n x M H W i -> Ord n H i ->
    ∃ j H1 W1, ie x i H W = (j, H1, W1) /\ zZ n x M H1 W1 j /\ Ord n H1 j /\ (aeI H1) = (aeI H) /\ (aeI W1) = (aeI W) /\ (0 < j -> ¬ less x H1[(j - 1) / 2]!) /\
      (∀ k, n <= k -> H1[k]! = H[k]!) /\ (∀ k, (∀ w, w < n -> w ≠ i -> (H[w]!).n ≠ k) -> W1[k]! = W[k]!) /\
      ((∀ k, 0 < k -> k < n -> (k - 1) / 2 = i -> ¬ less H[k]! x) -> ∀ k, 0 < k -> k < n -> (k - 1) / 2 = j -> ¬ less H1[k]! x)
  | 0, H, W, h, o => ⟨0, H, W, by rw [ie], h, o, rfl, rfl, fun h => by omega, fun _ _ => rfl, fun _ _ => rfl, fun h => h⟩
  | i + 1, H, W, h, o => by
    rw [ie]
    by_cases hl : less x H[i / 2]!
    · rw [rc hl]
      have hi := h.lt
      have hn := h.hn
      have hp : i / 2 < n := by omega
      have dK : i / 2 ≠ i + 1 := by omega
      have hm := h.move hp dK
      have cell : ∀ w, (H.set (i + 1) H[i / 2]!)[w]! = if w = i + 1 then H[i / 2]! else H[w]! := by
        intro w
        rw [aT]
        by_cases e : w = i + 1
        · rw [rc ⟨e, by omega⟩, rc e]
        rw [ut (fun k => e k.1), ut e]
      have o' : Ord n (H.set (i + 1) H[i / 2]!) (i / 2) := by
        refine ⟨?_, ?_, ?_⟩
        · intro w hw
          rw [cell]
          split
          · exact o.den _ hp
          exact o.den _ hw
        · intro k k0 kn k1 k2
          rw [cell, cell]
          by_cases e : k = i + 1
          · subst e; exact absurd (by omega) k2
          rw [ut e]
          by_cases e2 : (k - 1) / 2 = i + 1
          · rw [rc e2]
            have := o.KJ (by omega) k k0 kn e2
            rwa [show (i + 1 - 1) / 2 = i / 2 by omega] at this
          rw [ut e2]
          exact o.ord k k0 kn e e2
        intro p0 k k0 kn k1
        rw [cell, cell, ut (show (i / 2 - 1) / 2 ≠ i + 1 by omega)]
        have up1 : ¬ less H[i / 2]! H[(i / 2 - 1) / 2]! := o.ord (i / 2) p0 hp dK (by omega)
        by_cases e : k = i + 1
        · rw [rc e]; exact up1
        rw [ut e]
        have up2 : ¬ less H[k]! H[i / 2]! := by
          have := o.ord k k0 kn e (by omega)
          rwa [k1] at this
        exact yC (o.den _ (by omega)) (o.den _ hp) (o.den _ kn) up1 up2
      obtain ⟨j, H1, W1, e1, e3, e4, e5, e6, e7, e8, e9, e10⟩ := Dy dx (i / 2) _ _ hm o'
      rw [v6] at e5 e6
      refine ⟨j, H1, W1, e1, e3, e4, e5, e6, e7, ?_, ?_, ?_⟩
      · intro k hk
        rw [e8 k hk, cell, ut (by omega)]
      · intro k hk
        rw [e9 k ?_, aT, ut (fun c => hk (i / 2) hp dK c.1.symm)]
        intro w hw Iv
        rw [cell]
        split
        · exact hk (i / 2) hp dK
        rename_i e; exact hk w hw e
      intro _
      refine e10 fun k k0 kn k1 => ?_
      rw [cell]
      by_cases e : k = i + 1
      · rw [rc e]; exact oB hl
      rw [ut e]
      have up2 : ¬ less H[k]! H[i / 2]! := by
        have := o.ord k k0 kn e (by omega)
        rwa [k1] at this
      exact yC dx (o.den _ hp) (o.den _ kn) (oB hl) up2
    rw [ut hl]
    refine ⟨i + 1, H, W, rfl, h, o, rfl, rfl, fun _ => ?_, fun _ _ => rfl, fun _ _ => rfl, fun h => h⟩
    rwa [show (i + 1 - 1) / 2 = i / 2 by omega]
termination_by i=>i
decreasing_by omega
theorem PZ {n:Nat} {x:Ev} {i:Nat} {H:List Ev} {W:List Int} (h: ∀k,0<k->k<n->(k-1) / 2=i-> ¬less H[k]! x):dC n x i H W=(i,H,W):=by
 rw [dC];split
 · rename_i hk
   rw [ut];rcases mN n H i with e|⟨e,e2⟩
   · rw [e];exact h _ (by omega) hk (by omega)
   rw [e];exact h _ (by omega) e2 (by omega)
 rfl
theorem Hb {n : Nat} {x : Ev} {M : Ev -> Prop} (dx : 1 <= x.2.1) : ∀ (d i : Nat) (H : List Ev) (W : List Int), n - i <= d -> zZ n x M H W i -> Ord n H i -> (0 < i -> ¬ less x H[(i - 1) / 2]!) ->
    ∃ j H1 W1, dC n x i H W = (j, H1, W1) /\ zZ n x M H1 W1 j /\ Ord n H1 j /\ (aeI H1) = (aeI H) /\ (aeI W1) = (aeI W) /\ (0 < j -> ¬ less x H1[(j - 1) / 2]!) /\
      (∀ k, n <= k -> H1[k]! = H[k]!) /\ (∀ k, (∀ w, w < n -> w ≠ i -> (H[w]!).n ≠ k) -> W1[k]! = W[k]!) /\ (∀ k, 0 < k -> k < n -> (k - 1) / 2 = j -> ¬ less H1[k]! x)
  | 0, i, H, W, hd, h, o, u => by have := h.lt; omega
  | d + 1, i, H, W, hd, h, o, u => by
    have hi := h.lt
    have hn := h.hn
    rw [dC]
    by_cases hk : 2 * i + 1 < n
    · rw [dif_pos hk]
      have kc := mN n H i
      have kn : gu n H i < n := by omega
      have kne : gu n H i ≠ i := by omega
      have kp : (gu n H i - 1) / 2 = i := by omega
      have kb : ∀ k, 0 < k -> k < n -> (k - 1) / 2 = i -> ¬ less H[k]! H[gu n H i]! := by
        intro k k0 k1 k2
        have kk : k = 2 * i + 1 \/ k = 2 * i + 2 := by omega
        unfold gu
        split
        · rename_i hc
          rcases kk with e | e
          · rw [e]; exact oB hc.2
          rw [e]; exact fun h => oB h h
        rename_i hc
        rcases kk with e | e
        · rw [e]; exact fun h => oB h h
        rw [e] at k1 ⊢; exact fun h => hc ⟨k1, h⟩
      by_cases hl : less H[gu n H i]! x
      · rw [rc hl]
        have hm := h.move kn kne
        have cell : ∀ w, (H.set i H[gu n H i]!)[w]! = if w = i then H[gu n H i]! else H[w]! := by
          intro w
          rw [aT]
          by_cases e : w = i
          · rw [rc ⟨e, by omega⟩, rc e]
          rw [ut (fun k => e k.1), ut e]
        have o' : Ord n (H.set i H[gu n H i]!) (gu n H i) := by
          refine ⟨?_, ?_, ?_⟩
          · intro w hw
            rw [cell]
            split
            · exact o.den _ kn
            exact o.den _ hw
          · intro k k0 k1 k2 k3
            rw [cell, cell]
            by_cases e : k = i
            · rw [rc e, ut (by omega)]
              have := o.KJ (by omega) (gu n H i) (by omega) kn kp
              rwa [e]
            rw [ut e]
            by_cases e2 : (k - 1) / 2 = i
            · rw [rc e2]; exact kb k k0 k1 e2
            rw [ut e2]; exact o.ord k k0 k1 e e2
          intro _ k k0 k1 k2
          rw [cell, cell, rc kp, ut (by omega)]
          have := o.ord k k0 k1 (by omega) (by omega)
          rwa [k2] at this
        obtain ⟨j, H1, W1, e1, e3, e4, e5, e6, e7, e8, e9, e10⟩ := Hb dx d (gu n H i) _ _ (by omega) hm o' (by
          intro _
          rw [cell, rc kp]
          exact oB hl)
        rw [v6] at e5 e6
        refine ⟨j, H1, W1, e1, e3, e4, e5, e6, e7, ?_, ?_, e10⟩
        · intro k hk
          rw [e8 k hk, cell, ut (by omega)]
        intro k hk
        rw [e9 k ?_, aT, ut (fun c => hk (gu n H i) kn kne c.1.symm)]
        intro w hw Iv
        rw [cell]
        split
        · exact hk (gu n H i) kn kne
        rename_i e; exact hk w hw e
      rw [ut hl]
      refine ⟨i, H, W, rfl, h, o, rfl, rfl, u, fun _ _ => rfl, fun _ _ => rfl, ?_⟩
      intro k k0 k1 k2
      exact yC dx (o.den _ kn) (o.den _ k1) hl (kb k k0 k1 k2)
    rw [dif_neg hk]
    refine ⟨i, H, W, rfl, h, o, rfl, rfl, u, fun _ _ => rfl, fun _ _ => rfl, ?_⟩
    intro k k0 k1 k2
    omega
structure yD (n:Nat) (x:Ev) (M:Ev->Prop) (K:Nat->Prop) (H:List Ev) (W:List Int) (H1:List Ev) (W1:List Int):Prop where
 hl:(aeI H1)=aeI H
 wl:(aeI W1)=aeI W
 ix: ∀w,w<n->0<=(H1[w]!).ix/\(H1[w]!).ix<aeI W/\W1[(H1[w]!).n]! =(w:Int)
 mem: ∀e,(∃w,w<n/\H1[w]! =e)↔(e=x\/M e)
 ord: ∀k,0<k->k<n-> ¬less H1[k]! H1[(k-1) / 2]!
 out: ∀k,K k->W1[k]! =W[k]!
theorem IM {n:Nat} {x:Ev} {M:Ev->Prop} {H H1:List Ev} {W W1:List Int} {i j:Nat} (h1:zZ n x M H1 W1 j) (o1:Ord n H1 j) (hl:(aeI H1)=aeI H) (wl:(aeI W1)=aeI W)
 (u:0<j-> ¬less x H1[(j-1) / 2]!) (kd: ∀k,0<k->k<n->(k-1) / 2=j-> ¬less H1[k]! x) (out: ∀k,(∀w,w<n->w≠i->(H[w]!).n≠k)->W1[k]! =W[k]!):
 yD n x M (fun k=>k≠x.n/\ ∀w,w<n->w≠i->(H[w]!).n≠k) H W (H1.set j x) (W1.set x.n (j:Int)):=by
 have hn:=h1.hn;have hj:=h1.lt;have f:=h1.fill;have cell: ∀w,(H1.set j x)[w]! =if w=j then x else H1[w]!:=by
  intro w;rw [aT]
  by_cases e:w=j
  · rw [rc ⟨e,by omega⟩,rc e]
  rw [ut (fun k=>e k.1),ut e]
 refine ⟨by rw [v6];exact hl,by rw [v6];exact wl,?_,f.2,?_,?_⟩
 · rw [<- wl];exact f.1
 · intro k k0 kn
   rw [cell,cell]
   by_cases e:k=j
   · rw [rc e,ut (by omega),e];exact u (by omega)
   rw [ut e]
   by_cases e2:(k-1) / 2=j
   · rw [rc e2];exact kd k k0 kn e2
   rw [ut e2];exact o1.ord k k0 kn e e2
 rintro k ⟨k1,k2⟩
 rw [aT,ut (fun c=>k1 c.1)];exact out k k2
noncomputable def cu (n:Nat) (x:Ev) (i:Nat) (H:List Ev) (W:List Int):List Ev×List Int:=
 let u:=ie x i H W
 let d:=dC n x u.1 u.2.1 u.2.2
 (d.2.1.set d.1 x,d.2.2.set x.n (d.1:Int))
theorem xI {n:Nat} {x:Ev} {M:Ev->Prop} (dx:1<=x.2.1) {i:Nat} {H:List Ev} {W:List Int} (h:zZ n x M H W i) (o:Ord n H i):
 yD n x M (fun k=>k≠x.n/\ ∀w,w<n->w≠i->(H[w]!).n≠k) H W (cu n x i H W).1 (cu n x i H W).2:=by
 obtain ⟨j,H1,W1,e1,e3,e4,e5,e6,e7,e8,e9,e10⟩:=Dy dx i H W h o;obtain ⟨k,H2,W2,f1,f3,f4,f5,f6,f7,f8,f9,f10⟩:=Hb dx n j H1 W1 (by omega) e3 e4 e7;have e:cu n x i H W=(H2.set k x,W2.set x.n (k:Int)):=by unfold cu;rw [e1];dsimp only;rw [f1]
 rw [e];refine IM f3 f4 (by omega) (by omega) f7 f10 ?_;intro c hc;rw [f9 c ?_,e9 c hc];intro w hw hwj hcw;have hm:M H1[w]!:=(e3.mem _).1 ⟨w,hw,hwj,rfl⟩;obtain ⟨v,v1,v2,v3⟩:=(h.mem _).2 hm;exact hc v v1 v2 (by rw [v3];exact hcw)
theorem KK {n:Nat} {x:Ev} {M:Ev->Prop} (dx:1<=x.2.1) {i:Nat} {H:List Ev} {W:List Int} (h:zZ n x M H W i) (o:Ord n H i) (hk: ∀k,0<k->k<n->(k-1) / 2=i-> ¬less H[k]! x):
 cu n x i H W=((ie x i H W).2.1.set (ie x i H W).1 x,(ie x i H W).2.2.set x.n ((ie x i H W).1:Int)):=by
 obtain ⟨j,H1,W1,e1,e3,e4,e5,e6,e7,e8,e9,e10⟩:=Dy dx i H W h o;unfold cu;rw [e1];dsimp only;rw [PZ (e10 hk)]
def oC (x:Ev):Prop:=bS (x.1,x.2.1)/\nQ (x.1,x.2.1)/\0<=x.2.2.1/\x.2.2.1<=1000000
theorem oC.den {x:Ev} (h:oC x):1<=x.2.1:=h.1.1
noncomputable def Fi (x y:Ev):Int:=if vK (x.1,x.2.1) (y.1,y.2.1)≠0 then vK (x.1,x.2.1) (y.1,y.2.1) else iV x.2.2.1 y.2.2.1
theorem Dz (x y:Ev):Fi x y<0↔less x y:=by
 unfold Fi less
 by_cases h:vK (x.1,x.2.1) (y.1,y.2.1)=0
 · rw [ut (by simpa using h),h]
   rcases eW x.2.2.1 y.2.2.1 with ⟨h1,e⟩|⟨h1,e⟩|⟨h1,e⟩<;>rw [e]<;>constructor<;>intro<;>omega
 rw [rc h];constructor<;>intro<;>omega
theorem dp {x y:Ev} (hx:oC x) (hy:oC y):ck x y=aeJ (Fi x y):=by unfold ck Fi;rw [S0 hx.2.1 hy.2.1,rc ⟨hx.1,hy.1⟩];simp only [aj,jr,yB]
theorem mf {x y:Ev} (hx:oC x) (hy:oC y):fN x y=aeJ (aeN (less x y)):=by
 unfold fN less;rw [MR hx.2.1 hy.2.1];simp only [aj];generalize vK (x.1,x.2.1) (y.1,y.2.1)=c
 by_cases h1:c<0
 · simp [h1]
 by_cases h2:c=0
 · subst h2;simp
 simp only [h1,eu h2,h2,decide_false,pp,false_or,false_and]
theorem Ci {x y:Ev}:aeN (Fi x y<0)=aeN (less x y):=by simp only [Dz]
theorem IN {x y:Ev}:aeN (0<=Fi x y)=!aeN (less x y):=by
 have:=Dz x y
 by_cases h:less x y
 · have h2:=this.2 h
   have: ¬0<=Fi x y:=by omega
   simp [h,this]
 have h2: ¬Fi x y<0:=fun k=>h (this.1 k)
 have:0<=Fi x y:=by omega
 simp [h,this]
structure lf (n:Nat) (H:List Ev) (W:List Int):Prop where
 hn:n<=aeI H
 hb:(aeI H)<=1000000
 ev: ∀w,w<n->oC H[w]!/\0<=(H[w]!).ix/\(H[w]!).ix<aeI W
theorem lf.move {n:Nat} {H:List Ev} {W:List Int} (c:lf n H W) {i j:Nat} (_hi:i<n) (hj:j<n) (k:Nat) (v:Int):lf n (H.set i H[j]!) (W.set k v):=by
 have hn:=c.hn;refine ⟨by rw [v6];exact hn,by rw [v6];exact c.hb,?_⟩;intro w hw;rw [aT,v6];split
 · exact c.ev j hj
 exact c.ev w hw
theorem DA {H:List Ev} {W:List Int} {x:Ev} {u fr:List Int} {us:List Bool} {i:Nat} (hi:i<aeI H) (h0:0<=x.ix) (h1:x.ix<aeI W):
 bR (u,us,fr,(i:Int),x.1,x.2.1,x.2.2.1,x.2.2.2.1,x.2.2.2.2,H,W)=aeJ (H.set i x,W.set x.n (i:Int)):=by
 unfold bR;have e1:=au H i hi;have e2:=eG (l:=W) h0 h1;simp only [e1,e2,aj,xd,beq_self_eq_true,lw];rfl
theorem DB {n cap:Nat} {H:List Ev} {W:List Int} {x:Ev} {u fr:List Int} {us:List Bool} {i:Nat} (hi:i<n) (hn:n<=aeI H) (h0:0<=x.ix) (h1:x.ix<aeI W):
 bQ (u,us,fr,n,cap,(i:Int),x.1,x.2.1,x.2.2.1,x.2.2.2.1,x.2.2.2.2,H,W)=aeJ (H.set i x,W.set x.n (i:Int)):=by
 unfold bQ;have e1:=au (H.take n) i (by rw [aav];omega);have e2:=eG (l:=W) h0 h1;simp only [e1,e2,aj,xd,beq_self_eq_true,lw];rfl
theorem rl {i:Nat} (h:i<1000000000):aa .i64 (Do (aa .i64 (((i+1:Nat):Int) -1)) 2)=((i / 2:Nat):Int):=by
 have e:aa .i64 (((i+1:Nat):Int) -1)=(i:Int):=by rw [wi];omega
 rw [e,acZ (by omega),wi];omega
theorem tB {i:Nat} (h:i<1000000000):aa .i64 ((aa .i64 (2*(i:Int)))+1)=((2*i+1:Nat):Int):=by
 have e:aa .i64 (2*(i:Int))=((2*i:Nat):Int):=by rw [wi];omega
 rw [e,wi];omega
theorem xJ {n:Nat} {x:Ev}: ∀{i:Nat} {H:List Ev} {W:List Int} {j:Nat} {H1:List Ev} {W1:List Int},lf n H W->i<n->ie x i H W=(j,H1,W1)-> ∀w,w<n->oC H1[w]!/\0<=(H1[w]!).ix/\(H1[w]!).ix<aeI W
 |0,H,W,j,H1,W1,c,hi,e=>by rw [ie] at e;injection e with e1 e;injection e with e2 e3;subst e2;exact c.ev
 |i+1,H,W,j,H1,W1,c,hi,e=>by
  rw [ie] at e;split at e
  · have:=xJ (c.move hi (show i / 2<n by omega) (H[i / 2]!).n ((i+1:Nat):Int)) (by omega) e
    rw [v6] at this;exact this
  injection e with e1 e;injection e with e2 e3
  subst e2;exact c.ev
termination_by i=>i
decreasing_by omega
theorem MY {c0:List Int×List Bool×List Int×Int×Int×Int×Int×Int×Int×List Ev×List Int} {n i:Nat} {H:List Ev} {W:List Int} {u fr:List Int} {us:List Bool} {x:Ev}
 (c:lf n H W) (hn:(aeI H)=n) (hi:i<n) (hx:oC x) (x0:0<=x.ix) (x1:x.ix<aeI W) (l1:(aeI c0.2.2.2.2.2.2.2.2.2.1)=n) (l2:(aeI c0.2.2.2.2.2.2.2.2.2.2)=aeI W):
 fC c0 ((i:Int),((2*i+1:Nat):Int),H,W,u,us,fr,x)=
  aeJ (if 2*i+1<n/\less H[gu n H i]! x then .next (((gu n H i:Nat):Int),((2*gu n H i+1:Nat):Int),H.set i H[gu n H i]!,W.set (H[gu n H i]!).n (i:Int),u,us,fr,x)
   else .done (.done (H.set i x,W.set x.n (i:Int)))):=by
 have hb:=c.hb;have fin:(bR (u,us,fr,(i:Int),x.1,x.2.1,x.2.2.1,x.2.2.2.1,x.2.2.2.2,H,W))=aeJ (H.set i x,W.set x.n (i:Int)):=DA (by omega) x0 x1;have ln1:(H.set i x).length=(aeI c0.2.2.2.2.2.2.2.2.2.1):=by rw [v6];omega
 have ln2:(W.set x.n (i:Int)).length=(aeI c0.2.2.2.2.2.2.2.2.2.2):=by rw [v6];omega
 unfold fC;simp only [aA,hn,fin,aj,ln1,ln2,beq_self_eq_true,lw]
 by_cases h1:2*i+1<n
 · have e1:aeN (((2*i+1:Nat):Int)<(n:Int))=aeL:=by simp;omega
   have e2:aa .i64 (((2*i+1:Nat):Int)+1)=((2*i+2:Nat):Int):=ba (by omega);obtain ⟨CY,a1,a2⟩:=c.ev (2*i+1) h1;have g1:=au H (2*i+1) (by omega);have s1:(bR (u,us,fr,(i:Int),(H[2*i+1]!).1,(H[2*i+1]!).2.1,(H[2*i+1]!).2.2.1,(H[2*i+1]!).2.2.2.1,(H[2*i+1]!).2.2.2.2,H,W))=aeJ (H.set i H[2*i+1]!,W.set (H[2*i+1]!).n (i:Int)):=DA (by omega) a1 a2;simp only [e1,e2,lw,g1,aj,s1,dp CY hx,IN,tB (show 2*i+1<1000000000 by omega)]
   by_cases h2:2*i+2<n
   · have e3:aeN (((2*i+2:Nat):Int)<(n:Int))=aeL:=by simp;omega
     obtain ⟨S9,b1,b2⟩:=c.ev (2*i+2) h2;have g2:=au H (2*i+2) (by omega);have s2:(bR (u,us,fr,(i:Int),(H[2*i+2]!).1,(H[2*i+2]!).2.1,(H[2*i+2]!).2.2.1,(H[2*i+2]!).2.2.2.1,(H[2*i+2]!).2.2.2.2,H,W))=aeJ (H.set i H[2*i+2]!,W.set (H[2*i+2]!).n (i:Int)):=DA (by omega) b1 b2;simp only [e3,lw,g2,aj,s2,dp S9 hx,dp S9 CY,Ci,IN,tB (show 2*i+2<1000000000 by omega)]
     by_cases h3:less H[2*i+2]! H[2*i+1]!
     · have k:gu n H i=2*i+2:=by unfold gu;rw [rc ⟨h2,h3⟩]
       rw [k]
       by_cases h4:less H[2*i+2]! x
       · simp only [h1,h3,h4,decide_true,lw,pp,M2,and_self,if_true]
       simp only [h1,h3,h4,decide_true,decide_false,lw,IR,and_false,if_false]
     have k:gu n H i=2*i+1:=by unfold gu;rw [ut (fun h=>h3 h.2)]
     rw [k]
     by_cases h4:less H[2*i+1]! x
     · simp only [h1,h3,h4,decide_true,decide_false,pp,M2,and_self,if_true]
     simp only [h1,h3,h4,decide_false,lw,pp,IR,and_false,if_false]
   have e3:aeN (((2*i+2:Nat):Int)<(n:Int))=aeM:=by simp;omega
   have k:gu n H i=2*i+1:=by unfold gu;rw [ut (fun h=>h2 h.1)]
   rw [k];simp only [e3,pp]
   by_cases h4:less H[2*i+1]! x
   · simp only [h1,h4,decide_true,pp,M2,and_self,if_true]
   simp only [h1,h4,decide_false,lw,IR,and_false,if_false]
 have e1:aeN (((2*i+1:Nat):Int)<(n:Int))=aeM:=by simp;omega
 rw [ut (fun h=>h1 h.1),e1];rfl
theorem vN {c0 : List Int × List Bool × List Int × Int × Int × Int × Int × Int × Int × List Ev × List Int} {n : Nat} {u fr : List Int} {us : List Bool} {x : Ev} (hx : oC x) (x0 : 0 <= x.ix) (l1 : (aeI c0.2.2.2.2.2.2.2.2.2.1) = n) :
    ∀ (d i : Nat) (H : List Ev) (W : List Int), n - i <= d -> lf n H W -> (aeI H) = n -> i < n -> x.ix < (aeI W) -> (aeI c0.2.2.2.2.2.2.2.2.2.2) = (aeI W) ->
      ar (fC c0) ((i : Int), ((2 * i + 1 : Nat) : Int), H, W, u, us, fr, x) = aeJ (.done ((dC n x i H W).2.1.set (dC n x i H W).1 x, (dC n x i H W).2.2.set x.n ((dC n x i H W).1 : Int)))
  | 0, i, H, W, hd, c, hn, hi, x1, l2 => by omega
  | d + 1, i, H, W, hd, c, hn, hi, x1, l2 => by
    have r := MY (u := u) (us := us) (fr := fr) c hn hi hx x0 x1 l1 l2
    by_cases h : 2 * i + 1 < n /\ less H[gu n H i]! x
    · rw [rc h] at r
      have kc := mN n H i
      have kn : gu n H i < n := by omega
      rw [aV r, vN hx x0 l1 d (gu n H i) _ _ (by omega) (c.move hi kn _ _) (by rw [v6]; exact hn) kn (by rw [v6]; exact x1) (by rw [v6]; exact l2)]
      have e : dC n x i H W = dC n x (gu n H i) (H.set i H[gu n H i]!) (W.set (H[gu n H i]!).n (i : Int)) := by
        rw [dC, dif_pos h.1, rc h.2]
      rw [e]
    rw [ut h] at r
    rw [aC r]
    have e : dC n x i H W = (i, H, W) := by
      rw [dC]
      split
      · rename_i h1; rw [ut (fun k => h ⟨h1, k⟩)]
      rfl
    rw [e]
theorem Fj {c0 : List Int × List Bool × List Int × Int × Int × Int × Int × Int × Int × List Ev × List Int} {n : Nat} {u fr : List Int} {us : List Bool} {x : Ev} (hx : oC x) (x0 : 0 <= x.ix) (l1 : (aeI c0.2.2.2.2.2.2.2.2.2.1) = n) :
    ∀ (i : Nat) (H : List Ev) (W : List Int), lf n H W -> (aeI H) = n -> i < n -> x.ix < (aeI W) -> (aeI c0.2.2.2.2.2.2.2.2.2.2) = (aeI W) ->
      ar (ef c0) ((i : Int), H, W, u, us, fr, x) = aeJ (cu n x i H W)
  | 0, H, W, c, hn, hi, x1, l2 => by
    have hb := c.hb
    have dn := vN (u := u) (us := us) (fr := fr) hx x0 l1 n 0 H W (by omega) c hn hi x1 l2
    refine (aC (r := cu n x 0 H W) ?_)
    unfold ef
    have e1 : aeN ((0 : Int) < ((0 : Nat) : Int)) = aeM := by simp
    simp only [e1, pp, tB (show 0 < 1000000000 by omega)]
    rw [dn]
    unfold cu
    rw [ie]
  | i + 1, H, W, c, hn, hi, x1, l2 => by
    have hb := c.hb
    have e1 : aeN ((0 : Int) < ((i + 1 : Nat) : Int)) = aeL := decide_eq_true (by omega)
    have hp : i / 2 < n := by omega
    obtain ⟨CY, a1, a2⟩ := c.ev (i / 2) hp
    have g1 := au H (i / 2) (by omega)
    have s1 : (bR (u, us, fr, ((i + 1 : Nat) : Int), (H[i / 2]!).1, (H[i / 2]!).2.1, (H[i / 2]!).2.2.1, (H[i / 2]!).2.2.2.1, (H[i / 2]!).2.2.2.2, H, W)) = aeJ (H.set (i + 1) H[i / 2]!, W.set (H[i / 2]!).n ((i + 1 : Nat) : Int)) := DA (by omega) a1 a2
    by_cases h : less x H[i / 2]!
    · have r : ef c0 (((i + 1 : Nat) : Int), H, W, u, us, fr, x) = aeJ (.next (((i / 2 : Nat) : Int), H.set (i + 1) H[i / 2]!, W.set (H[i / 2]!).n ((i + 1 : Nat) : Int), u, us, fr, x)) := by
        unfold ef
        simp only [e1, lw, rl (show i < 1000000000 by omega), g1, aj, dp hx CY, Ci, h, decide_true, s1]
      rw [aV r, Fj hx x0 l1 (i / 2) _ _ (c.move hi hp _ _) (by rw [v6]; exact hn) hp (by rw [v6]; exact x1) (by rw [v6]; exact l2)]
      have e : ie x (i + 1) H W = ie x (i / 2) (H.set (i + 1) H[i / 2]!) (W.set (H[i / 2]!).n ((i + 1 : Nat) : Int)) := by
        rw [ie, rc h]
      unfold cu
      rw [e]
    have dn := vN (u := u) (us := us) (fr := fr) hx x0 l1 n (i + 1) H W (by omega) c hn hi x1 l2
    refine (aC (r := cu n x (i + 1) H W) ?_)
    unfold ef
    simp only [e1, lw, rl (show i < 1000000000 by omega), g1, aj, dp hx CY, Ci, h, decide_false, pp, tB (show i + 1 < 1000000000 by omega)]
    rw [dn]
    unfold cu
    rw [ie, ut h]
termination_by i=>i
decreasing_by omega
theorem Fk {n:Nat} {u fr:List Int} {us:List Bool} {x:Ev} (hx:oC x) (x0:0<=x.ix) {i:Nat} {H:List Ev} {W:List Int} (c:lf n H W) (hn:(aeI H)=n) (hi:i<n) (x1:x.ix<aeI W):
 ew (u,us,fr,(i:Int),x.1,x.2.1,x.2.2.1,x.2.2.2.1,x.2.2.2.2,H,W)=aeJ (cu n x i H W):=by
 unfold ew;exact Fj hx x0 hn i H W c hn hi x1 rfl
theorem fG {l:List Ev} {n i:Nat} (h:i<n) (hn:n<=aeI l):aH (l.take n) (i:Int)=aeJ l[i]!:=by rw [au (l.take n) i (by rw [aav];omega),iu h]
theorem MZ {c0:List Int×List Bool×List Int×Nat×Nat×Int×Int×Int×Int×Int×Int×List Ev×List Int} {n cap i:Nat} {H:List Ev} {W:List Int} {u fr:List Int} {us:List Bool} {x:Ev}
 (c:lf n H W) (hi:i<n) (hx:oC x) (x0:0<=x.ix) (x1:x.ix<aeI W) (l1:(aeI c0.2.2.2.2.2.2.2.2.2.2.2.1)=aeI H) (l2:(aeI c0.2.2.2.2.2.2.2.2.2.2.2.2)=aeI W):
 fB c0 ((i:Int),((2*i+1:Nat):Int),H,W,u,us,fr,n,cap,x)=
  aeJ (if 2*i+1<n/\less H[gu n H i]! x then .next (((gu n H i:Nat):Int),((2*gu n H i+1:Nat):Int),H.set i H[gu n H i]!,W.set (H[gu n H i]!).n (i:Int),u,us,fr,n,cap,x)
   else .done (.done (H.set i x,W.set x.n (i:Int)))):=by
 have hb:=c.hb;have P0:=c.hn;have fin:(bQ (u,us,fr,n,cap,(i:Int),x.1,x.2.1,x.2.2.1,x.2.2.2.1,x.2.2.2.2,H,W))=aeJ (H.set i x,W.set x.n (i:Int)):=DB (cap:=cap) (by omega) c.hn x0 x1;have ln1:(H.set i x).length=(aeI c0.2.2.2.2.2.2.2.2.2.2.2.1):=by rw [v6];omega
 have ln2:(W.set x.n (i:Int)).length=(aeI c0.2.2.2.2.2.2.2.2.2.2.2.2):=by rw [v6];omega
 unfold fB;simp only [aA,fin,aj,ln1,ln2,beq_self_eq_true,lw]
 by_cases h1:2*i+1<n
 · have e1:aeN (((2*i+1:Nat):Int)<(n:Int))=aeL:=by simp;omega
   have e2:aa .i64 (((2*i+1:Nat):Int)+1)=((2*i+2:Nat):Int):=ba (by omega);obtain ⟨CY,a1,a2⟩:=c.ev (2*i+1) h1;have g1:=fG (l:=H) (n:=n) (i:=2*i+1) (by omega) c.hn;have s1:(bQ (u,us,fr,n,cap,(i:Int),(H[2*i+1]!).1,(H[2*i+1]!).2.1,(H[2*i+1]!).2.2.1,(H[2*i+1]!).2.2.2.1,(H[2*i+1]!).2.2.2.2,H,W))=aeJ (H.set i H[2*i+1]!,W.set (H[2*i+1]!).n (i:Int)):=DB (cap:=cap) (by omega) c.hn a1 a2;simp only [e1,e2,lw,g1,aj,s1,dp CY hx,IN,tB (show 2*i+1<1000000000 by omega)]
   by_cases h2:2*i+2<n
   · have e3:aeN (((2*i+2:Nat):Int)<(n:Int))=aeL:=by simp;omega
     obtain ⟨S9,b1,b2⟩:=c.ev (2*i+2) h2;have g2:=fG (l:=H) (n:=n) (i:=2*i+2) (by omega) c.hn;have s2:(bQ (u,us,fr,n,cap,(i:Int),(H[2*i+2]!).1,(H[2*i+2]!).2.1,(H[2*i+2]!).2.2.1,(H[2*i+2]!).2.2.2.1,(H[2*i+2]!).2.2.2.2,H,W))=aeJ (H.set i H[2*i+2]!,W.set (H[2*i+2]!).n (i:Int)):=DB (cap:=cap) (by omega) c.hn b1 b2;simp only [e3,lw,g2,aj,s2,dp S9 hx,dp S9 CY,Ci,IN,tB (show 2*i+2<1000000000 by omega)]
     by_cases h3:less H[2*i+2]! H[2*i+1]!
     · have k:gu n H i=2*i+2:=by unfold gu;rw [rc ⟨h2,h3⟩]
       rw [k]
       by_cases h4:less H[2*i+2]! x
       · simp only [h1,h3,h4,decide_true,lw,pp,M2,and_self,if_true]
       simp only [h1,h3,h4,decide_true,decide_false,lw,IR,and_false,if_false]
     have k:gu n H i=2*i+1:=by unfold gu;rw [ut (fun h=>h3 h.2)]
     rw [k]
     by_cases h4:less H[2*i+1]! x
     · simp only [h1,h3,h4,decide_true,decide_false,pp,M2,and_self,if_true]
     simp only [h1,h3,h4,decide_false,lw,pp,IR,and_false,if_false]
   have e3:aeN (((2*i+2:Nat):Int)<(n:Int))=aeM:=by simp;omega
   have k:gu n H i=2*i+1:=by unfold gu;rw [ut (fun h=>h2 h.1)]
   rw [k];simp only [e3,pp]
   by_cases h4:less H[2*i+1]! x
   · simp only [h1,h4,decide_true,pp,M2,and_self,if_true]
   simp only [h1,h4,decide_false,lw,IR,and_false,if_false]
 have e1:aeN (((2*i+1:Nat):Int)<(n:Int))=aeM:=by simp;omega
 rw [ut (fun h=>h1 h.1),e1];rfl
theorem vO {c0 : List Int × List Bool × List Int × Nat × Nat × Int × Int × Int × Int × Int × Int × List Ev × List Int} {n cap : Nat} {u fr : List Int} {us : List Bool} {x : Ev} (hx : oC x) (x0 : 0 <= x.ix) :
    ∀ (d i : Nat) (H : List Ev) (W : List Int), n - i <= d -> lf n H W -> (aeI c0.2.2.2.2.2.2.2.2.2.2.2.1) = (aeI H) -> i < n -> x.ix < (aeI W) -> (aeI c0.2.2.2.2.2.2.2.2.2.2.2.2) = (aeI W) ->
      ar (fB c0) ((i : Int), ((2 * i + 1 : Nat) : Int), H, W, u, us, fr, n, cap, x) = aeJ (.done ((dC n x i H W).2.1.set (dC n x i H W).1 x, (dC n x i H W).2.2.set x.n ((dC n x i H W).1 : Int)))
  | 0, i, H, W, hd, c, hn, hi, x1, l2 => by omega
  | d + 1, i, H, W, hd, c, hn, hi, x1, l2 => by
    have r := MZ (u := u) (us := us) (fr := fr) (cap := cap) c hi hx x0 x1 hn l2
    by_cases h : 2 * i + 1 < n /\ less H[gu n H i]! x
    · rw [rc h] at r
      have kc := mN n H i
      have kn : gu n H i < n := by omega
      rw [aV r, vO hx x0 d (gu n H i) _ _ (by omega) (c.move hi kn _ _) (by rw [v6]; exact hn) kn (by rw [v6]; exact x1) (by rw [v6]; exact l2)]
      have e : dC n x i H W = dC n x (gu n H i) (H.set i H[gu n H i]!) (W.set (H[gu n H i]!).n (i : Int)) := by
        rw [dC, dif_pos h.1, rc h.2]
      rw [e]
    rw [ut h] at r
    rw [aC r]
    have e : dC n x i H W = (i, H, W) := by
      rw [dC]
      split
      · rename_i h1; rw [ut (fun k => h ⟨h1, k⟩)]
      rfl
    rw [e]
theorem Fl {c0 : List Int × List Bool × List Int × Nat × Nat × Int × Int × Int × Int × Int × Int × List Ev × List Int} {n cap : Nat} {u fr : List Int} {us : List Bool} {x : Ev} (hx : oC x) (x0 : 0 <= x.ix) :
    ∀ (i : Nat) (H : List Ev) (W : List Int), lf n H W -> (aeI c0.2.2.2.2.2.2.2.2.2.2.2.1) = (aeI H) -> i < n -> x.ix < (aeI W) -> (aeI c0.2.2.2.2.2.2.2.2.2.2.2.2) = (aeI W) ->
      ar (ed c0) ((i : Int), H, W, u, us, fr, n, cap, x) = aeJ (cu n x i H W)
  | 0, H, W, c, hn, hi, x1, l2 => by
    have hb := c.hb
    have P0 := c.hn
    have dn := vO (u := u) (us := us) (fr := fr) (cap := cap) hx x0 n 0 H W (by omega) c hn hi x1 l2
    refine (aC (r := cu n x 0 H W) ?_)
    unfold ed
    have e1 : aeN ((0 : Int) < ((0 : Nat) : Int)) = aeM := by simp
    simp only [e1, pp, tB (show 0 < 1000000000 by omega)]
    rw [dn]
    unfold cu
    rw [ie]
  | i + 1, H, W, c, hn, hi, x1, l2 => by
    have hb := c.hb
    have P0 := c.hn
    have e1 : aeN ((0 : Int) < ((i + 1 : Nat) : Int)) = aeL := decide_eq_true (by omega)
    have hp : i / 2 < n := by omega
    obtain ⟨CY, a1, a2⟩ := c.ev (i / 2) hp
    have g1 := fG (l := H) (n := n) (i := i / 2) (by omega) c.hn
    have s1 : (bQ (u, us, fr, n, cap, ((i + 1 : Nat) : Int), (H[i / 2]!).1, (H[i / 2]!).2.1, (H[i / 2]!).2.2.1, (H[i / 2]!).2.2.2.1, (H[i / 2]!).2.2.2.2, H, W)) = aeJ (H.set (i + 1) H[i / 2]!, W.set (H[i / 2]!).n ((i + 1 : Nat) : Int)) := DB (cap := cap) (by omega) c.hn a1 a2
    by_cases h : less x H[i / 2]!
    · have r : ed c0 (((i + 1 : Nat) : Int), H, W, u, us, fr, n, cap, x) = aeJ (.next (((i / 2 : Nat) : Int), H.set (i + 1) H[i / 2]!, W.set (H[i / 2]!).n ((i + 1 : Nat) : Int), u, us, fr, n, cap, x)) := by
        unfold ed
        simp only [e1, lw, rl (show i < 1000000000 by omega), g1, aj, dp hx CY, Ci, h, decide_true, s1]
      rw [aV r, Fl hx x0 (i / 2) _ _ (c.move hi hp _ _) (by rw [v6]; exact hn) hp (by rw [v6]; exact x1) (by rw [v6]; exact l2)]
      have e : ie x (i + 1) H W = ie x (i / 2) (H.set (i + 1) H[i / 2]!) (W.set (H[i / 2]!).n ((i + 1 : Nat) : Int)) := by
        rw [ie, rc h]
      unfold cu
      rw [e]
    have dn := vO (u := u) (us := us) (fr := fr) (cap := cap) hx x0 n (i + 1) H W (by omega) c hn hi x1 l2
    refine (aC (r := cu n x (i + 1) H W) ?_)
    unfold ed
    simp only [e1, lw, rl (show i < 1000000000 by omega), g1, aj, dp hx CY, Ci, h, decide_false, pp, tB (show i + 1 < 1000000000 by omega)]
    rw [dn]
    unfold cu
    rw [ie, ut h]
termination_by i=>i
decreasing_by omega
theorem M0 {n cap:Nat} {u fr:List Int} {us:List Bool} {x:Ev} (hx:oC x) (x0:0<=x.ix) {i:Nat} {H:List Ev} {W:List Int} (c:lf n H W) (hi:i<n) (x1:x.ix<aeI W):
 iX (u,us,fr,n,cap,(i:Int),x.1,x.2.1,x.2.2.1,x.2.2.2.1,x.2.2.2.2,H,W)=aeJ (cu n x i H W):=by
 unfold iX;exact Fl hx x0 i H W c rfl hi x1 rfl
theorem Fm {n cap:Nat} {H:List Ev} {W:List Int} {x:Ev} {u fr:List Int} {us:List Bool} {i k:Nat} (hi:i<n) (hk:k<n) (Jb:k≠i) (hn:n<=aeI H) (x0:0<=x.ix) (x1:x.ix<aeI W) (k0:0<=(H[k]!).ix) (k1:(H[k]!).ix<aeI W):
 gU (u,us,fr,n,cap,(i:Int),(k:Int),H.set i x,W.set x.n (i:Int))=aeJ ((H.set i H[k]!).set k x,(W.set (H[k]!).n (i:Int)).set x.n (k:Int)):=by
 have cell: ∀w,(H.set i x)[w]! =if w=i then x else H[w]!:=by
  intro w;rw [aT]
  by_cases e:w=i
  · rw [rc ⟨e,by omega⟩,rc e]
  rw [ut (fun k=>e k.1),ut e]
 have sh:((H.set i x).set i H[k]!).set k x=(H.set i H[k]!).set k x:=by rw [aah]
 have sw:((W.set x.n (i:Int)).set (H[k]!).n (i:Int)).set x.n (k:Int)=(W.set (H[k]!).n (i:Int)).set x.n (k:Int):=by
  by_cases e:x.n=(H[k]!).n
  · simp only [e,aah]
  rw [aes _ _ (fun h=>e h),aah]
 have g1:aH ((H.set i x).take n) (k:Int)=aeJ H[k]!:=by rw [fG (by omega) (by rw [v6];omega),cell,ut Jb]
 have g2:aH ((H.set i x).take n) (i:Int)=aeJ x:=by rw [fG (by omega) (by rw [v6];omega),cell,rc rfl]
 have g3:aH (((H.set i x).set i H[k]!).take n) (k:Int)=aeJ H[k]!:=by rw [fG (by omega) (by rw [v6,v6];omega),aT,ut (fun h=>Jb h.1),cell,ut Jb]
 have g4:aH (((H.set i H[k]!).set k x).take n) (i:Int)=aeJ H[k]!:=by rw [fG (by omega) (by rw [v6,v6];omega),aT,ut (fun h=>Jb h.1.symm),aT,rc ⟨rfl,by omega⟩]
 have g5:aH (((H.set i H[k]!).set k x).take n) (k:Int)=aeJ x:=by rw [fG (by omega) (by rw [v6,v6];omega),aT,rc ⟨rfl,by rw [v6];omega⟩]
 have w6:=eG (l:=W.set x.n (i:Int)) k0 (by rw [v6];exact k1);have w7:=eG (l:=(W.set x.n (i:Int)).set (H[k]!).n (i:Int)) x0 (by rw [v6,v6];exact x1);have q1: ∀(l:List Int) (a:Int) (y:Ev),bU l y.2.2.2.1 a=l.set y.n a:=fun _ _ _=>rfl
 unfold gU;simp only [lW,g1,g2,g3,aj,sh,g4,g5,q1,w6,w7,sw,v6,beq_self_eq_true,lw]
theorem S' {c0:List Int×List Bool×List Int×Nat×Nat×Int×List Ev×List Int} {n cap:Nat} {u fr:List Int} {us:List Bool} {x:Ev} (hx:oC x) (x0:0<=x.ix):
 ∀(i:Nat) (H:List Ev) (W:List Int),lf n H W->i<n->x.ix<aeI W->aeI c0.2.2.2.2.2.2.1=aeI H->aeI c0.2.2.2.2.2.2.2=aeI W->
  ar (gi c0) ((i:Int),H.set i x,W.set x.n (i:Int),u,us,fr,n,cap)=aeJ (((ie x i H W).1:Int),(ie x i H W).2.1.set (ie x i H W).1 x,(ie x i H W).2.2.set x.n ((ie x i H W).1:Int))
 |0,H,W,c,hi,x1,l1,l2=>by
  have P0:=c.hn;refine aC ?_;unfold gi;have e1:aeN ((0:Int)<((0:Nat):Int))=aeM:=by simp
  rw [ie];simp only [e1,pp,v6,l1,l2,beq_self_eq_true,lw]
 |i+1,H,W,c,hi,x1,l1,l2=>by
  have hb:=c.hb;have P0:=c.hn;have e1:aeN ((0:Int)<((i+1:Nat):Int))=aeL:=decide_eq_true (by omega);have hp:i / 2<n:=by omega
  have dK:i / 2≠i+1:=by omega
  obtain ⟨CY,a1,a2⟩:=c.ev (i / 2) hp;have cell: ∀w,(H.set (i+1) x)[w]! =if w=i+1 then x else H[w]!:=by
   intro w;rw [aT]
   by_cases e:w=i+1
   · rw [rc ⟨e,by omega⟩,rc e]
   rw [ut (fun k=>e k.1),ut e]
  have g0:aH ((H.set (i+1) x).take n) ((i+1:Nat):Int)=aeJ x:=by rw [fG (by omega) (by rw [v6];omega),cell,rc rfl]
  have g1:aH ((H.set (i+1) x).take n) ((i / 2:Nat):Int)=aeJ H[i / 2]!:=by rw [fG (by omega) (by rw [v6];omega),cell,ut dK]
  by_cases h:less x H[i / 2]!
  · have sw:=Fm (cap:=cap) (u:=u) (us:=us) (fr:=fr) (x:=x) hi hp dK P0 x0 x1 a1 a2
    have r:gi c0 (((i+1:Nat):Int),H.set (i+1) x,W.set x.n ((i+1:Nat):Int),u,us,fr,n,cap)=aeJ (.next (((i / 2:Nat):Int),(H.set (i+1) H[i / 2]!).set (i / 2) x,(W.set (H[i / 2]!).n ((i+1:Nat):Int)).set x.n ((i / 2:Nat):Int),u,us,fr,n,cap)):=by unfold gi;simp only [e1,lw,rl (show i<1000000000 by omega),g0,g1,aj,mf hx CY,h,decide_true,sw]
    rw [aV r,S' hx x0 (i / 2) _ _ (c.move hi hp _ _) hp (by rw [v6];exact x1) (by rw [v6];exact l1) (by rw [v6];exact l2)];have e:ie x (i+1) H W=ie x (i / 2) (H.set (i+1) H[i / 2]!) (W.set (H[i / 2]!).n ((i+1:Nat):Int)):=by rw [ie,rc h]
    rw [e]
  refine aC ?_
  unfold gi;have e:ie x (i+1) H W=(i+1,H,W):=by rw [ie,ut h]
  rw [e];simp only [e1,lw,rl (show i<1000000000 by omega),g0,g1,aj,mf hx CY,h,decide_false,pp,v6,l1,l2,beq_self_eq_true]
termination_by i=>i
decreasing_by omega
theorem KL {c0:List Int×List Bool×List Int×Nat×Nat×Int×List Ev×List Int} {n cap:Nat} {u fr:List Int} {us:List Bool} {x:Ev} (hx:oC x) (x0:0<=x.ix):
 ∀(d i:Nat) (H:List Ev) (W:List Int),n-i<=d->lf n H W->i<n->x.ix<aeI W->aeI c0.2.2.2.2.2.2.1=aeI H->aeI c0.2.2.2.2.2.2.2=aeI W->
  ar (ja c0) ((i:Int),H.set i x,W.set x.n (i:Int),u,us,fr,n,cap)=aeJ (((dC n x i H W).2.1.set (dC n x i H W).1 x,(dC n x i H W).2.2.set x.n ((dC n x i H W).1:Int)))
 |0,i,H,W,hd,c,hi,x1,l1,l2=>by omega
 |d+1,i,H,W,hd,c,hi,x1,l1,l2=>by
  have hb:=c.hb;have P0:=c.hn;have cell: ∀w,(H.set i x)[w]! =if w=i then x else H[w]!:=by
   intro w;rw [aT]
   by_cases e:w=i
   · rw [rc ⟨e,by omega⟩,rc e]
   rw [ut (fun k=>e k.1),ut e]
  have Ta:(H.set i x).length=(aeI H):=v6;have body:ja c0 ((i:Int),H.set i x,W.set x.n (i:Int),u,us,fr,n,cap)=aeJ (if 2*i+1<n/\less H[gu n H i]! x then .next (((gu n H i:Nat):Int),(H.set i H[gu n H i]!).set (gu n H i) x,(W.set (H[gu n H i]!).n (i:Int)).set x.n ((gu n H i:Nat):Int),u,us,fr,n,cap) else .done ((H.set i x,W.set x.n (i:Int)))):=by
   have k1:=tB (show i<1000000000 by omega);unfold ja
   by_cases h1:2*i+1<n
   · have e1:aeN ((n:Int)<=((2*i+1:Nat):Int))=aeM:=decide_eq_false (by omega)
     have e2:aa .i64 (((2*i+1:Nat):Int)+1)=((2*i+2:Nat):Int):=ba (by omega);obtain ⟨CY,a1,a2⟩:=c.ev (2*i+1) h1;have g0:aH ((H.set i x).take n) (i:Int)=aeJ x:=by rw [fG (by omega) (by rw [v6];omega),cell,rc rfl]
     have g1:aH ((H.set i x).take n) ((2*i+1:Nat):Int)=aeJ H[2*i+1]!:=by rw [fG (by omega) (by rw [v6];omega),cell,ut (by omega)]
     have s1:=Fm (cap:=cap) (u:=u) (us:=us) (fr:=fr) (x:=x) hi h1 (by omega) P0 x0 x1 a1 a2;simp only [aA,k1,Ta,e1,e2,pp,g0,g1,aj,mf CY hx,s1,v6,l1,l2,beq_self_eq_true,lw]
     by_cases h2:2*i+2<n
     · have e3:aeN (((2*i+2:Nat):Int)<(n:Int))=aeL:=decide_eq_true (by omega)
       obtain ⟨S9,b1,b2⟩:=c.ev (2*i+2) h2;have g2:aH ((H.set i x).take n) ((2*i+2:Nat):Int)=aeJ H[2*i+2]!:=by rw [fG (by omega) (by rw [v6];omega),cell,ut (by omega)]
       have s2:=Fm (cap:=cap) (u:=u) (us:=us) (fr:=fr) (x:=x) hi h2 (by omega) P0 x0 x1 b1 b2;simp only [e3,lw,g2,aj,s2,mf S9 hx,mf S9 CY]
       by_cases h3:less H[2*i+2]! H[2*i+1]!
       · have k:gu n H i=2*i+2:=by unfold gu;rw [rc ⟨h2,h3⟩]
         rw [k]
         by_cases h4:less H[2*i+2]! x
         · simp only [h1,h3,h4,decide_true,lw,pp,M2,and_self,if_true]
         simp only [h1,h3,h4,decide_true,decide_false,lw,IR,and_false,if_false]
       have k:gu n H i=2*i+1:=by unfold gu;rw [ut (fun h=>h3 h.2)]
       rw [k]
       by_cases h4:less H[2*i+1]! x
       · simp only [h1,h3,h4,decide_true,decide_false,pp,M2,and_self,if_true]
       simp only [h1,h3,h4,decide_false,lw,pp,IR,and_false,if_false]
     have e3:aeN (((2*i+2:Nat):Int)<(n:Int))=aeM:=decide_eq_false (by omega)
     have k:gu n H i=2*i+1:=by unfold gu;rw [ut (fun h=>h2 h.1)]
     rw [k];simp only [e3,pp]
     by_cases h4:less H[2*i+1]! x
     · simp only [h1,h4,decide_true,pp,M2,and_self,if_true]
     simp only [h1,h4,decide_false,lw,IR,and_false,if_false]
   have e1:aeN ((n:Int)<=((2*i+1:Nat):Int))=aeL:=decide_eq_true (by omega)
   rw [ut (fun h=>h1 h.1)];simp only [aA,k1,Ta,e1,lw,v6,l1,l2,beq_self_eq_true]
  by_cases h:2*i+1<n/\less H[gu n H i]! x
  · rw [rc h] at body
    have kc:=mN n H i;have kn:gu n H i<n:=by omega
    rw [aV body,KL hx x0 d (gu n H i) _ _ (by omega) (c.move hi kn _ _) kn (by rw [v6];exact x1) (by rw [v6];exact l1) (by rw [v6];exact l2)];have e:dC n x i H W=dC n x (gu n H i) (H.set i H[gu n H i]!) (W.set (H[gu n H i]!).n (i:Int)):=by rw [dC,dif_pos h.1,rc h.2]
    rw [e]
  rw [ut h] at body
  rw [aC body];have e:dC n x i H W=(i,H,W):=by
   rw [dC];split
   · rename_i h1;rw [ut (fun k=>h ⟨h1,k⟩)]
   rfl
  rw [e]
theorem Bc {n:Nat} {H:List Ev} {W:List Int} {x:Ev} {u fr:List Int} {us:List Bool} {i k:Nat} (hi:i<n) (hk:k<n) (Jb:k≠i) (hn:n=aeI H) (x0:0<=x.ix) (x1:x.ix<aeI W) (k0:0<=(H[k]!).ix) (k1:(H[k]!).ix<aeI W):
 fO ((i:Int),(k:Int),u,us,fr,H.set i x,W.set x.n (i:Int))=aeJ (u,us,fr,(H.set i H[k]!).set k x,(W.set (H[k]!).n (i:Int)).set x.n (k:Int)):=by
 have cell: ∀w,(H.set i x)[w]! =if w=i then x else H[w]!:=by
  intro w;rw [aT]
  by_cases e:w=i
  · rw [rc ⟨e,by omega⟩,rc e]
  rw [ut (fun k=>e k.1),ut e]
 have sh:((H.set i x).set i H[k]!).set k x=(H.set i H[k]!).set k x:=by rw [aah]
 have sw:((W.set x.n (i:Int)).set (H[k]!).n (i:Int)).set x.n (k:Int)=(W.set (H[k]!).n (i:Int)).set x.n (k:Int):=by
  by_cases e:x.n=(H[k]!).n
  · simp only [e,aah]
  rw [aes _ _ (fun h=>e h),aah]
 have g1:aH ((H.set i x)) (k:Int)=aeJ H[k]!:=by rw [au _ _ (by rw [v6];omega),cell,ut Jb]
 have g2:aH ((H.set i x)) (i:Int)=aeJ x:=by rw [au _ _ (by rw [v6];omega),cell,rc rfl]
 have g3:aH (((H.set i x).set i H[k]!)) (k:Int)=aeJ H[k]!:=by rw [au _ _ (by rw [v6,v6];omega),aT,ut (fun h=>Jb h.1),cell,ut Jb]
 have g4:aH (((H.set i H[k]!).set k x)) (i:Int)=aeJ H[k]!:=by rw [au _ _ (by rw [v6,v6];omega),aT,ut (fun h=>Jb h.1.symm),aT,rc ⟨rfl,by omega⟩]
 have g5:aH (((H.set i H[k]!).set k x)) (k:Int)=aeJ x:=by rw [au _ _ (by rw [v6,v6];omega),aT,rc ⟨rfl,by rw [v6];omega⟩]
 have w6:=eG (l:=W.set x.n (i:Int)) k0 (by rw [v6];exact k1);have w7:=eG (l:=(W.set x.n (i:Int)).set (H[k]!).n (i:Int)) x0 (by rw [v6,v6];exact x1);have q1: ∀(l:List Int) (a:Int) (y:Ev),bU l y.2.2.2.1 a=l.set y.n a:=fun _ _ _=>rfl
 unfold fO;simp only [lW,g1,g2,g3,aj,sh,g4,g5,q1,w6,w7,sw,v6,beq_self_eq_true,lw]
theorem Tb {c0:Int×List Int×List Bool×List Int×List Ev×List Int} {n:Nat} {u fr:List Int} {us:List Bool} {x:Ev} (hx:oC x) (x0:0<=x.ix) (l3:(aeI c0.2.1)=aeI u) (l4:(aeI c0.2.2.1)=aeI us) (l5:(aeI c0.2.2.2.1)=aeI fr):
 ∀(i:Nat) (H:List Ev) (W:List Int),lf n H W->i<n->aeI H=n->x.ix<aeI W->aeI c0.2.2.2.2.1=aeI H->aeI c0.2.2.2.2.2=aeI W->
  ar (gj c0) ((i:Int),u,us,fr,H.set i x,W.set x.n (i:Int))=aeJ (((ie x i H W).1:Int),u,us,fr,(ie x i H W).2.1.set (ie x i H W).1 x,(ie x i H W).2.2.set x.n ((ie x i H W).1:Int))
 |0,H,W,c,hi,OA,x1,l1,l2=>by
  have P0:=c.hn;refine aC ?_;unfold gj;have e1:aeN ((0:Int)<((0:Nat):Int))=aeM:=by simp
  rw [ie];simp only [e1,pp,v6,l1,l2,l3,l4,l5,beq_self_eq_true,lw]
 |i+1,H,W,c,hi,OA,x1,l1,l2=>by
  have hb:=c.hb;have P0:=c.hn;have e1:aeN ((0:Int)<((i+1:Nat):Int))=aeL:=decide_eq_true (by omega);have hp:i / 2<n:=by omega
  have dK:i / 2≠i+1:=by omega
  obtain ⟨CY,a1,a2⟩:=c.ev (i / 2) hp;have cell: ∀w,(H.set (i+1) x)[w]! =if w=i+1 then x else H[w]!:=by
   intro w;rw [aT]
   by_cases e:w=i+1
   · rw [rc ⟨e,by omega⟩,rc e]
   rw [ut (fun k=>e k.1),ut e]
  have g0:aH ((H.set (i+1) x)) ((i+1:Nat):Int)=aeJ x:=by rw [au _ _ (by rw [v6];omega),cell,rc rfl]
  have g1:aH ((H.set (i+1) x)) ((i / 2:Nat):Int)=aeJ H[i / 2]!:=by rw [au _ _ (by rw [v6];omega),cell,ut dK]
  by_cases h:less x H[i / 2]!
  · have sw:=Bc (u:=u) (us:=us) (fr:=fr) (x:=x) hi hp dK OA.symm x0 x1 a1 a2
    have r:gj c0 (((i+1:Nat):Int),u,us,fr,H.set (i+1) x,W.set x.n ((i+1:Nat):Int))=aeJ (.next (((i / 2:Nat):Int),u,us,fr,(H.set (i+1) H[i / 2]!).set (i / 2) x,(W.set (H[i / 2]!).n ((i+1:Nat):Int)).set x.n ((i / 2:Nat):Int))):=by unfold gj;simp only [e1,lw,rl (show i<1000000000 by omega),g0,g1,aj,mf hx CY,h,decide_true,sw]
    rw [aV r,Tb hx x0 l3 l4 l5 (i / 2) _ _ (c.move hi hp _ _) hp (by rw [v6];exact OA) (by rw [v6];exact x1) (by rw [v6];exact l1) (by rw [v6];exact l2)];have e:ie x (i+1) H W=ie x (i / 2) (H.set (i+1) H[i / 2]!) (W.set (H[i / 2]!).n ((i+1:Nat):Int)):=by rw [ie,rc h]
    rw [e]
  refine aC ?_
  unfold gj;have e:ie x (i+1) H W=(i+1,H,W):=by rw [ie,ut h]
  rw [e];simp only [e1,lw,rl (show i<1000000000 by omega),g0,g1,aj,mf hx CY,h,decide_false,pp,v6,l1,l2,l3,l4,l5,beq_self_eq_true]
termination_by i=>i
decreasing_by omega
theorem KM {c0:Int×List Int×List Bool×List Int×List Ev×List Int} {n:Nat} {u fr:List Int} {us:List Bool} {x:Ev} (hx:oC x) (x0:0<=x.ix) (l3:(aeI c0.2.1)=aeI u) (l4:(aeI c0.2.2.1)=aeI us) (l5:(aeI c0.2.2.2.1)=aeI fr):
 ∀(d i:Nat) (H:List Ev) (W:List Int),n-i<=d->lf n H W->i<n->aeI H=n->x.ix<aeI W->aeI c0.2.2.2.2.1=aeI H->aeI c0.2.2.2.2.2=aeI W->
  ar (jb c0) ((i:Int),u,us,fr,H.set i x,W.set x.n (i:Int))=aeJ ((u,us,fr,(dC n x i H W).2.1.set (dC n x i H W).1 x,(dC n x i H W).2.2.set x.n ((dC n x i H W).1:Int)))
 |0,i,H,W,hd,c,hi,OA,x1,l1,l2=>by omega
 |d+1,i,H,W,hd,c,hi,OA,x1,l1,l2=>by
  have hb:=c.hb;have P0:=c.hn;have cell: ∀w,(H.set i x)[w]! =if w=i then x else H[w]!:=by
   intro w;rw [aT]
   by_cases e:w=i
   · rw [rc ⟨e,by omega⟩,rc e]
   rw [ut (fun k=>e k.1),ut e]
  have Ta:(H.set i x).length=(aeI H):=v6;have body:jb c0 ((i:Int),u,us,fr,H.set i x,W.set x.n (i:Int))=aeJ (if 2*i+1<n/\less H[gu n H i]! x then .next (((gu n H i:Nat):Int),u,us,fr,(H.set i H[gu n H i]!).set (gu n H i) x,(W.set (H[gu n H i]!).n (i:Int)).set x.n ((gu n H i:Nat):Int)) else .done ((u,us,fr,H.set i x,W.set x.n (i:Int)))):=by
   have k1:=tB (show i<1000000000 by omega);unfold jb
   by_cases h1:2*i+1<n
   · have e1:aeN ((n:Int)<=((2*i+1:Nat):Int))=aeM:=decide_eq_false (by omega)
     have e2:aa .i64 (((2*i+1:Nat):Int)+1)=((2*i+2:Nat):Int):=ba (by omega);obtain ⟨CY,a1,a2⟩:=c.ev (2*i+1) h1;have g0:aH ((H.set i x)) (i:Int)=aeJ x:=by rw [au _ _ (by rw [v6];omega),cell,rc rfl]
     have g1:aH ((H.set i x)) ((2*i+1:Nat):Int)=aeJ H[2*i+1]!:=by rw [au _ _ (by rw [v6];omega),cell,ut (by omega)]
     have s1:=Bc (u:=u) (us:=us) (fr:=fr) (x:=x) hi h1 (by omega) OA.symm x0 x1 a1 a2;simp only [aA,k1,Ta,OA,e1,e2,pp,g0,g1,aj,mf CY hx,s1,v6,l1,l2,l3,l4,l5,beq_self_eq_true,lw]
     by_cases h2:2*i+2<n
     · have e3:aeN (((2*i+2:Nat):Int)<(n:Int))=aeL:=decide_eq_true (by omega)
       obtain ⟨S9,b1,b2⟩:=c.ev (2*i+2) h2;have g2:aH ((H.set i x)) ((2*i+2:Nat):Int)=aeJ H[2*i+2]!:=by rw [au _ _ (by rw [v6];omega),cell,ut (by omega)]
       have s2:=Bc (u:=u) (us:=us) (fr:=fr) (x:=x) hi h2 (by omega) OA.symm x0 x1 b1 b2;simp only [e3,lw,g2,aj,s2,mf S9 hx,mf S9 CY]
       by_cases h3:less H[2*i+2]! H[2*i+1]!
       · have k:gu n H i=2*i+2:=by unfold gu;rw [rc ⟨h2,h3⟩]
         rw [k]
         by_cases h4:less H[2*i+2]! x
         · simp only [h1,h3,h4,decide_true,lw,pp,M2,and_self,if_true]
         simp only [h1,h3,h4,decide_true,decide_false,lw,IR,and_false,if_false]
       have k:gu n H i=2*i+1:=by unfold gu;rw [ut (fun h=>h3 h.2)]
       rw [k]
       by_cases h4:less H[2*i+1]! x
       · simp only [h1,h3,h4,decide_true,decide_false,pp,M2,and_self,if_true]
       simp only [h1,h3,h4,decide_false,lw,pp,IR,and_false,if_false]
     have e3:aeN (((2*i+2:Nat):Int)<(n:Int))=aeM:=decide_eq_false (by omega)
     have k:gu n H i=2*i+1:=by unfold gu;rw [ut (fun h=>h2 h.1)]
     rw [k];simp only [e3,pp]
     by_cases h4:less H[2*i+1]! x
     · simp only [h1,h4,decide_true,pp,M2,and_self,if_true]
     simp only [h1,h4,decide_false,lw,IR,and_false,if_false]
   have e1:aeN ((n:Int)<=((2*i+1:Nat):Int))=aeL:=decide_eq_true (by omega)
   rw [ut (fun h=>h1 h.1)];simp only [aA,k1,Ta,OA,e1,lw,v6,l1,l2,l3,l4,l5,beq_self_eq_true]
  by_cases h:2*i+1<n/\less H[gu n H i]! x
  · rw [rc h] at body
    have kc:=mN n H i;have kn:gu n H i<n:=by omega
    rw [aV body,KM hx x0 l3 l4 l5 d (gu n H i) _ _ (by omega) (c.move hi kn _ _) kn (by rw [v6];exact OA) (by rw [v6];exact x1) (by rw [v6];exact l1) (by rw [v6];exact l2)];have e:dC n x i H W=dC n x (gu n H i) (H.set i H[gu n H i]!) (W.set (H[gu n H i]!).n (i:Int)):=by rw [dC,dif_pos h.1,rc h.2]
    rw [e]
  rw [ut h] at body
  rw [aC body];have e:dC n x i H W=(i,H,W):=by
   rw [dC];split
   · rename_i h1;rw [ut (fun k=>h ⟨h1,k⟩)]
   rfl
  rw [e]
theorem Tc {n:Nat} {H:List Ev} {W:List Int} {x:Ev} {u fr:List Int} {us:List Bool} {i k:Nat} (hi:i<n) (hk:k<n) (Jb:k≠i) (hn:n=aeI H) (x0:0<=x.ix) (x1:x.ix<aeI W) (k0:0<=(H[k]!).ix) (k1:(H[k]!).ix<aeI W):
 ox (u,us,fr,(i:Int),(k:Int),H.set i x,W.set x.n (i:Int))=aeJ ((H.set i H[k]!).set k x,(W.set (H[k]!).n (i:Int)).set x.n (k:Int)):=by
 have cell: ∀w,(H.set i x)[w]! =if w=i then x else H[w]!:=by
  intro w;rw [aT]
  by_cases e:w=i
  · rw [rc ⟨e,by omega⟩,rc e]
  rw [ut (fun k=>e k.1),ut e]
 have sh:((H.set i x).set i H[k]!).set k x=(H.set i H[k]!).set k x:=by rw [aah]
 have sw:((W.set x.n (i:Int)).set (H[k]!).n (i:Int)).set x.n (k:Int)=(W.set (H[k]!).n (i:Int)).set x.n (k:Int):=by
  by_cases e:x.n=(H[k]!).n
  · simp only [e,aah]
  rw [aes _ _ (fun h=>e h),aah]
 have g1:aH ((H.set i x)) (k:Int)=aeJ H[k]!:=by rw [au _ _ (by rw [v6];omega),cell,ut Jb]
 have g2:aH ((H.set i x)) (i:Int)=aeJ x:=by rw [au _ _ (by rw [v6];omega),cell,rc rfl]
 have g3:aH (((H.set i x).set i H[k]!)) (k:Int)=aeJ H[k]!:=by rw [au _ _ (by rw [v6,v6];omega),aT,ut (fun h=>Jb h.1),cell,ut Jb]
 have g4:aH (((H.set i H[k]!).set k x)) (i:Int)=aeJ H[k]!:=by rw [au _ _ (by rw [v6,v6];omega),aT,ut (fun h=>Jb h.1.symm),aT,rc ⟨rfl,by omega⟩]
 have g5:aH (((H.set i H[k]!).set k x)) (k:Int)=aeJ x:=by rw [au _ _ (by rw [v6,v6];omega),aT,rc ⟨rfl,by rw [v6];omega⟩]
 have w6:=eG (l:=W.set x.n (i:Int)) k0 (by rw [v6];exact k1);have w7:=eG (l:=(W.set x.n (i:Int)).set (H[k]!).n (i:Int)) x0 (by rw [v6,v6];exact x1);have q1: ∀(l:List Int) (a:Int) (y:Ev),bU l y.2.2.2.1 a=l.set y.n a:=fun _ _ _=>rfl
 unfold ox;simp only [lW,g1,g2,g3,aj,sh,g4,g5,q1,w6,w7,sw,v6,beq_self_eq_true,lw]
theorem Td {c0:List Int×List Bool×List Int×Int×List Ev×List Int} {n:Nat} {u fr:List Int} {us:List Bool} {x:Ev} (hx:oC x) (x0:0<=x.ix):
 ∀(i:Nat) (H:List Ev) (W:List Int),lf n H W->i<n->aeI H=n->x.ix<aeI W->aeI c0.2.2.2.2.1=aeI H->aeI c0.2.2.2.2.2=aeI W->
  ar (gm c0) ((i:Int),H.set i x,W.set x.n (i:Int),u,us,fr)=aeJ (((ie x i H W).1:Int),(ie x i H W).2.1.set (ie x i H W).1 x,(ie x i H W).2.2.set x.n ((ie x i H W).1:Int))
 |0,H,W,c,hi,OA,x1,l1,l2=>by
  have P0:=c.hn;refine aC ?_;unfold gm;have e1:aeN ((0:Int)<((0:Nat):Int))=aeM:=by simp
  rw [ie];simp only [e1,pp,v6,l1,l2,beq_self_eq_true,lw]
 |i+1,H,W,c,hi,OA,x1,l1,l2=>by
  have hb:=c.hb;have P0:=c.hn;have e1:aeN ((0:Int)<((i+1:Nat):Int))=aeL:=decide_eq_true (by omega);have hp:i / 2<n:=by omega
  have dK:i / 2≠i+1:=by omega
  obtain ⟨CY,a1,a2⟩:=c.ev (i / 2) hp;have cell: ∀w,(H.set (i+1) x)[w]! =if w=i+1 then x else H[w]!:=by
   intro w;rw [aT]
   by_cases e:w=i+1
   · rw [rc ⟨e,by omega⟩,rc e]
   rw [ut (fun k=>e k.1),ut e]
  have g0:aH ((H.set (i+1) x)) ((i+1:Nat):Int)=aeJ x:=by rw [au _ _ (by rw [v6];omega),cell,rc rfl]
  have g1:aH ((H.set (i+1) x)) ((i / 2:Nat):Int)=aeJ H[i / 2]!:=by rw [au _ _ (by rw [v6];omega),cell,ut dK]
  by_cases h:less x H[i / 2]!
  · have sw:=Tc (u:=u) (us:=us) (fr:=fr) (x:=x) hi hp dK OA.symm x0 x1 a1 a2
    have r:gm c0 (((i+1:Nat):Int),H.set (i+1) x,W.set x.n ((i+1:Nat):Int),u,us,fr)=aeJ (.next (((i / 2:Nat):Int),(H.set (i+1) H[i / 2]!).set (i / 2) x,(W.set (H[i / 2]!).n ((i+1:Nat):Int)).set x.n ((i / 2:Nat):Int),u,us,fr)):=by unfold gm;simp only [e1,lw,rl (show i<1000000000 by omega),g0,g1,aj,mf hx CY,h,decide_true,sw]
    rw [aV r,Td hx x0 (i / 2) _ _ (c.move hi hp _ _) hp (by rw [v6];exact OA) (by rw [v6];exact x1) (by rw [v6];exact l1) (by rw [v6];exact l2)];have e:ie x (i+1) H W=ie x (i / 2) (H.set (i+1) H[i / 2]!) (W.set (H[i / 2]!).n ((i+1:Nat):Int)):=by rw [ie,rc h]
    rw [e]
  refine aC ?_
  unfold gm;have e:ie x (i+1) H W=(i+1,H,W):=by rw [ie,ut h]
  rw [e];simp only [e1,lw,rl (show i<1000000000 by omega),g0,g1,aj,mf hx CY,h,decide_false,pp,v6,l1,l2,beq_self_eq_true]
termination_by i=>i
decreasing_by omega
theorem aE {p:Prop} [Decidable p] (h: ¬p):decide p=aeM:=decide_eq_false h
theorem aG {p:Prop} [Decidable p] (h:p):decide p=aeL:=decide_eq_true h
theorem KN {α:Type} {n:Nat} (z:α) (h:n<=1048576):sd (n:Int) z=aeJ (List.replicate n z):=by unfold sd;rw [rc ⟨by omega,by omega⟩];simp
structure zf (a:aF):Prop where
 fr:(aeI a.ai.bi)<=1000000
 hp:(aeI a.bv)<=1000000
 wh:(aeI a.aq)<=1000000
 Te: ∀w,w<aeI a.bv->nQ ((a.bv[w]!).1,(a.bv[w]!).2.1)
structure fu (a:aF):Prop where
 so:fF a.ai
 wl:(aeI a.aq)=aeI a.ai.aD
 hl:(aeI a.bv)+aeI a.ai.bi=aeI a.ai.aD
 fwd: ∀i,i<aeI a.ai.aD->a.ai.be[i]! =aeL->0<=a.aq[i]!/\a.aq[i]!<aeI a.bv/\(Ev.ix a.bv[(a.aq[i]!).toNat]!)=i/\(a.bv[(a.aq[i]!).toNat]!).2.2.2.2=a.ai.aD[i]!
 un: ∀i,i<aeI a.ai.aD->a.ai.be[i]! =aeM->a.aq[i]! = -1
 ev: ∀w,w<aeI a.bv->oC a.bv[w]!
 nd: ∀v w,v<w->w<aeI a.bv->(Ev.num a.bv[v]!)≠(Ev.num a.bv[w]!)
 ord: ∀k,0<k->k<aeI a.bv-> ¬less a.bv[k]! a.bv[(k-1) / 2]!
theorem cover: ∀(n:Nat) (l:List Nat),(∀x,x<n->x∈l)->n<=aeI l
 |0,_,_=>Nat.zero_le _
 |n+1,l,h=>by have hn:=h n (by omega);have:=cover n (l.erase n) (fun x hx=>by rw [List.mem_erase_of_ne (by omega)];exact h x (by omega));rw [List.length_erase_of_mem hn] at this;have:=List.length_pos_of_mem hn;omega
def Hc (s:aS):List Nat:=(List.range (aeI s.aD)).filter fun i=>s.be[i]!
theorem yE {s:aS} {i:Nat}:i∈Hc s↔i<aeI s.aD/\s.be[i]! =aeL:=by unfold Hc;rw [aeB,List.mem_range]
theorem yF {α β:Type} {f:α->β}: ∀{l:List α},l.Nodup->(∀x∈l,∀y∈l,f x=f y->x=y)->(l.map f).Nodup
 | [],_,_=>by simp
 |a::l,h,hf=>by rw [aaG] at h;rw [List.map_cons,aaG];refine ⟨?_,yF h.2 fun x hx y hy=>hf x (by simp [hx]) y (by simp [hy])⟩;intro hm;obtain ⟨b,hb,e⟩:=aau.1 hm;have:=hf b (by simp [hb]) a (by simp) e;subst this;exact h.1 hb
theorem fu.back {a:aF} (ok:fu a) {w:Nat} (hw:w<aeI a.bv):0<=(Ev.ix a.bv[w]!)/\(Ev.ix a.bv[w]!)<aeI a.ai.aD/\a.ai.be[(Ev.n a.bv[w]!)]! =aeL/\a.ai.aD[(Ev.n a.bv[w]!)]! =(a.bv[w]!).2.2.2.2/\a.aq[(Ev.n a.bv[w]!)]! =(w:Int):=by
 have so:=ok.so;have len:(aeI a.ai.aD)<=(Hc a.ai).length+(aeI a.ai.bi):=by
  have:=cover (aeI a.ai.aD) (Hc a.ai++a.ai.bi.map aeG) (fun x hx=>by
   rw [aeb]
   by_cases hu:a.ai.be[x]! =aeL
   · exact .inl (yE.2 ⟨hx,hu⟩)
   right
   have:=so.uf x hx;have hm:(x:Int)∈a.ai.bi:=NE fun hc=>hu (this.2 hc)
   exact aau.2 ⟨_,hm,by omega⟩)
  rw [List.length_append,aaS] at this;exact this
 have f0: ∀i∈Hc a.ai,0<=a.aq[i]!/\a.aq[i]!<aeI a.bv/\(Ev.ix a.bv[(a.aq[i]!).toNat]!)=i/\(a.bv[(a.aq[i]!).toNat]!).2.2.2.2=a.ai.aD[i]!:=fun i hi=>ok.fwd i (yE.1 hi).1 (yE.1 hi).2
 have full:=CW (n:=aeI a.bv) (l:=(Hc a.ai).map fun i=>(a.aq[i]!).toNat) (by
  refine yF ?_ ?_
  · exact List.Pairwise.filter _ List.nodup_range
  · intro x hx y hy he
    have h1:=(f0 x hx).2.2.1;have h2:=(f0 y hy).2.2.1;rw [he] at h1;omega) (by
  intro x hx;obtain ⟨i,hi,rfl⟩:=aau.1 hx;have:=f0 i hi;omega) (by
  rw [aaS];have:=ok.hl;omega) w hw
 obtain ⟨i,hi,e⟩:=aau.1 full;obtain ⟨c1,c2,c3,c4⟩:=f0 i hi;obtain ⟨d1,d2⟩:=yE.1 hi;rw [e] at c3 c4;have hn:(Ev.n a.bv[w]!)=i:=by show ((Ev.ix a.bv[w]!)).toNat=i;omega
 rw [hn];refine ⟨by omega,by omega,d2,c4.symm,by omega⟩
noncomputable def P1 (x y:Ev):Int:=if bS (x.1,x.2.1)/\bS (y.1,y.2.1) then Fi x y else iV x.2.2.1 y.2.2.1
theorem z6 {x y:Ev} (hx:nQ (x.1,x.2.1)) (hy:nQ (y.1,y.2.1)):ck x y=aeJ (P1 x y):=by
 unfold ck P1 Fi;rw [S0 hx hy]
 by_cases h:bS (x.1,x.2.1)/\bS (y.1,y.2.1)
 · rw [rc h,rc h]
   simp only [aj,jr,yB]
 rw [ut h,ut h]
 simp only [aj,jr,yB];simp
def P2 (a:aF) (i:Nat):Prop:=(a.ai.be[i]! =aeL->0<=a.aq[i]!/\a.aq[i]!<aeI a.bv/\(Ev.ix a.bv[(a.aq[i]!).toNat]!)=i/\(a.bv[(a.aq[i]!).toNat]!).2.2.2.2=a.ai.aD[i]!)/\(a.ai.be[i]! =aeM->a.aq[i]! = -1)
def Gj (H:List Ev) (k:Nat):Prop:=bS ((H[k]!).1,(H[k]!).2.1)/\0<=(H[k]!).2.2.1/\(H[k]!).2.2.1<=1000000/\(∀j,j<k->(H[j]!).2.2.1≠(H[k]!).2.2.1)/\(0<k-> ¬P1 H[k]! H[(k-1) / 2]!<0)
theorem fu.of {a:aF} (fit:zf a) (so:fF a.ai) (wl:(aeI a.aq)=aeI a.ai.aD) (hl:(aeI a.bv)+aeI a.ai.bi=aeI a.ai.aD) (wh: ∀i,i<aeI a.ai.aD->P2 a i) (hp: ∀k,k<aeI a.bv->Gj a.bv k):fu a:=by
 have ev: ∀w,w<aeI a.bv->oC a.bv[w]!:=fun w hw=>⟨(hp w hw).1,fit.Te w hw,(hp w hw).2.1,(hp w hw).2.2.1⟩
 refine ⟨so,wl,hl,fun i hi=>(wh i hi).1,fun i hi=>(wh i hi).2,ev,fun v w hv hw=>(hp w hw).2.2.2.1 v hv,fun k k0 hk=>?_⟩;have:=(hp k hk).2.2.2.2 k0;unfold P1 at this;rw [rc ⟨(hp k hk).1,(hp ((k-1) / 2) (by omega)).1⟩,Dz] at this;exact this
theorem fu.to {a:aF} (ok:fu a):(∀i,i<aeI a.ai.aD->P2 a i)/\(∀k,k<aeI a.bv->Gj a.bv k):=by refine ⟨fun i hi=>⟨ok.fwd i hi,ok.un i hi⟩,fun k hk=>?_⟩;have e:=ok.ev k hk;refine ⟨e.1,e.2.2.1,e.2.2.2,fun j hj=>ok.nd j k hj hk,fun k0=>?_⟩;unfold P1;rw [rc ⟨e.1,(ok.ev ((k-1) / 2) (by omega)).1⟩,Dz];exact ok.ord k k0 hk
theorem Hd (H:List Ev) (k:Nat) (n:Int):ng [n] ((H.take k).map fun x=>[x.2.2.1])=aeL:=by unfold ng;rw [List.all_eq_true];intro x hx;obtain ⟨y,hy,rfl⟩:=aau.1 hx;rfl
theorem He (H:List Ev) (k:Nat) (n:Int):C9 ((H.take k).map fun x=>[x.2.2.1]) [n]=aeN (∃j,j<k/\j<aeI H/\(H[j]!).2.2.1=n):=by
 unfold C9;rw [Bool.eq_iff_iff,List.any_eq_true,decide_eq_true_iff];constructor
 · rintro ⟨x,hx,he⟩
   obtain ⟨y,hy,rfl⟩:=aau.1 hx;obtain ⟨j,h1,h2,rfl⟩:=cC.1 hy;have:[n]=[(H[j]!).2.2.1]:=by simpa using he
   exact ⟨j,h1,h2,by injection this with h;exact h.symm⟩
 rintro ⟨j,h1,h2,h3⟩
 refine ⟨[(H[j]!).2.2.1],aau.2 ⟨H[j]!,cC.2 ⟨j,h1,h2,rfl⟩,rfl⟩,?_⟩;rw [h3];simp
theorem IP (H:List Ev) (u fr W:List Int) (us:List Bool) (hl:(aeI H)<=1000000) (rq: ∀w,w<aeI H->nQ ((H[w]!).1,(H[w]!).2.1)):
 ((∀k,k<aeI H->Gj H k)->ar ir (H,((aeI H):Int),0,u,us,fr,H,W,[])=aeJ (.done 0))/\(¬(∀k,k<aeI H->Gj H k)->ar ir (H,((aeI H):Int),0,u,us,fr,H,W,[])=aeJ (.done 8)):=by
 have key:=ff (body:=ir) (fun k=>(H,((aeI H):Int),(k:Int),u,us,fr,H,W,(H.take k).map fun x=>[x.2.2.1])) (aeI H) (fun k=> ¬Gj H k) (r:= .done 8) (e:= .done 0) (fun k hk=>by
  have e1:aeN ((k:Int)<((aeI H):Int))=aeL:=aG (by omega);have ins: ∀n:Int,¬(∃j,j<k/\j<aeI H/\(H[j]!).2.2.1=n)->J1 ((H.take k).map fun x=>[x.2.2.1]) [n]=aeJ (((H.take k).map fun x=>[x.2.2.1])++[[n]]):=by intro n hn;unfold J1 Mb;rw [Hd,He,aE hn];rfl
  have has: ∀n:Int,J0 ((H.take k).map fun x=>[x.2.2.1]) [n]=aeJ (aeN (∃j,j<k/\j<aeI H/\(H[j]!).2.2.1=n)):=by intro n;unfold J0;rw [Hd,He];rfl
  have nx:(H.take (k+1)).map (fun x=>[x.2.2.1])=((H.take k).map fun x=>[x.2.2.1])++[[(H[k]!).2.2.1]]:=by rw [fE hk,List.map_append];rfl
  unfold ir;simp only [e1,lw,au H k hk,aj,eH (rq k hk),ba (show k<1000000000 by omega),has,nx];unfold Gj
  by_cases b1:bS ((H[k]!).1,(H[k]!).2.1)
  case neg=>rw [ut b1];exact ⟨fun _=>rfl,fun h=>absurd (AC.1 h).1 b1⟩
  rw [rc b1]
  by_cases b2:(H[k]!).2.2.1<0
  · rw [aG b2]
    exact ⟨fun _=>rfl,fun h=>absurd (AC.1 h).2.1 (by omega)⟩
  by_cases b3:1000000<(H[k]!).2.2.1
  · rw [aE b2,aG b3]
    exact ⟨fun _=>rfl,fun h=>absurd (AC.1 h).2.2.1 (by omega)⟩
  rw [aE b2,aE b3]
  by_cases b4: ∃j,j<k/\j<aeI H/\(H[j]!).2.2.1=(H[k]!).2.2.1
  · rw [aG b4]
    refine ⟨fun _=>rfl,fun h=>?_⟩;obtain ⟨j,j1,j2,j3⟩:=b4;exact absurd j3 ((AC.1 h).2.2.2.1 j j1)
  rw [aE b4,ins _ b4];have b4': ∀j,j<k->(H[j]!).2.2.1≠(H[k]!).2.2.1:=fun j hj he=>b4 ⟨j,hj,by omega,he⟩
  simp only [show ((0:Int) !=0)=aeM from rfl,pp,aj]
  by_cases b5:0<k
  · obtain ⟨m,rfl⟩: ∃m,k=m+1:=⟨k-1,by omega⟩
    have f1:aeN ((0:Int)<((m+1:Nat):Int))=aeL:=aG (by omega);simp only [f1,lw,rl (show m<1000000000 by omega),au H (m / 2) (by omega),aj,z6 (rq (m+1) hk) (rq (m / 2) (by omega)),show (m+1-1) / 2=m / 2 by omega]
    by_cases b6:P1 H[m+1]! H[m / 2]!<0
    · rw [aG b6]
      exact ⟨fun _=>rfl,fun h=>absurd b6 ((AC.1 h).2.2.2.2 (by omega))⟩
    rw [aE b6]
    exact ⟨fun h=>absurd ⟨b1,by omega,by omega,b4',fun _=>b6⟩ h,fun _=>rfl⟩
  · have f1:aeN ((0:Int)<(k:Int))=aeM:=aE (by omega)
    rw [f1];exact ⟨fun h=>absurd ⟨b1,by omega,by omega,b4',fun h=>absurd h b5⟩ h,fun _=>rfl⟩) (by
  unfold ir;have:aeN (((aeI H):Int)<((aeI H):Int))=aeM:=aE (by omega);simp only [this,pp])
 constructor
 · intro h
   exact key.2 fun i hi=>AC.2 (h i hi)
 intro h
 obtain ⟨i,h⟩:=PP.1 h;obtain ⟨hi,hx⟩:=ae6.1 h;exact key.1 ⟨i,hi,hx⟩
end Go.Proofs.YtclphlgnjkajbaaGreat
