/- Plain laws (1). -/
import Derived.Test.YtbgoiokedpjgbaaGreatBVm3
import Derived.Test.YtbgoiokedpjgbaaGreatBVm1
import Derived.Test.YtbgoiokedpjgbaaGreatBQS2
open List renaming length_set->ut,replicate->ww,length_replicate->PP,set_set->UV,mem_map->adc,mem_of_mem_take->ae9,length_take->af2,nodup_cons->afb,length_map->afc,mem_singleton->afm,getElem?_eq_getElem->afI,mem_append->afR,set_comm->agb,length_cons->agt,take_length->agx,mem_filter->agM,mem_cons->aig,length->akt
open Classical renaming not_not->v6,not_forall->F0s,byContradiction->M2,not_imp->af7
open Option.some renaming injEq->AC
open Nat renaming gcd->Do,gcd_comm->af6,gcd_dvd_right->afF,gcd_pos_of_pos_right->afK,le_refl->afS,mul_div_cancel'->aga,gcd_zero_right->agd,gcd_dvd_left->agr,strongRecOn->agG,div_le_self->agH,le_trans->aks
open Bool renaming not_false->EQ,not_true->If,not_eq_true->afQ,or_eq_false_iff->afV,false_or->agc,false_eq_true->agj,true->alt,false->am1
open Int renaming ofNat->IR,mul_le_mul_of_nonneg_right->NE,mul_neg_of_neg_of_pos->af4,eq_ofNat_of_zero_le->af5,neg_mul->afa,mul_comm->aff,mul_lt_mul_of_pos_right->afg,tdiv->afh,fdiv_eq_ediv_of_nonneg->afi,mul_le_mul->afj,tdiv_eq_ediv_of_nonneg->afk,lt_of_mul_lt_mul_right->afo,lt_trichotomy->afE,mul_nonneg->afU,natCast_mul->agJ,ofNat_tmod->agO,ofNat_tdiv->agS,mul_assoc->agX,toNat->akr
open Prod.mk renaming injEq->acl
open Option renaming some->aku
open Decidable renaming decide->am6
namespace Go.Vm
instance lpN:LP:=⟨none⟩
section
variable {σ ρ : Type}
theorem aY {body:σ->Option (Step σ ρ)} {x:σ} {r:ρ}:az body x=aku r↔ ∃n,qz body n x=aku r:=Du
theorem ba {body:σ->Option (Step σ ρ)} {x y:σ} (h:body x=aku (.next y)):az body x=az body y:=by
 apply Option.ext;intro r;rw [aY,aY];constructor
 · rintro ⟨n,hn⟩
   cases n with
   |zero=>cases hn
   |succ n=>simp only [qz,h] at hn;exact ⟨n,hn⟩
 rintro ⟨n,hn⟩
 exact ⟨n+1,by simp only [qz,h];exact hn⟩
theorem aH {body:σ->Option (Step σ ρ)} {x:σ} {r:ρ} (h:body x=aku (.done r)):az body x=aku r:=
 aY.2 ⟨1,by simp only [qz,h]⟩
end
end Go.Vm
namespace Go.Proofs.YtbgoiokedpjgbaaGreat
open Go.Vm
structure qO where
 jp:aP
 bv:List Int
noncomputable def oJ (s:((List Int)×Int×(List (Int×Int)))):Option (Step ((List Int)×Int×(List (Int×Int))) (List (Int×Int))):=
 bif am6 (s.2.1<(IR (akt s.1))) then
  (aI s.1 s.2.1).bind fun n0=>
  (aI s.1 (aa .i64 (afh (aa .i64 (s.2.1-1)) 2))).bind fun n1=>
  (bq s.2.2 [(n0,n1)]).bind fun l2=>
  aku (.next (s.1,aa .i64 (s.2.1+1),l2))
 else
  aku (.done s.2.2)
noncomputable def DJ (p0:List Int):Option (List (Int×Int)):=
 az oJ (p0,1,[])
noncomputable def Mz (s:((List Int)×Int×(List (Int×Int)))):Option (Step ((List Int)×Int×(List (Int×Int))) (List (Int×Int))):=
 bif am6 (s.2.1<(IR (akt s.1))) then
  (aI s.1 s.2.1).bind fun n0=>
  (aI s.1 (aa .i64 (afh (aa .i64 (s.2.1-1)) 2))).bind fun n1=>
  (bq s.2.2 [(n0,n1)]).bind fun l2=>
  aku (.next (s.1,aa .i64 (s.2.1+1),l2))
 else
  aku (.done s.2.2)
noncomputable def MA (p0:List Int):Option (List (Int×Int)):=
 az Mz (p0,1,[])
noncomputable def oK (s:(Int×Int×Int×Int×(List (Int×Int×Int))×Int×(List (Int×Int×Int))×(List Int)×(List Bool)×(List Int)×(List (Int×Int×Int×Int×Int))×(List Int)×(List (Int×Int×Int))×(List Int))):Option (Step (Int×Int×Int×Int×(List (Int×Int×Int))×Int×(List (Int×Int×Int))×(List Int)×(List Bool)×(List Int)×(List (Int×Int×Int×Int×Int))×(List Int)×(List (Int×Int×Int))×(List Int)) (Step (Int×Int×Int×(List (Int×Int×Int))×Int×(List (Int×Int×Int))×(List Int)×(List Bool)×(List Int)×(List (Int×Int×Int×Int×Int))×(List Int)×(List (Int×Int×Int))×(List Int)) Int)):=
 bif am6 (s.2.1<s.1) then
  (aI s.2.2.2.2.2.2.2.2.2.2.2.2.2 s.2.1).bind fun n0=>
  (aI s.2.2.2.2.2.2.2.2.2.2.2.2.2 s.1).bind fun n1=>
  bif n0==n1 then
   aku (.done (.done 8))
  else
   aku (.next (s.1,aa .i64 (s.2.1+1),s.2.2))
 else
  aku (.done (.next (aa .i64 (s.1+1),s.2.2)))
noncomputable def iC (s:(Int×Int×Int×(List (Int×Int×Int))×Int×(List (Int×Int×Int))×(List Int)×(List Bool)×(List Int)×(List (Int×Int×Int×Int×Int))×(List Int)×(List (Int×Int×Int))×(List Int))):Option (Step (Int×Int×Int×(List (Int×Int×Int))×Int×(List (Int×Int×Int))×(List Int)×(List Bool)×(List Int)×(List (Int×Int×Int×Int×Int))×(List Int)×(List (Int×Int×Int))×(List Int)) Int):=
 bif am6 (s.1<(IR (akt s.2.2.2.2.2.2.2.2.2.2.2.2))) then
  (aI s.2.2.2.2.2.2.2.2.2.2.2.2 s.1).bind fun n0=>
  (eS (Field.mk s.2.2.2.1) n0).bind fun n1=>
  bif am6 (n1<0) then
   aku (.done 8)
  else
   az oK (s.1,0,s.2)
 else
  (MA s.2.2.2.2.2.2.2.2.2.2.2.2).bind fun l2=>
  (sU (aP.mk (s.2.1,s.2.2.1) (Field.mk s.2.2.2.1) (bC.mk s.2.2.2.2.1 s.2.2.2.2.2.1) (aK.mk (bc.mk s.2.2.2.2.2.2.1 s.2.2.2.2.2.2.2.1 s.2.2.2.2.2.2.2.2.1) s.2.2.2.2.2.2.2.2.2.1 s.2.2.2.2.2.2.2.2.2.2.1) s.2.2.2.2.2.2.2.2.2.2.2.1) l2).bind fun b3=>
  bif !b3 then
   aku (.done 8)
  else
   aku (.done 0)
noncomputable def ym (p0:qO):Option Int:=
 (qM p0.jp).bind fun n0=>
 bif n0 !=0 then
  aku 8
 else
  bif (IR (akt p0.bv)) !=(IR (akt p0.jp.ii.am)) then
   aku 8
  else
   az iC (0,p0.jp.ci.1,p0.jp.ci.2,p0.jp.ii.am,p0.jp.ai.aM,p0.jp.ai.ce,p0.jp.ae.af.aA,p0.jp.ae.af.be,p0.jp.ae.af.bi,p0.jp.ae.bv,p0.jp.ae.aq,p0.jp.io,p0.bv)
noncomputable def oL (s:((List Int)×Int×Int)):Option (Step ((List Int)×Int×Int) Int):=
 bif am6 (s.2.2<(IR (akt s.1))) then
  (aI s.1 s.2.2).bind fun n0=>
  bif n0==s.2.1 then
   aku (.done s.2.2)
  else
   aku (.next (s.1,s.2.1,aa .i64 (s.2.2+1)))
 else
  aku (.done (-1))
noncomputable def MB (p0:List Int) (p1:Int):Option Int:=
 az oL (p0,p1,0)
noncomputable def ib (s:(Int×Int×(List (Int×Int×Int))×(List (Int×Int×Int)))):Option (Step (Int×Int×(List (Int×Int×Int))×(List (Int×Int×Int))) Field):=
 bif am6 (s.2.1<(IR (akt s.2.2.1))) then
  (aI s.2.2.1 s.2.1).bind fun a0=>
  bif a0.1 !=s.1 then
   (aI s.2.2.1 s.2.1).bind fun a1=>
   (bq s.2.2.2 [a1]).bind fun l2=>
   aku (.next (s.1,aa .i64 (s.2.1+1),s.2.2.1,l2))
  else
   aku (.next (s.1,aa .i64 (s.2.1+1),s.2.2))
 else
  aku (.done (Field.mk s.2.2.2))
noncomputable def zZ (p0:Field) (p1:Int):Option Field:=
 az ib (p1,0,p0.am,[])
noncomputable def wL (p0:Field) (p1:Int):Option (Field×Int):=
 (eJ p0).bind fun n0=>
 bif n0 !=0 then
  aku (Field.mk [],n0)
 else
  (eS p0 p1).bind fun n1=>
  bif am6 (n1<0) then
   aku (Field.mk [],6)
  else
   (zZ p0 p1).bind fun r2=>
   aku (r2,0)
structure avD where
 lc:Int
 lm:List (Int×Int×Int)
structure C5 where
 jp:aP
 ls:avD
noncomputable def z6 (p0:Int×Int×Int) (p1:List (Int×Int)):Option Bool:=
 (ec p1 p0.2).bind fun b0=>
 aku (!b0)
noncomputable def bI (s:((List (Int×Int×Int))×(List (Int×Int))×Int×Int)):Option (Step ((List (Int×Int×Int))×(List (Int×Int))×Int×Int) Int):=
 bif am6 (s.2.2.2<s.2.2.1) then
  (aI s.1 s.2.2.2).bind fun a0=>
  (z6 a0 s.2.1).bind fun b1=>
  bif b1 then
   aku (.done s.2.2.2)
  else
   aku (.next (s.1,s.2.1,s.2.2.1,aa .i64 (s.2.2.2+1)))
 else
  aku (.done (-1))
noncomputable def gR (p0:List (Int×Int×Int)) (p1:(List (Int×Int))):Option Int:=
 az bI (p0,p1,IR (akt p0),0)
noncomputable def gi (p0:List (Int×Int×Int)) (p1:(List (Int×Int))):Option Bool:=
 (gR p0 p1).bind fun n0=>
 aku (am6 (0<=n0))
noncomputable def yn (p0:aP) (p1:List (Int×Int)):Option Bool:=
 bif (IR (akt p1))==(IR (akt p0.ai.ce)) then
  (gi p0.ai.ce p1).bind fun b0=>
  aku (!b0)
 else
  aku am1
noncomputable def ff (s:(Bool×Int×(List (Int×Int×Int))×Int×Int×Int×(List (Int×Int×Int)))):Option (Step (Bool×Int×(List (Int×Int×Int))×Int×Int×Int×(List (Int×Int×Int))) (Field×Int)):=
 match s with
 |(a,b,d,e,f,g,h)=>
  bif am6 (b<(IR (akt d))) then
   bif !a then
    (aI d b).bind fun a0=>
    bif am6 (e<a0.1) then
     (bq h [(e,f,g)]).bind fun l1=>
     (aI d b).bind fun a2=>
     (bq l1 [a2]).bind fun l3=>
     aku (.next (alt,aa .i64 (b+1),d,e,f,g,l3))
    else
     (aI d b).bind fun a4=>
     (bq h [a4]).bind fun l5=>
     aku (.next (a,aa .i64 (b+1),d,e,f,g,l5))
   else
    (aI d b).bind fun a6=>
    (bq h [a6]).bind fun l7=>
    aku (.next (a,aa .i64 (b+1),d,e,f,g,l7))
  else
   bif !a then
    (bq h [(e,f,g)]).bind fun l8=>
    aku (.done (Field.mk l8,0))
   else
    aku (.done (Field.mk h,0))
noncomputable def si (p0:Field) (p1:Int×Int×Int):Option (Field×Int):=
 (eJ p0).bind fun n0=>
 bif n0 !=0 then
  aku (Field.mk [],n0)
 else
  (nE p1).bind fun n1=>
  bif n1 !=0 then
   aku (Field.mk [],8)
  else
   (eS p0 p1.1).bind fun n2=>
   bif am6 (0<=n2) then
    aku (Field.mk [],14)
   else
    bif (IR (akt p0.am))==64 then
     aku (Field.mk [],18)
    else
     az ff (am1,0,p0.am,p1.1,p1.2.1,p1.2.2,[])
noncomputable def mq (p0:Field) (p1:Int×Int×Int):Option (Field×Int):=
 (eJ p0).bind fun n0=>
 bif n0 !=0 then
  aku (Field.mk [],n0)
 else
  (nE p1).bind fun n1=>
  bif n1 !=0 then
   aku (Field.mk [],8)
  else
   (eS p0 p1.1).bind fun n2=>
   bif am6 (n2<0) then
    aku (Field.mk [],6)
   else
    (je p0).bind fun r3=>
    (aI r3.am n2).bind fun a4=>
    aku (Field.mk (bZ r3.am n2 p1),0)
noncomputable def mH (s:((List Int)×(List Int))):Option (Step ((List Int)×(List Int)) (Step ((List Int)×Int×Int×(List Int)) (List Int))):=
 bif am6 ((IR (akt s.2))<(aa .i64 (2*(IR (akt s.1))))) then
  (bq s.2 [-1]).bind fun l0=>
  aku (.next (s.1,l0))
 else
  aku (.done (.done s.2))
noncomputable def qf (s:((List Int)×Int×Int×(List Int))):Option (Step ((List Int)×Int×Int×(List Int)) (List Int)):=
 bif am6 (s.2.2.1<(IR (akt s.2.2.2))) then
  (aI s.2.2.2 s.2.2.1).bind fun n0=>
  bif am6 (n0<0) then
   (aI s.2.2.2 s.2.2.1).bind fun n1=>
   aku (.done (bZ s.2.2.2 s.2.2.1 s.2.1))
  else
   aku (.next (s.1,s.2.1,aa .i64 (s.2.2.1+1),s.2.2.2))
 else
  (bq s.2.2.2 [s.2.1]).bind fun l2=>
  az mH (s.1,l2)
noncomputable def Gc (p0:List Int) (p1:Int):Option (List Int):=
 (bP p0).bind fun l0=>
 az qf (p0,p1,0,l0)
abbrev wM (n:Int):Prop:= -9223372036854775808<=n/\n<9223372036854775808
abbrev VV (n:Int):Prop:=0<=n/\n<18446744073709551616
theorem wi (n:Int):aa .i64 n=(n+9223372036854775808)%18446744073709551616-9223372036854775808:=by
 rw [ss];simp only [IntKind.wrap,IntKind.bits,IntKind.signed,Bool.true_and];have e1:(2:Int)^64=18446744073709551616:=by decide
 have e2:(2:Int)^(64-1)=9223372036854775808:=by decide
 simp only [e1,e2,decide_eq_true_eq];split<;>omega
theorem wu (n:Int):aa .u64 n=n%18446744073709551616:=by
 rw [ss];simp only [IntKind.wrap,IntKind.bits,IntKind.signed,Bool.false_and];have e1:(2:Int)^64=18446744073709551616:=by decide
 simp only [e1];simp
theorem jb {n:Int} (h:wM n):aa .i64 n=n:=by rw [wi];omega
theorem cK {a b:Int} (h:a≠b):(a !=b)=alt:=by simpa using h
theorem bn {a b:Int} (h:a=b):(a !=b)=am1:=by simpa using h
theorem ei {a b:Int} (h:a=b):(a==b)=alt:=by simpa using h
theorem dO {a b:Int} (h:a≠b):(a==b)=am1:=by simpa using h
theorem Rb (a b:Int):(a==b)=am6 (a=b):=by
 by_cases h:a=b
 · rw [ei h,decide_eq_true h]
 rw [dO h,decide_eq_false h]
theorem lt_or_ge (a b:Int):a<b\/b<=a:=by omega
theorem amT (a:Int):nR .u64 a 32=a / 4294967296:=by
 unfold nR;rw [show (min (32:Int).toNat (IntKind.bits .u64))=32 from by decide,show (2:Int)^32=4294967296 from by decide]
 exact afi _ (by decide)
theorem O3 {a:Int} (h:VV a):Az .u64 a 4294967295=a%4294967296:=by
 obtain ⟨n,rfl⟩:=af5 h.1;unfold Az;have e:(BitVec.ofInt (IntKind.bits .u64) (n:Int)&&&BitVec.ofInt (IntKind.bits .u64) 4294967295).toNat=n%4294967296:=by
  rw [BitVec.toNat_and];have e1:(BitVec.ofInt (IntKind.bits .u64) (n:Int)).toNat=n:=by
   rw [BitVec.toNat_ofInt]
   have:((2^(IntKind.bits .u64):Nat):Int)=18446744073709551616:=by decide
   rw [this];omega
  have e2:(BitVec.ofInt (IntKind.bits .u64) (4294967295:Int)).toNat=2^32-1:=by decide
  rw [e1,e2,Nat.and_two_pow_sub_one_eq_mod]
 rw [e]
 have:=wu ((n%4294967296:Nat):Int)
 rw [ss] at this;rw [this];omega
theorem aeB {a b:Nat} (ha:a<1000000000) (hb:b<1000000000):aa .i64 (nR .u64 (aa .u64 (aa .i64 ((a:Int)+(b:Int)))) 1)=(((a+b) / 2:Nat):Int):=by
 unfold nR;rw [show (min (1:Int).toNat (IntKind.bits .u64))=1 from by decide,show (2:Int)^1=2 from by decide,afi _ (by decide),wi (_+_),wu,wi]
 omega
section
variable {σ ρ : Type} {body : σ -> Option (Step σ ρ)}
theorem bF (st:Nat->σ) (n:Nat) (h: ∀i,i<n->body (st i)=aku (.next (st (i+1)))):az body (st 0)=az body (st n):=by
 induction n with
 |zero=>rfl
 |succ n ih=>
  rw [ih fun i hi=>h i (by omega)]
  exact ba (h n (by omega))
theorem dh (st:Nat->σ) (n:Nat) (c:Nat->Prop) {r e:ρ} (h: ∀i,i<n->(c i->body (st i)=aku (.done r))/\(¬c i->body (st i)=aku (.next (st (i+1)))))
 (VW:body (st n)=aku (.done e)):((∃i,i<n/\c i)->az body (st 0)=aku r)/\((∀i,i<n-> ¬c i)->az body (st 0)=aku e):=by
 constructor
 · rintro ⟨i,hi,hc⟩
   have key: ∀k,k<=n->(∃i,i<n/\n-k<=i/\c i)->az body (st (n-k))=aku r:=by
    intro k
    induction k with
    |zero=>rintro _ ⟨i,h1,h2,_⟩;omega
    |succ k ih=>
     rintro hk ⟨i,h1,h2,h3⟩
     by_cases hc:c (n- (k+1))
     · exact aH ((h _ (by omega)).1 hc)
     rw [ba ((h _ (by omega)).2 hc),show n- (k+1)+1=n-k by omega]
     refine ih (by omega) ⟨i,h1,?_,h3⟩
     by_cases he:i=n- (k+1)
     · subst he;exact absurd h3 hc
     omega
   have:=key n (afS n) ⟨i,hi,by omega,hc⟩
   rwa [Nat.sub_self] at this
 intro hn
 rw [bF st n fun i hi=>(h i hi).2 (hn i hi)]
 exact aH VW
theorem least {c:Nat->Prop}: ∀{n:Nat},(∃i,i<n/\c i)-> ∃k,k<n/\c k/\ ∀j,j<k-> ¬c j
 |0,h=>by obtain ⟨i,hi,_⟩:=h;omega
 |n+1,h=>by
  by_cases hx: ∃i,i<n/\c i
  · obtain ⟨k,h1,h2,h3⟩:=least hx
    exact ⟨k,by omega,h2,h3⟩
  obtain ⟨i,hi,hc⟩:=h
  refine ⟨i,hi,hc,fun j hj hcj=>hx ⟨j,by omega,hcj⟩⟩
theorem hO (st:Nat->σ) (n:Nat) (c:Nat->Prop) (r:Nat->ρ) {e:ρ} (h: ∀i,i<n->(c i->body (st i)=aku (.done (r i)))/\(¬c i->body (st i)=aku (.next (st (i+1)))))
 (VW:body (st n)=aku (.done e)):(∀k,k<n->c k->(∀j,j<k-> ¬c j)->az body (st 0)=aku (r k))/\((∀i,i<n-> ¬c i)->az body (st 0)=aku e):=by
 constructor
 · intro k hk hc hj
   rw [bF st k fun i hi=>(h i (by omega)).2 (hj i hi)]
   exact aH ((h k hk).1 hc)
 intro hn
 rw [bF st n fun i hi=>(h i hi).2 (hn i hi)]
 exact aH VW
theorem C6 (st:Nat->Nat->σ) (n m:Nat) (c:Nat->Prop)
 (h: ∀lo hi,lo<hi->hi<=n->(c ((lo+hi) / 2)->body (st lo hi)=aku (.next (st ((lo+hi) / 2+1) hi)))/\(¬c ((lo+hi) / 2)->body (st lo hi)=aku (.next (st lo ((lo+hi) / 2)))))
 (h1: ∀i,i<m->c i) (h2: ∀i,m<=i->i<n-> ¬c i): ∀d lo hi,hi-lo<=d->lo<=m->m<=hi->hi<=n->az body (st lo hi)=az body (st m m)
 |0,lo,hi,hd,a,b,_=>by
  have e1:lo=m:=by omega
  have e2:hi=m:=by omega
  rw [e1,e2]
 |d+1,lo,hi,hd,a,b,e=>by
  by_cases hl:lo<hi
  · by_cases hc:c ((lo+hi) / 2)
    · rw [ba ((h lo hi hl e).1 hc)]
      refine C6 st n m c h h1 h2 d _ _ (by omega) ?_ b e
      refine M2 fun hx=>?_
      exact h2 ((lo+hi) / 2) (by omega) (by omega) hc
    rw [ba ((h lo hi hl e).2 hc)]
    refine C6 st n m c h h1 h2 d _ _ (by omega) a ?_ (by omega)
    refine M2 fun hx=>?_
    exact hc (h1 ((lo+hi) / 2) (by omega))
  have e1:lo=m:=by omega
  have e2:hi=m:=by omega
  rw [e1,e2]
end
section
variable {α : Type} [Inhabited α]
theorem ar (l:List α) (n:Nat) (h:n<akt l):aI l (n:Int)=aku l[n]!:=by
 show l[n]? =aku l[n]!;rw [afI h,getElem!_pos l n h]
theorem dG {l:List α} {i:Int} (h0:0<=i) (h:i<akt l):aI l i=aku l[i.toNat]!:=by
 obtain ⟨n,rfl⟩:=af5 h0;exact ar l n (by omega)
theorem kM {β:Type} (l:List β) (n:Nat) (a:β):bZ l (n:Int) a=l.set n a:=rfl
theorem aU (l:List α) (n m:Nat) (a:α):(l.set n a)[m]! =if m=n/\n<(akt l) then a else l[m]!:=by
 by_cases hm:m<akt l
 · rw [getElem!_pos (l.set n a) m (by simpa using hm),getElem!_pos l m hm,List.getElem_set]
   split
   · rw [pp (by omega)]
   rw [rc (by omega)]
 rw [getElem!_neg (l.set n a) m (by simpa using hm),getElem!_neg l m hm]
 split
 · omega
 rfl
theorem aS {l:List α} {x:α}:x∈l↔ ∃i,i<akt l/\l[i]! =x:=by
 rw [List.mem_iff_getElem];constructor
 · rintro ⟨i,h,rfl⟩;exact ⟨i,h,getElem!_pos l i h⟩
 rintro ⟨i,h,rfl⟩;exact ⟨i,h,(getElem!_pos l i h).symm⟩
theorem aX {l:List α} {i:Nat} (h:i<akt l):l[i]!∈l:=aS.2 ⟨i,h,rfl⟩
theorem de {l m:List α} {i:Nat} (h:i<akt l):(l++m)[i]! =l[i]!:=by
 rw [getElem!_pos (l++m) i (by simp;omega),getElem!_pos l i h,List.getElem_append_left h]
theorem ej {l m:List α} {i:Nat} (h:(akt l)<=i):(l++m)[i]! =m[i-(akt l)]!:=by
 by_cases hi:i<akt l+akt m
 · rw [getElem!_pos (l++m) i (by simp;omega),getElem!_pos m (i-(akt l)) (by omega),List.getElem_append_right h]
 rw [getElem!_neg (l++m) i (by simp;omega),getElem!_neg m (i-(akt l)) (by omega)]
theorem iN {l:List α} {n i:Nat} (h:i<n):(l.take n)[i]! =l[i]!:=by
 by_cases hi:i<akt l
 · rw [getElem!_pos (l.take n) i (by simp;omega),getElem!_pos l i hi,List.getElem_take]
 rw [getElem!_neg (l.take n) i (by simp;omega),getElem!_neg l i hi]
theorem kX {l:List α} {n i:Nat}:(l.drop n)[i]! =l[n+i]!:=by
 by_cases hi:n+i<akt l
 · rw [getElem!_pos (l.drop n) i (by simp;omega),getElem!_pos l (n+i) hi,List.getElem_drop]
 rw [getElem!_neg (l.drop n) i (by simp;omega),getElem!_neg l (n+i) hi]
theorem qP {l m:List α} (hl:(akt l)=akt m) (h: ∀i,i<akt l->l[i]! =m[i]!):l=m:=by
 apply List.ext_getElem hl;intro i h1 h2
 have:=h i h1
 rwa [getElem!_pos l i h1,getElem!_pos m i h2] at this
theorem MC {l:List α} {i:Nat} (h:i<akt l):l=l.take i++l[i]!::l.drop (i+1):=by
 rw [getElem!_pos l i h,List.getElem_cons_drop,List.take_append_drop]
end
theorem aZ {α:Type} {l:List α} (h:(akt l)<=1048576):bP l=aku l:=by unfold bP;rw [pp h]
theorem bT {α:Type} {l m:List α} (h:(akt l)+akt m<=1048576):bq l m=aku (l++m):=by unfold bq;rw [pp h]
@[simp] theorem aj {α β:Type} (a:α) (f:α->Option β):(aku a).bind f=f a:=rfl
end Go.Proofs.YtbgoiokedpjgbaaGreat
namespace Go.Proofs.YtbgoiokedpjgbaaGreat
open Go.Vm Classical
theorem jl {n:Int} (h:wM n):gJ n=aku (n.natAbs:Int):=by
 unfold gJ;simp only [wi,wu]
 by_cases hn:n<0
 · simp only [hn,decide_true,lw,AC];omega
 simp only [hn,decide_false,ol,AC];omega
theorem oM {n:Int} (h:wM n):kU n=aku (n.natAbs:Int):=by
 unfold kU;simp only [wu]
 by_cases hn:n<0
 · simp only [hn,decide_true,lw,AC];omega
 simp only [hn,decide_false,ol,AC];omega
theorem pC (m n:Nat):oj m n=aku (Do m n:Int):=by
 unfold oj
 induction n using agG generalizing m with
 |ind n ih=>
  by_cases h0:n=0
  · subst h0
    rw [agd];exact aH (by simp [mP])
  have e:mP ((m:Int),(n:Int))=aku (.next ((n:Int),((m%n:Nat):Int))):=by
   have h1:((n:Int) !=0)=alt:=by simp;omega
   have h2:((n:Int)==0)=am1:=by simp;omega
   simp only [mP,h1,h2,lw,ol,agO]
  rw [ba e,ih (m%n) (Nat.mod_lt _ (by omega)) n,af6 m n,Nat.gcd_rec n m,af6]
theorem z7 (m n:Nat):vu m n=aku (Do m n:Int):=by
 unfold vu
 induction n using agG generalizing m with
 |ind n ih=>
  by_cases h0:n=0
  · subst h0
    rw [agd];exact aH (by simp [rN])
  have e:rN ((m:Int),(n:Int))=aku (.next ((n:Int),((m%n:Nat):Int))):=by
   have h1:am6 (0<(n:Int))=alt:=by simp;omega
   have h2:((n:Int)==0)=am1:=by simp;omega
   simp only [rN,h1,h2,lw,ol,agO]
  rw [ba e,ih (m%n) (Nat.mod_lt _ (by omega)) n,af6 m n,Nat.gcd_rec n m,af6]
def cC (r:Int×Int):Prop:=1<=r.2/\r.1≠ -9223372036854775808/\Do r.2.natAbs r.1.natAbs=1
abbrev o4 (r:Int×Int):Prop:=wM r.1/\wM r.2
theorem fN {r:Int×Int} (h:o4 r):gn r=aku (if cC r then 0 else 8):=by
 obtain ⟨a,b⟩:=r;obtain ⟨ha,hb⟩:=h;unfold gn cC;dsimp only at ha hb ⊢
 by_cases h1:b<1
 · rw [rc (by omega)];simp [h1]
 by_cases h2:a= -9223372036854775808
 · rw [rc (by omega)];simp [h1,h2]
 have e2:(a== -9223372036854775808)=am1:=by simpa using h2
 have e3:aa .u64 b=(b.natAbs:Int):=by rw [wu];omega
 simp only [h1,decide_false,ol,e2,oM ha,aj,e3,z7];have hp:0<Do b.natAbs a.natAbs:=Nat.gcd_pos_of_pos_left _ (by omega)
 by_cases h3:Do b.natAbs a.natAbs=1
 · rw [pp ⟨by omega,h2,h3⟩,h3];rfl
 rw [rc (fun h=>h3 h.2.2)]
 have:am6 (1<(Do b.natAbs a.natAbs:Int))=alt:=by simp;omega
 rw [this];rfl
theorem yo {r:Int×Int} (h:o4 r):nF r=aku (if cC r then 0 else 8):=by
 obtain ⟨a,b⟩:=r;obtain ⟨ha,hb⟩:=h;unfold nF cC;dsimp only at ha hb ⊢
 by_cases h1:b<1
 · rw [rc (by omega)];simp [h1]
 by_cases h2:a= -9223372036854775808
 · rw [rc (by omega)];simp [h1,h2]
 have e2:(a== -9223372036854775808)=am1:=by simpa using h2
 have e3:aa .u64 b=(b.natAbs:Int):=by rw [wu];omega
 simp only [h1,decide_false,ol,e2,jl ha,aj,e3,pC];rw [af6]
 by_cases h3:Do b.natAbs a.natAbs=1
 · rw [pp ⟨by omega,h2,h3⟩,h3];rfl
 rw [rc (fun h=>h3 h.2.2)]
 have:((Do b.natAbs a.natAbs:Int) !=1)=alt:=by simp;omega
 rw [this];rfl
theorem VX (x y:Int) (hx:VV x) (hy:VV y): ∃p q r s:Int,0<=p/\p<=18446744065119617025/\0<=q/\q<=18446744065119617025/\0<=r/\r<=18446744065119617025/\0<=s/\s<=18446744065119617025/\
 x / 4294967296*(y / 4294967296)=p/\x / 4294967296*(y%4294967296)=q/\x%4294967296*(y / 4294967296)=r/\x%4294967296*(y%4294967296)=s/\
 x*y=p*18446744073709551616+(q+r)*4294967296+s:=by
 have Hj:0<=x / 4294967296/\x / 4294967296<=4294967295:=by omega
 have Jh:0<=x%4294967296/\x%4294967296<=4294967295:=by omega
 have Xz:0<=y / 4294967296/\y / 4294967296<=4294967295:=by omega
 have Sm:0<=y%4294967296/\y%4294967296<=4294967295:=by omega
 have ex:x=x / 4294967296*4294967296+x%4294967296:=by omega
 have ey:y=y / 4294967296*4294967296+y%4294967296:=by omega
 generalize x / 4294967296=a at*;generalize x%4294967296=b at*;generalize y / 4294967296=c at*;generalize y%4294967296=d at*;have bd: ∀{u v:Int},0<=u/\u<=4294967295->0<=v/\v<=4294967295->0<=u*v/\u*v<=18446744065119617025:=by
  intro u v hu hv;refine ⟨afU hu.1 hv.1,?_⟩
  calc u*v<=4294967295*4294967295:=afj hu.2 hv.2 hv.1 (by decide)
   _=_:=by decide
 refine ⟨a*c,a*d,b*c,b*d,(bd Hj Xz).1,(bd Hj Xz).2,(bd Hj Sm).1,(bd Hj Sm).2,(bd Jh Xz).1,(bd Jh Xz).2,(bd Jh Sm).1,(bd Jh Sm).2,rfl,rfl,rfl,rfl,?_⟩;rw [ex,ey]
 grind
theorem yp {x y:Int} (hx:VV x) (hy:VV y):eZ x y=aku (x*y / 18446744073709551616,x*y%18446744073709551616):=by
 unfold eZ;obtain ⟨p,q,r,s,p0,p1,q0,q1,r0,r1,s0,s1,ep,eq,er,es,exy⟩:=VX x y hx hy;have key: ∀z:Int,Az .u64 (z%18446744073709551616) 4294967295=z%18446744073709551616%4294967296:=fun z=>O3 (by constructor<;>omega)
 simp only [amT,O3 hx,O3 hy,wu,key,ep,eq,er,es,exy,AC,acl,and_true];clear ep eq er es exy key hx hy;have e1:s%18446744073709551616=s:=by omega
 have e2:(q+s / 4294967296)%18446744073709551616=q+s / 4294967296:=by omega
 have ep:p%18446744073709551616=p:=by omega
 have eq:q%18446744073709551616=q:=by omega
 have er:r%18446744073709551616=r:=by omega
 rw [e1,ep,eq,er,e2];have e3:s=s / 4294967296*4294967296+s%4294967296:=by omega
 have e4:q+s / 4294967296=(q+s / 4294967296) / 4294967296*4294967296+(q+s / 4294967296)%4294967296:=by omega
 have b1:0<=s%4294967296/\s%4294967296<4294967296:=by omega
 have b2:0<=(q+s / 4294967296)%4294967296/\(q+s / 4294967296)%4294967296<4294967296:=by omega
 have b3:0<=(q+s / 4294967296) / 4294967296/\(q+s / 4294967296) / 4294967296<=4294967295:=by omega
 have b4:0<=s / 4294967296/\s / 4294967296<=4294967295:=by omega
 generalize (q+s / 4294967296) / 4294967296=t1 at*;generalize (q+s / 4294967296)%4294967296=t0 at*;generalize s / 4294967296=c1 at*;generalize s%4294967296=c0 at*;clear e1 e2;have e5:(t0+r)%18446744073709551616=t0+r:=by omega
 rw [e5];have e6:t0+r=(t0+r) / 4294967296*4294967296+(t0+r)%4294967296:=by omega
 have b5:0<=(t0+r)%4294967296/\(t0+r)%4294967296<4294967296:=by omega
 have b6:0<=(t0+r) / 4294967296/\(t0+r) / 4294967296<=4294967295:=by omega
 generalize (t0+r) / 4294967296=u1 at*;generalize (t0+r)%4294967296=u0 at*;omega
theorem O4 {x y:Int} (hx:VV x) (hy:VV y):pT x y=aku (am1,x*y / 18446744073709551616,x*y%18446744073709551616):=by
 unfold pT;obtain ⟨p,q,r,s,p0,p1,q0,q1,r0,r1,s0,s1,ep,eq,er,es,exy⟩:=VX x y hx hy;have t1: ∀a:Int,0<=a->afh a 4294967296=a / 4294967296:=fun a h=>afk h
 have t2: ∀a:Int,0<=a->Int.tmod a 4294967296=a%4294967296:=fun a h=>Int.tmod_eq_emod_of_nonneg h
 simp only [wu];rw [t1 x hx.1,t1 y hy.1,t2 x hx.1,t2 y hy.1];have f1:x / 4294967296%18446744073709551616=x / 4294967296:=by omega
 have f2:y / 4294967296%18446744073709551616=y / 4294967296:=by omega
 simp only [f1,f2,ep,eq,er,es];have g: ∀a:Int,afh (a%18446744073709551616) 4294967296=a%18446744073709551616 / 4294967296:=fun a=>t1 _ (by omega)
 have g2: ∀a:Int,Int.tmod (a%18446744073709551616) 4294967296=a%18446744073709551616%4294967296:=fun a=>t2 _ (by omega)
 simp only [g,g2,exy,AC,acl,true_and];constructor<;>omega
abbrev B64 (a:Bool×Int×Int):Prop:=VV a.2.1/\VV a.2.2
theorem zi {n:Int} (h:wM n):VV (n.natAbs:Int):=by constructor<;>omega
theorem zj {n:Int} (h:wM n):(n.natAbs:Int)<=9223372036854775808:=by omega
theorem BX (a b:Int):((a.natAbs:Int)*(b.natAbs:Int))=((a*b).natAbs:Int):=by rw [Int.natAbs_mul];rfl
theorem sV {a b:Int} (ha:wM a) (hb:wM b):((a*b).natAbs:Int)<=85070591730234615865843651857942052864:=by
 rw [<- BX]
 calc (a.natAbs:Int)*(b.natAbs:Int)<=9223372036854775808*9223372036854775808:=afj (zj ha) (zj hb) (by omega) (by decide)
  _=_:=by decide
theorem wN {a b:Int} (ha:wM a) (hb:wM b):
 jf a b=aku (am6 (a*b<0),((a*b).natAbs:Int) / 18446744073709551616,((a*b).natAbs:Int)%18446744073709551616):=by
 unfold jf;simp only [jl ha,jl hb,aj,O4 (zi ha) (zi hb),BX];have hs:(a*b<0)↔((a<0/\0<b)\/(0<a/\b<0)):=by
  constructor
  · intro h
    rcases afE a 0 with h1|h1|h1
    · rcases afE b 0 with h2|h2|h2
      · have:=Int.mul_pos_of_neg_of_neg h1 h2;omega
      · subst h2;simp at h
      exact .inl ⟨h1,h2⟩
    · subst h1;simp at h
    rcases afE b 0 with h2|h2|h2
    · exact .inr ⟨h1,h2⟩
    · subst h2;simp at h
    have:=Int.mul_pos h1 h2;omega
  rintro (⟨h1,h2⟩|⟨h1,h2⟩)
  · exact af4 h1 h2
  exact Int.mul_neg_of_pos_of_neg h1 h2
 have hd:am6 (a*b<0)=am6 ((a<0/\0<b)\/(0<a/\b<0)):=by simp only [hs]
 rw [hd];clear hd hs;generalize ((a*b).natAbs:Int)=z
 by_cases h1:a<0
 · have NC: ¬0<a:=by omega
   have arF:(a !=0)=alt:=cK (by omega)
   by_cases h2:b<0
   · have Sb: ¬0<b:=by omega
     simp [h1,h2,NC,Sb]
   by_cases h3:b=0
   · simp [h1,h3,arF]
   have h3':0<b:=by omega
   simp [h1,h2,h3',arF,cK h3]
 by_cases h0:a=0
 · subst h0
   by_cases h2:b<0<;>simp [h2]
 have NC:0<a:=by omega
 by_cases h2:b<0
 · have Sb:(b !=0)=alt:=cK (by omega)
   simp [h1,h2,NC,cK h0,Sb]
 simp [h1,h2,NC]
theorem MD {a b:Int} (ha:wM a) (hb:wM b):
 qG a b=aku (!(am6 (a<0)==am6 (b<0)),((a*b).natAbs:Int) / 18446744073709551616,((a*b).natAbs:Int)%18446744073709551616):=by
 unfold qG;simp only [oM ha,oM hb,aj,yp (zi ha) (zi hb),BX]
def jt (a b:Int):Int:=if a<b then -1 else if b<a then 1 else 0
theorem z8 (a b:Int):iW a b=aku (jt a b):=by
 unfold iW mQ jt
 by_cases h1:a<b<;>by_cases h2:b<a<;>simp [h1,h2]
theorem Hs (a b:Int):iz a b=aku (jt a b):=by
 unfold iz mf jt
 by_cases h1:a<b<;>by_cases h2:b<a<;>simp [h1,h2]
theorem jR (a b:Int):ez a b=aku (jt a b):=by
 unfold ez cmp_isNaN_int jt
 by_cases h1:a<b<;>by_cases h2:b<a<;>simp [h1,h2]
theorem fO (a b:Int):(a<b/\jt a b= -1)\/(a=b/\jt a b=0)\/(b<a/\jt a b=1):=by
 unfold jt
 by_cases h1:a<b
 · exact .inl ⟨h1,by rw [pp h1]⟩
 by_cases h2:b<a
 · exact .inr (.inr ⟨h2,by rw [rc h1,pp h2]⟩)
 exact .inr (.inl ⟨by omega,by rw [rc h1,rc h2]⟩)
theorem J5 (a b:Bool×Int×Int) (ha:B64 a) (hb:B64 b):ph a b=aku (jt (a.2.1*18446744073709551616+a.2.2) (b.2.1*18446744073709551616+b.2.2)):=by
 obtain ⟨s,ah,al⟩:=a;obtain ⟨t,bh,bl⟩:=b;obtain ⟨⟨a1,a2⟩,a3,a4⟩:=ha;obtain ⟨⟨b1,b2⟩,b3,b4⟩:=hb;dsimp only at*;unfold ph jt;dsimp only
 by_cases h1:ah=bh
 · subst h1
   by_cases h2:al=bl
   · subst h2;simp
   by_cases h3:al<bl
   · simp [cK h2,h3]
   rw [rc (by omega),pp (by omega)];simp [cK h2,h3]
 by_cases h3:ah<bh
 · rw [pp (by omega)];simp [cK h1,h3]
 rw [rc (by omega),pp (by omega)];simp [cK h1,h3]
theorem O5 (a b:Bool×Int×Int) (ha:B64 a) (hb:B64 b):p5 a b=aku (jt (a.2.1*18446744073709551616+a.2.2) (b.2.1*18446744073709551616+b.2.2)):=by
 obtain ⟨s,ah,al⟩:=a;obtain ⟨t,bh,bl⟩:=b;obtain ⟨⟨a1,a2⟩,a3,a4⟩:=ha;obtain ⟨⟨b1,b2⟩,b3,b4⟩:=hb;dsimp only at*;unfold p5;simp only [Hs,aj];unfold jt
 by_cases h1:ah=bh
 · subst h1
   by_cases h3:al<bl
   · simp [h3]
   by_cases h2:bl<al
   · rw [rc (show¬(ah*18446744073709551616+al<ah*18446744073709551616+bl) by omega),pp (show ah*18446744073709551616+bl<ah*18446744073709551616+al by omega)];simp [h2,h3]
   have:al=bl:=by omega
   subst this;simp
 by_cases h3:ah<bh
 · rw [pp (show ah*18446744073709551616+al<bh*18446744073709551616+bl by omega)];simp [h3]
 rw [rc (show¬(ah*18446744073709551616+al<bh*18446744073709551616+bl) by omega),pp (show bh*18446744073709551616+bl<ah*18446744073709551616+al by omega)];simp [h3,show bh<ah by omega]
theorem tR (a:Bool) {n:Int} (h0:0<=n) (h:n<=85070591730234615865843651857942052864):B64 (a,n / 18446744073709551616,n%18446744073709551616):=by
 constructor<;>constructor<;>dsimp only<;>omega
theorem J6 {n:Int} (h:(n.natAbs:Int)<=85070591730234615865843651857942052864):kv (am6 (n<0),(n.natAbs:Int) / 18446744073709551616,(n.natAbs:Int)%18446744073709551616)=aku (jt n 0):=by
 unfold kv jt;dsimp only
 by_cases h0:n=0
 · subst h0;simp
 by_cases h1:n<0
 · rw [pp h1]
   by_cases h2:(n.natAbs:Int) / 18446744073709551616=0
   · have h3: ¬((n.natAbs:Int)%18446744073709551616=0):=by omega
     simp [h1,h2,dO h3]
   simp [h1,dO h2]
 rw [rc h1,pp (by omega)]
 by_cases h2:(n.natAbs:Int) / 18446744073709551616=0
 · have h3: ¬((n.natAbs:Int)%18446744073709551616=0):=by omega
   simp [h1,h2,dO h3]
 simp [h1,dO h2]
def zE (a b:Int×Int):Int:=jt (a.1*b.2) (b.1*a.2)
theorem Gd {a b:Int×Int} (ha:o4 a) (hb:o4 b):pV a b=aku (zE a b):=by
 unfold pV zE;have n1:=sV ha.1 hb.2;have n2:=sV hb.1 ha.2;simp only [wN ha.1 hb.2,wN hb.1 ha.2,aj,J6 n1,J6 n2];generalize a.1*b.2=x at*;generalize b.1*a.2=y at*;rw [J5 _ _ (tR _ (by omega) n1) (tR _ (by omega) n2),J5 _ _ (tR _ (by omega) n2) (tR _ (by omega) n1)]
 have ex:((x.natAbs:Int) / 18446744073709551616)*18446744073709551616+(x.natAbs:Int)%18446744073709551616=(x.natAbs:Int):=by omega
 have ey:((y.natAbs:Int) / 18446744073709551616)*18446744073709551616+(y.natAbs:Int)%18446744073709551616=(y.natAbs:Int):=by omega
 simp only [ex,ey,aj];rcases fO x 0 with ⟨h1,e1⟩|⟨h1,e1⟩|⟨h1,e1⟩<;>rcases fO y 0 with ⟨h2,e2⟩|⟨h2,e2⟩|⟨h2,e2⟩<;>rw [e1,e2]<;>simp<;>
  unfold jt<;>(repeat' split)<;>first|rfl|omega
theorem aeC {a b:Int×Int} (ha:o4 a) (hb:o4 b):wB a b=aku (if cC a/\cC b then 0 else 8):=by
 unfold wB;simp only [fN ha,fN hb,aj]
 by_cases h1:cC a<;>by_cases h2:cC b<;>simp [h1,h2]
theorem VY {a b:Int×Int} (ha:o4 a) (hb:o4 b):ze a b=aku (if cC a/\cC b then (zE a b,0) else (0,8)):=by
 unfold ze;rw [aeC ha hb]
 by_cases h:cC a/\cC b
 · rw [pp h,pp h]
   obtain ⟨⟨a1,a2,a3⟩,b1,b2,b3⟩:=h;have n1:=sV ha.1 hb.2;have n2:=sV hb.1 ha.2;simp only [aj,z8,MD ha.1 hb.2,MD hb.1 ha.2];rw [O5 _ _ (tR _ (by omega) n1) (tR _ (by omega) n2)]
   have ex:((a.1*b.2).natAbs:Int) / 18446744073709551616*18446744073709551616+((a.1*b.2).natAbs:Int)%18446744073709551616=((a.1*b.2).natAbs:Int):=by omega
   have ey:((b.1*a.2).natAbs:Int) / 18446744073709551616*18446744073709551616+((b.1*a.2).natAbs:Int)%18446744073709551616=((b.1*a.2).natAbs:Int):=by omega
   simp only [ex,ey,aj];unfold zE;have s1:(a.1<0↔a.1*b.2<0):=by
    constructor
    · intro h;exact af4 h (by omega)
    intro h;rcases lt_or_ge a.1 0 with h1|h1
    · exact h1
    have:=afU h1 (show 0<=b.2 by omega);omega
   have s2:(b.1<0↔b.1*a.2<0):=by
    constructor
    · intro h;exact af4 h (by omega)
    intro h;rcases lt_or_ge b.1 0 with h1|h1
    · exact h1
    have:=afU h1 (show 0<=a.2 by omega);omega
   generalize a.1*b.2=x at*;generalize b.1*a.2=y at*
   by_cases h1:a.1<0<;>by_cases h2:b.1<0
   · have h3:=s1.1 h1;have h4:=s2.1 h2
     have:aa .i64 (-jt (x.natAbs:Int) (y.natAbs:Int))=jt x y:=by
      rw [wi];unfold jt;(repeat' split)<;>omega
     simp [h1,h2,this]
   · have h3:=s1.1 h1;have h4: ¬y<0:=fun h=>h2 (s2.2 h)
     have:jt a.1 b.1=jt x y:=by unfold jt;(repeat' split)<;>omega
     simp [h1,h2,this]
   · have h3: ¬x<0:=fun h=>h1 (s1.2 h);have h4:=s2.1 h2
     have:jt a.1 b.1=jt x y:=by unfold jt;(repeat' split)<;>omega
     simp [h1,h2,this]
   have h3: ¬x<0:=fun h=>h1 (s1.2 h);have h4: ¬y<0:=fun h=>h2 (s2.2 h)
   have:jt (x.natAbs:Int) (y.natAbs:Int)=jt x y:=by unfold jt;(repeat' split)<;>omega
   simp [h1,h2,this]
 rw [rc h,rc h];rfl
abbrev Pt:=Int×Int×Int
def fw (p:Pt):Prop:=0<=p.1/\p.1<=65535/\ -1048576<=p.2.1/\p.2.1<=1048576/\ -1048576<=p.2.2/\p.2.2<=1048576
theorem fg (p:Pt):iV p=aku (if fw p then 0 else 8):=by
 obtain ⟨i,a,b⟩:=p;unfold iV ou fw;dsimp only
 by_cases h1:i<0
 · rw [rc (by omega)];simp [h1]
 by_cases h2:65535<i
 · rw [rc (by omega)];simp [h1,h2]
 by_cases h3:a< -1048576
 · rw [rc (by omega)];simp [h1,h2,h3]
 by_cases h4:1048576<a
 · rw [rc (by omega)];simp [h1,h2,h3,h4]
 by_cases h5:b< -1048576
 · rw [rc (by omega)];simp [h1,h2,h3,h4,h5]
 by_cases h6:1048576<b
 · rw [rc (by omega)];simp [h1,h2,h3,h4,h5,h6]
 rw [pp (by omega)];simp [h1,h2,h3,h4,h5,h6]
theorem fP (p:Pt):nE p=aku (if fw p then 0 else 8):=by
 obtain ⟨i,a,b⟩:=p;unfold nE fw;dsimp only
 by_cases h1:i<0
 · rw [rc (by omega)];simp [h1]
 by_cases h2:65535<i
 · rw [rc (by omega)];simp [h1,h2]
 by_cases h3:a< -1048576
 · rw [rc (by omega)];simp [h1,h2,h3]
 by_cases h4:1048576<a
 · rw [rc (by omega)];simp [h1,h2,h3,h4]
 by_cases h5:b< -1048576
 · rw [rc (by omega)];simp [h1,h2,h3,h4,h5]
 by_cases h6:1048576<b
 · rw [rc (by omega)];simp [h1,h2,h3,h4,h5,h6]
 rw [pp (by omega)];simp [h1,h2,h3,h4,h5,h6]
theorem vw {x y:Int} (hx:wM x) (hy:wM y): -85070591730234615865843651857942052864<=x*y/\x*y<=85070591730234615865843651857942052864:=by
 have:=sV hx hy;omega
theorem afZ {x y:Int} (hx:wM x) (hy:wM y):(x%18446744073709551616)*(y%18446744073709551616)=x*y+(if x<0 then y else 0)*18446744073709551616+(if y<0 then x else 0)*18446744073709551616+(if x<0/\y<0 then 340282366920938463463374607431768211456 else 0):=by
 by_cases h1:x<0<;>by_cases h2:y<0
 · have e1:x%18446744073709551616=x+18446744073709551616:=by omega
   have e2:y%18446744073709551616=y+18446744073709551616:=by omega
   rw [e1,e2,pp h1,pp h2,pp ⟨h1,h2⟩];grind
 · have e1:x%18446744073709551616=x+18446744073709551616:=by omega
   have e2:y%18446744073709551616=y:=by omega
   rw [e1,e2,pp h1,rc h2,rc (fun h=>h2 h.2)];grind
 · have e1:x%18446744073709551616=x:=by omega
   have e2:y%18446744073709551616=y+18446744073709551616:=by omega
   rw [e1,e2,rc h1,pp h2,rc (fun h=>h1 h.1)];grind
 have e1:x%18446744073709551616=x:=by omega
 have e2:y%18446744073709551616=y:=by omega
 rw [e1,e2,rc h1,rc h2,rc (fun h=>h1 h.1)];grind
theorem ME {a b:Int} (ha:0<=a) (hb:0<=b):pg a b 0=aku ((a+b)%18446744073709551616,(a+b) / 18446744073709551616):=by
 unfold pg;simp [ha,hb]
theorem VZ {a b c d u v:Int} (ha:wM a) (hb:wM b):mF (a,b,c,d,0,u,v,0,0)=aku (.next (a,b,c,d,1,u,v,a*b / 18446744073709551616,a*b%18446744073709551616)):=by
 unfold mF;have hm:=yp (x:=aa .u64 a) (y:=aa .u64 b) (by rw [wu];constructor<;>omega) (by rw [wu];constructor<;>omega)
 have hb2:=vw ha hb;have hu:=afZ ha hb;simp only [hm,aj];simp only [wu,hu];generalize a*b=x at*
 by_cases h1:a<0<;>by_cases h2:b<0
 all_goals
  simp only [h1,h2,decide_true,decide_false,lw,ol,if_true,if_false,and_self,and_false,false_and];rw [ME (by omega) (by omega)]
  simp only [wi,aj,show am6 ((0:Int)<2)=alt from rfl,lw,show ((0:Int)==0)=alt from rfl,AC,Step.next.injEq,acl,true_and]
  refine ⟨by omega,?_,?_⟩<;>omega
theorem V0 {a b c d u v h l:Int} (hc:wM c) (hd:wM d) (hl:VV l)
 (_hh: -9223372036854775808<=h/\h<9223372036854775808) (hs: -170141183460469231731687303715884105728<=h*18446744073709551616+l+c*d/\h*18446744073709551616+l+c*d<170141183460469231731687303715884105728):
 mF (a,b,c,d,1,u,v,h,l)=aku (.next (a,b,c,d,2,u,v,(h*18446744073709551616+l+c*d) / 18446744073709551616,(h*18446744073709551616+l+c*d)%18446744073709551616)):=by
 unfold mF;have hm:=yp (x:=aa .u64 c) (y:=aa .u64 d) (by rw [wu];constructor<;>omega) (by rw [wu];constructor<;>omega)
 have hb2:=vw hc hd;have hu:=afZ hc hd;simp only [hm,aj];simp only [wu,hu];generalize c*d=x at*
 by_cases h1:c<0<;>by_cases h2:d<0
 all_goals
  simp only [h1,h2,decide_true,decide_false,lw,ol,if_true,if_false,and_self,and_false,false_and];rw [ME (by omega) (by omega)]
  simp only [wi,aj,show am6 ((1:Int)<2)=alt from rfl,lw,ol,show ((1:Int)==0)=am1 from rfl,show ((1:Int)==1)=alt from rfl,AC,Step.next.injEq,acl,true_and]
  refine ⟨by omega,?_,?_⟩<;>omega
theorem Ht {a b c d:Int} (ha:wM a) (hb:wM b) (hc:wM c) (hd:wM d) (hs: -170141183460469231731687303715884105728<=a*b+c*d/\a*b+c*d<170141183460469231731687303715884105728):
 wD (a,b,c,d)=aku ((a*b+c*d) / 18446744073709551616,(a*b+c*d)%18446744073709551616):=by
 unfold wD;dsimp only;have hb2:=vw ha hb;have e:a*b / 18446744073709551616*18446744073709551616+a*b%18446744073709551616+c*d=a*b+c*d:=by omega
 rw [ba (VZ ha hb),ba (V0 hc hd (by constructor<;>omega) (by constructor<;>omega) (by rw [e];exact hs)),e]
 exact aH rfl
def Io (p q:Pt) (t:Int×Int):Int:=(p.2.1-q.2.1)*t.2+(p.2.2-q.2.2)*t.1
def leads (p q:Pt) (t:Int×Int):Prop:=0<Io p q t\/(Io p q t=0/\(q.2.2<p.2.2\/(p.2.2=q.2.2/\p.1<q.1)))
def O6 (p q:Pt) (t:Int×Int):Int:=if Io p q t<0 then -1 else if 0<Io p q t then 1 else if p.2.2<q.2.2 then -1 else if q.2.2<p.2.2 then 1 else jt q.1 p.1
theorem Ge (p q:Pt) (t:Int×Int):0<O6 p q t↔leads p q t:=by
 unfold O6 leads
 by_cases h1:Io p q t<0
 · rw [pp h1];omega
 by_cases h2:0<Io p q t
 · rw [rc h1,pp h2];simp [h2]
 rw [rc h1,rc h2]
 by_cases h3:p.2.2<q.2.2
 · rw [pp h3];omega
 by_cases h4:q.2.2<p.2.2
 · rw [rc h3,pp h4];omega
 rw [rc h3,rc h4]
 rcases fO q.1 p.1 with ⟨h,e⟩|⟨h,e⟩|⟨h,e⟩<;>rw [e]<;>omega
theorem zk (a b:Int):sK [a,b]=aku (if a≠0 then a else b):=by
 unfold sK
 by_cases h1:a=0
 · subst h1
   rw [ba (y:=(0,[0,b],2,1)) (by rfl)]
   by_cases h2:b=0
   · subst h2
     rw [ba (y:=(0,[0,0],2,2)) (by rfl)]
     exact aH rfl
   refine (aH (r:=b) ?_).trans (by simp)
   have e:uz (0,[0,b],2,1)=(bif b !=0 then aku (.done b) else aku (.next (0,[0,b],2,aa .i64 (1+1)))):=rfl
   rw [e,cK h2];rfl
 refine (aH (r:=a) ?_).trans (by simp [h1])
 have e:uz (0,[a,b],IR [a,b].length,0)=(bif a !=0 then aku (.done a) else aku (.next (0,[a,b],IR [a,b].length,aa .i64 (0+1)))):=rfl
 rw [e,cK h1];rfl
theorem V1 {p q:Pt} {t:Int×Int} (hp:fw p) (hq:fw q) (ht:o4 t):wM (p.2.1-q.2.1)/\wM (p.2.2-q.2.2)/\ -170141183460469231731687303715884105728<=Io p q t/\Io p q t<170141183460469231731687303715884105728:=by
 obtain ⟨a1,a2,a3,a4,a5,a6⟩:=hp;obtain ⟨b1,b2,b3,b4,b5,b6⟩:=hq;have h1:wM (p.2.1-q.2.1):=by constructor<;>omega
 have h2:wM (p.2.2-q.2.2):=by constructor<;>omega
 refine ⟨h1,h2,?_⟩;have k: ∀{x y:Int},-2097152<=x/\x<=2097152->wM y-> -19342813113834066795298816<=x*y/\x*y<=19342813113834066795298816:=by
  intro x y hx hy
  have:((x*y).natAbs:Int)<=2097152*9223372036854775808:=by
   rw [<- BX];exact afj (by omega) (zj hy) (by omega) (by decide)
  omega
 have k1:=k (x:=p.2.1-q.2.1) (by omega) ht.2
 have k2:=k (x:=p.2.2-q.2.2) (by omega) ht.1
 unfold Io;omega
theorem tT {p q:Pt} {t:Int×Int} (hp:fw p) (hq:fw q) (ht:o4 t):lN p q t=aku (O6 p q t):=by
 obtain ⟨g1,g2,g3⟩:=V1 hp hq ht;unfold lN;rw [jb g1,jb g2,Ht g1 ht.2 g2 ht.1 g3];simp only [aj,z8,jR,zk];rw [show (p.2.1-q.2.1)*t.2+(p.2.2-q.2.2)*t.1=Io p q t from rfl];unfold O6;generalize Io p q t=n at*
 by_cases h1:n<0
 · have e1:(n / 18446744073709551616==0)=am1:=by simp;omega
   have e2:am6 (n / 18446744073709551616<0)=alt:=by simp;omega
   rw [pp h1];simp [e1,e2]
 by_cases h2:0<n
 · have e1:((n / 18446744073709551616==0)&&(n%18446744073709551616==0))=am1:=by simp;omega
   have e2:am6 (n / 18446744073709551616<0)=am1:=by simp;omega
   rw [rc h1,pp h2];simp only [e1,e2,EQ,lw,ol]
 have:n=0:=by omega
 subst this;rw [rc h1,rc h2];unfold jt
 by_cases h3:p.2.2<q.2.2
 · simp [h3]
 by_cases h4:q.2.2<p.2.2
 · simp [h3,h4]
 simp [h3,h4]
theorem aeD {x y:Int} (hx: -85070591730234615865843651857942052864<=x/\x<=85070591730234615865843651857942052864) (hy: -85070591730234615865843651857942052864<=y/\y<=85070591730234615865843651857942052864):
 wm (am6 (x<0),(x.natAbs:Int) / 18446744073709551616,(x.natAbs:Int)%18446744073709551616) (am6 (y<0),(y.natAbs:Int) / 18446744073709551616,(y.natAbs:Int)%18446744073709551616)=
  aku (am6 (x+y<0),((x+y).natAbs:Int) / 18446744073709551616,((x+y).natAbs:Int)%18446744073709551616):=by
 have n1:(x.natAbs:Int)<=85070591730234615865843651857942052864:=by omega
 have n2:(y.natAbs:Int)<=85070591730234615865843651857942052864:=by omega
 unfold wm;rw [J5 _ _ (tR _ (by omega) n1) (tR _ (by omega) n2)]
 have ex:((x.natAbs:Int) / 18446744073709551616)*18446744073709551616+(x.natAbs:Int)%18446744073709551616=(x.natAbs:Int):=by omega
 have ey:((y.natAbs:Int) / 18446744073709551616)*18446744073709551616+(y.natAbs:Int)%18446744073709551616=(y.natAbs:Int):=by omega
 simp only [ex,ey,aj];have same: ∀{X Y Z:Int},0<=X->0<=Y->X<=85070591730234615865843651857942052864->Y<=85070591730234615865843651857942052864->Z=X+Y-> ∀b:Bool,
  (bif am6 (aa .u64 (X%18446744073709551616+Y%18446744073709551616)<X%18446744073709551616) then aku (b,aa .u64 (aa .u64 (X / 18446744073709551616+Y / 18446744073709551616)+1),aa .u64 (X%18446744073709551616+Y%18446744073709551616))
   else aku (b,aa .u64 (X / 18446744073709551616+Y / 18446744073709551616),aa .u64 (X%18446744073709551616+Y%18446744073709551616)))=aku (b,Z / 18446744073709551616,Z%18446744073709551616):=by
  intro X Y Z h1 h2 h3 h4 h5 b;subst h5;simp only [wu]
  by_cases h:(X%18446744073709551616+Y%18446744073709551616)%18446744073709551616<X%18446744073709551616
  · simp only [h,decide_true,lw,AC,acl,true_and];constructor<;>omega
  simp only [h,decide_false,ol,AC,acl,true_and];constructor<;>omega
 have minus: ∀{X Y Z:Int} (b c:Bool),0<=X->0<=Y->X<=85070591730234615865843651857942052864->Y<=X->Z=X-Y->qE (b,X / 18446744073709551616,X%18446744073709551616) (c,Y / 18446744073709551616,Y%18446744073709551616)=aku (am1,Z / 18446744073709551616,Z%18446744073709551616):=by
  intro X Y Z b c h1 h2 h3 h4 h5;subst h5;unfold qE;simp only [wu]
  by_cases h:X%18446744073709551616<Y%18446744073709551616
  · simp only [h,decide_true,lw,AC,acl,true_and];constructor<;>omega
  simp only [h,decide_false,ol,AC,acl,true_and];constructor<;>omega
 by_cases h1:x<0<;>by_cases h2:y<0
 · have h3:x+y<0:=by omega
   simp only [h1,h2,h3,decide_true,beq_self_eq_true,lw];exact same (by omega) (by omega) n1 n2 (by omega) alt
 · simp only [h1,h2,decide_true,decide_false,show (alt==am1)=am1 from rfl,ol,lw]
   by_cases h3:(y.natAbs:Int)<=(x.natAbs:Int)
   · have e:am6 (0<=jt (x.natAbs:Int) (y.natAbs:Int))=alt:=by
      rcases fO (x.natAbs:Int) (y.natAbs:Int) with ⟨h,e⟩|⟨h,e⟩|⟨h,e⟩<;>rw [e]<;>first|rfl|omega
     rw [e,minus (Z:=((x+y).natAbs:Int)) _ _ (by omega) (by omega) n1 h3 (by omega)]
     simp only [lw,aj]
     by_cases h4:x+y=0
     · rw [h4];rfl
     have h5:x+y<0:=by omega
     by_cases h6:0<((x+y).natAbs:Int) / 18446744073709551616
     · simp [h5,h6]
     have h7:0<((x+y).natAbs:Int)%18446744073709551616:=by omega
     simp only [h5,h6,h7,decide_true,decide_false,ol]
   have e:am6 (0<=jt (x.natAbs:Int) (y.natAbs:Int))=am1:=by
    rcases fO (x.natAbs:Int) (y.natAbs:Int) with ⟨h,e⟩|⟨h,e⟩|⟨h,e⟩<;>rw [e]<;>first|rfl|omega
   rw [e,minus (Z:=((x+y).natAbs:Int)) _ _ (by omega) (by omega) n2 (by omega) (by omega)]
   have h5: ¬(x+y<0):=by omega
   simp [h5]
 · simp only [h1,h2,decide_true,decide_false,show (am1==alt)=am1 from rfl,ol]
   by_cases h3:(y.natAbs:Int)<=(x.natAbs:Int)
   · have e:am6 (0<=jt (x.natAbs:Int) (y.natAbs:Int))=alt:=by
      rcases fO (x.natAbs:Int) (y.natAbs:Int) with ⟨h,e⟩|⟨h,e⟩|⟨h,e⟩<;>rw [e]<;>first|rfl|omega
     rw [e,minus (Z:=((x+y).natAbs:Int)) _ _ (by omega) (by omega) n1 h3 (by omega)]
     have h5: ¬(x+y<0):=by omega
     simp [h5]
   have e:am6 (0<=jt (x.natAbs:Int) (y.natAbs:Int))=am1:=by
    rcases fO (x.natAbs:Int) (y.natAbs:Int) with ⟨h,e⟩|⟨h,e⟩|⟨h,e⟩<;>rw [e]<;>first|rfl|omega
   rw [e,minus (Z:=((x+y).natAbs:Int)) _ _ (by omega) (by omega) n2 (by omega) (by omega)]
   have h5:x+y<0:=by omega
   simp [h5]
 have h3: ¬(x+y<0):=by omega
 simp only [h1,h2,h3,decide_false,beq_self_eq_true,lw];exact same (by omega) (by omega) n1 n2 (by omega) am1
theorem amU {p q:Pt} {t:Int×Int} (hp:fw p) (hq:fw q) (ht:o4 t):za p q t=aku (jt (Io p q t) 0):=by
 obtain ⟨g1,g2,g3⟩:=V1 hp hq ht;unfold za;rw [jb g1,jb g2,wN g1 ht.2,wN g2 ht.1];simp only [aj];rw [aeD (vw g1 ht.2) (vw g2 ht.1)];simp only [aj];rw [show (p.2.1-q.2.1)*t.2+(p.2.2-q.2.2)*t.1=Io p q t from rfl];obtain ⟨a1,a2,a3,a4,a5,a6⟩:=hp;obtain ⟨b1,b2,b3,b4,b5,b6⟩:=hq
 have k: ∀{x y:Int},-2097152<=x/\x<=2097152->wM y-> -19342813113834066795298816<=x*y/\x*y<=19342813113834066795298816:=by
  intro x y hx hy
  have:((x*y).natAbs:Int)<=2097152*9223372036854775808:=by
   rw [<- BX];exact afj (by omega) (zj hy) (by omega) (by decide)
  omega
 have k1:=k (x:=p.2.1-q.2.1) (by omega) ht.2
 have k2:=k (x:=p.2.2-q.2.2) (by omega) ht.1
 have:((Io p q t).natAbs:Int)<=85070591730234615865843651857942052864:=by unfold Io;omega
 rw [J6 this];rfl
theorem Gf {p q:Pt} {t:Int×Int} (hp:fw p) (hq:fw q) (ht:o4 t):nG p q t=aku (am6 (leads p q t)):=by
 unfold nG leads;rw [amU hp hq ht];simp only [aj];rcases fO (Io p q t) 0 with ⟨h,e⟩|⟨h,e⟩|⟨h,e⟩<;>rw [e]
 · have h1: ¬(0<Io p q t):=by omega
   have h2: ¬(Io p q t=0):=by omega
   simp [h1,h2]
 · rw [h]
   by_cases h3:p.2.2=q.2.2
   · simp [h3]
   simp [h3,cK h3]
 simp [h]
theorem uE {p q:Pt} {t:Int×Int} (ht:o4 t):py p q t=aku (if fw p/\fw q/\cC t then (if p.1=q.1 then 2 else 0) else 8):=by
 unfold py;simp only [fg,fN ht,aj]
 by_cases h4:p.1=q.1
 · by_cases h1:fw p<;>by_cases h2:fw q<;>by_cases h3:cC t<;>simp [h1,h2,h3,h4]
 have h5:=dO h4
 by_cases h1:fw p<;>by_cases h2:fw q<;>by_cases h3:cC t<;>simp [h1,h2,h3,h4,h5]
theorem aeE {n d:Int} (hn:wM n) (hd:wM d):wE n d=lL n d:=by
 unfold wE lL
 by_cases h0:d=0
 · subst h0;rfl
 have e0:(d==0)=am1:=by simpa using h0
 simp only [e0,ol,oM hn,oM hd,jl hn,jl hd,aj,z7,pC];have hp:0<Do n.natAbs d.natAbs:=afK _ (by omega)
 have e1:((Do n.natAbs d.natAbs:Int)==0)=am1:=by simp;omega
 simp only [e1,ol];unfold ye pk;simp only [show am6 ((0:Int)<0)=am1 from rfl,ol]
 by_cases h3:n=0
 · subst h3
   have z: ∀k:Int,aa .u64 (afh (((0:Int).natAbs:Nat):Int) k)=0:=fun k=>by
    rw [show (((0:Int).natAbs:Nat):Int)=0 from rfl,Int.zero_tdiv];rfl
   have z2:aa .i64 0=0:=rfl;have z3:aa .i64 (0-0)=0:=rfl;simp only [z,z2,z3,show ((0:Int) !=0)=am1 from rfl,ol,show am6 ((0:Int)<0)=am1 from rfl];cases (!(am1==am6 (d<0)))<;>simp
 simp only [cK h3]
 cases (!(am6 (n<0)==am6 (d<0)))<;>rfl
noncomputable def met (p q:Pt):Int×Int:=((lL (p.2.1-q.2.1) (q.2.2-p.2.2)).getD ((0,0),0)).1
theorem O7 {n d:Int} (hn: -2097152<=n/\n<=2097152) (hd: -2097152<=d/\d<=2097152) (h0:d≠0): ∃r,lL n d=aku (r,0)/\cC r/\o4 r/\r.1*d=n*r.2:=by
 have hn':wM n:=by constructor<;>omega
 have hd':wM d:=by constructor<;>omega
 unfold lL;have e0:(d==0)=am1:=by simpa using h0
 have hp:0<Do n.natAbs d.natAbs:=afK _ (by omega)
 have e1:((Do n.natAbs d.natAbs:Int)==0)=am1:=by simp;omega
 simp only [e0,ol,jl hn',jl hd',aj,pC,e1];have q1:afh (n.natAbs:Int) (Do n.natAbs d.natAbs:Int)=((n.natAbs / Do n.natAbs d.natAbs:Nat):Int):=by
  rw [agS]
 have q2:afh (d.natAbs:Int) (Do n.natAbs d.natAbs:Int)=((d.natAbs / Do n.natAbs d.natAbs:Nat):Int):=by
  rw [agS]
 rw [q1,q2];have l1:n.natAbs / Do n.natAbs d.natAbs<=2097152:=aks (agH _ _) (by omega)
 have l2:d.natAbs / Do n.natAbs d.natAbs<=2097152:=aks (agH _ _) (by omega)
 have l3:1<=d.natAbs / Do n.natAbs d.natAbs:=Nat.div_pos (Nat.le_of_dvd (by omega) (afF _ _)) hp
 have co:Do (d.natAbs / Do n.natAbs d.natAbs) (n.natAbs / Do n.natAbs d.natAbs)=1:=by
  rw [af6,Nat.gcd_div (agr _ _) (afF _ _)];exact Nat.div_self hp
 have v1:n.natAbs=Do n.natAbs d.natAbs*(n.natAbs / Do n.natAbs d.natAbs):=(aga (agr _ _)).symm;have v2:d.natAbs=Do n.natAbs d.natAbs*(d.natAbs / Do n.natAbs d.natAbs):=(aga (afF _ _)).symm
 have val:(n.natAbs:Int)*((d.natAbs / Do n.natAbs d.natAbs:Nat):Int)=(d.natAbs:Int)*((n.natAbs / Do n.natAbs d.natAbs:Nat):Int):=by
  generalize n.natAbs / Do n.natAbs d.natAbs=a at*;generalize d.natAbs / Do n.natAbs d.natAbs=b at*;generalize Do n.natAbs d.natAbs=g at*;rw [v1,v2,agJ,agJ,agX,agX,aff (a:Int) (b:Int)]
 clear v1 v2;generalize n.natAbs / Do n.natAbs d.natAbs=a at*;generalize d.natAbs / Do n.natAbs d.natAbs=b at*;have w1:aa .u64 (a:Int)=a:=by rw [wu];omega
 have w2:aa .u64 (b:Int)=b:=by rw [wu];omega
 have made: ∀s:Bool,pk s (am1,0,(a:Int)) (am1,0,(b:Int))=aku ((if s=alt then -(a:Int) else a,(b:Int)),0):=by
  intro s;unfold pk;have d1:am6 (9223372036854775807<(a:Int))=am1:=by simp;omega
  have d2:am6 (9223372036854775807<(b:Int))=am1:=by simp;omega
  have v1:aa .i64 (a:Int)=a:=by rw [wi];omega
  have v2:aa .i64 (b:Int)=b:=by rw [wi];omega
  have v3:aa .i64 (0- (a:Int))= -(a:Int):=by rw [wi];omega
  simp only [show am6 ((0:Int)<0)=am1 from rfl,ol,d1,d2,v1,v2,v3];cases s<;>simp
 have fin: ∀s:Bool,(if s=alt then -(a:Int) else a)*d=n*b-> ∃r,(aku ((if s=alt then -(a:Int) else a,(b:Int)),(0:Int)):Option ((Int×Int)×Int))=aku (r,0)/\cC r/\o4 r/\r.1*d=n*r.2:=by
  intro s hv;refine ⟨_,rfl,?_,?_,hv⟩
  · unfold cC
    dsimp only;refine ⟨by omega,?_,?_⟩
    · cases s
      · simp only [agj,if_false];omega
      simp only [if_true];omega
    rw [show (if s=alt then -(a:Int) else (a:Int)).natAbs=a by cases s<;>simp,show ((b:Int)).natAbs=b by omega];exact co
  constructor
  · dsimp only;cases s
    · simp only [agj,if_false];constructor<;>omega
    simp only [if_true];constructor<;>omega
  dsimp only;constructor<;>omega
 simp only [w1,w2,made,aj]
 by_cases h1:(!(am6 (n<0)==am6 (d<0)))=alt
 · rw [h1]
   refine fin (n !=0) ?_
   by_cases Xb:n=0
   · subst Xb
     have a0:(a:Int)=0:=by
      have:((d.natAbs:Nat):Int)*(a:Int)=0:=by rw [<- val];simp
      rcases Int.mul_eq_zero.1 this with h|h
      · omega
      exact h
     simp [a0]
   have e:(n !=0)=alt:=by simpa using Xb
   rw [e,pp rfl]
   by_cases V2:n<0
   · have hd0: ¬d<0:=fun k=>by simp [V2,k] at h1
     have x1:(n.natAbs:Int)= -n:=by omega
     have x2:(d.natAbs:Int)=d:=by omega
     rw [x1,x2,afa] at val;rw [afa,aff];omega
   have hd0:d<0:=by
    by_cases k:d<0
    · exact k
    simp [V2,k] at h1
   have x1:(n.natAbs:Int)=n:=by omega
   have x2:(d.natAbs:Int)= -d:=by omega
   rw [x1,x2,afa] at val;rw [afa,aff];omega
 rw [afQ] at h1;rw [h1]
 refine fin am1 ?_;rw [rc (by simp)]
 by_cases V2:n<0
 · have hd0:d<0:=by
    by_cases k:d<0
    · exact k
    simp [V2,k] at h1
   have x1:(n.natAbs:Int)= -n:=by omega
   have x2:(d.natAbs:Int)= -d:=by omega
   rw [x1,x2,afa,afa] at val;rw [aff];omega
 have hd0: ¬d<0:=fun k=>by simp [V2,k] at h1
 have x1:(n.natAbs:Int)=n:=by omega
 have x2:(d.natAbs:Int)=d:=by omega
 rw [x1,x2] at val;rw [aff];omega
theorem O8 {p q:Pt} (hp:fw p) (hq:fw q) (h:p.2.2≠q.2.2):lL (p.2.1-q.2.1) (q.2.2-p.2.2)=aku (met p q,0)/\cC (met p q)/\o4 (met p q)/\(met p q).1*(q.2.2-p.2.2)=(p.2.1-q.2.1)*(met p q).2:=by
 obtain ⟨a1,a2,a3,a4,a5,a6⟩:=hp;obtain ⟨b1,b2,b3,b4,b5,b6⟩:=hq;obtain ⟨r,h1,h2,h3⟩:=O7 (n:=p.2.1-q.2.1) (d:=q.2.2-p.2.2) (by omega) (by omega) (by omega)
 have:met p q=r:=by unfold met;rw [h1];rfl
 rw [this];exact ⟨h1,h2,h3⟩
theorem Ip {p q:Pt} (hp:fw p) (hq:fw q):aa .i64 (p.2.1-q.2.1)=p.2.1-q.2.1/\aa .i64 (q.2.2-p.2.2)=q.2.2-p.2.2/\wM (p.2.1-q.2.1)/\wM (q.2.2-p.2.2):=by
 obtain ⟨a1,a2,a3,a4,a5,a6⟩:=hp;obtain ⟨b1,b2,b3,b4,b5,b6⟩:=hq;have h1:wM (p.2.1-q.2.1):=by constructor<;>omega
 have h2:wM (q.2.2-p.2.2):=by constructor<;>omega
 exact ⟨jb h1,jb h2,h1,h2⟩
noncomputable def Aa (h l:Pt) (t:Int×Int):(Int×Int)×Bool:=if leads l h t then (t,alt) else if h.2.2<l.2.2 then (met h l,alt) else ((0,0),am1)
theorem amV {p q:Pt} (hp:fw p) (hq:fw q) (h:p.2.2≠q.2.2):zc p q=aku (met p q):=by
 obtain ⟨w1,w2,_,_⟩:=Ip hp hq;unfold zc;rw [w1,w2,(O8 hp hq h).1];rfl
theorem O9 {h l:Pt} {t:Int×Int} (hh:fw h) (hl:fw l) (ht:o4 t):pX h l t=aku (Aa h l t):=by
 unfold pX Aa;rw [Gf hl hh ht];simp only [aj]
 by_cases h1:leads l h t
 · simp [h1]
 simp only [h1,decide_false,ol,if_false]
 by_cases h2:h.2.2<l.2.2
 · simp [h2,amV hh hl (by omega)]
 simp [h2]
theorem V3:cC (0,1):=by unfold cC;decide
theorem D7 {h l:Pt} {t:Int×Int} (ht:o4 t):
 rO h l t=aku (if fw h/\fw l/\cC t/\h.1≠l.1 then ((Aa h l t).1,(Aa h l t).2,0) else ((0,0),am1,if fw h/\fw l/\cC t then 2 else 8)):=by
 unfold rO;rw [uE ht]
 by_cases h1:fw h/\fw l/\cC t
 · rw [pp h1]
   by_cases h2:h.1=l.1
   · simp [h1,h2]
   obtain ⟨hh,hl,hr⟩:=h1
   rw [rc h2,pp ⟨hh,hl,hr,h2⟩];simp only [aj,show ((0:Int) !=0)=am1 from rfl,ol,tT hl hh ht];unfold Aa
   by_cases h3:leads l h t
   · have:am6 (0<O6 l h t)=alt:=by simpa using (Ge l h t).2 h3
     rw [this];simp [h3]
   have:am6 (0<O6 l h t)=am1:=decide_eq_false fun k=>h3 ((Ge l h t).1 k)
   rw [this,rc h3];simp only [ol]
   by_cases h4:h.2.2<l.2.2
   · have e:am6 (l.2.2<=h.2.2)=am1:=by simp;omega
     rw [e,pp h4];unfold yf;obtain ⟨w1,w2,i1,i2⟩:=Ip hh hl;have e2:(h.2.2==l.2.2)=am1:=by simp;omega
     rw [uE (by constructor<;>constructor<;>decide),pp ⟨hh,hl,V3⟩,rc h2]
     simp only [aj,show ((0:Int) !=0)=am1 from rfl,ol,e2,w1,w2,aeE i1 i2,(O8 hh hl (by omega)).1]
     rfl
   have e:am6 (l.2.2<=h.2.2)=alt:=by simp;omega
   rw [e,rc h4];rfl
 rw [rc h1,rc (fun h=>h1 ⟨h.1,h.2.1,h.2.2.1⟩),rc h1];rfl
theorem Gg {h l:Pt} {t:Int×Int} (hh:fw h) (hl:fw l) (ht:o4 t) (hr:cC t) (h2:(Aa h l t).2=alt):cC (Aa h l t).1/\o4 (Aa h l t).1:=by
 unfold Aa at*
 by_cases h3:leads l h t
 · rw [pp h3];exact ⟨hr,ht⟩
 rw [rc h3] at h2 ⊢
 by_cases h4:h.2.2<l.2.2
 · rw [pp h4];have:=(O8 hh hl (by omega)).2;exact ⟨this.1,this.2.1⟩
 rw [rc h4] at h2;cases h2
theorem O': ∀(n:Nat) (l:List Nat),l.Nodup->(∀x∈l,x<n)->akt l<=n
 |0,l,_,h=>by
  cases l with
  |nil=>simp
  |cons a l=>exact absurd (h a (by simp)) (by omega)
 |n+1,l,hd,h=>by
  have h1:=O' n (l.filter (fun x=>x≠n)) (hd.filter _) (by
   intro x hx;rw [agM] at hx
   have:=h x hx.1
   have h2:x≠n:=by simpa using hx.2
   omega)
  have h2:(akt l)<=(l.filter (fun x=>x≠n)).length+1:=by
   clear h1 h
   induction l with
   |nil=>simp
   |cons a l ih=>
    rw [afb] at hd
    have:=ih hd.2
    by_cases ha:a=n
    · subst ha
      have e:l.filter (fun x=>decide (x≠a))=l:=by
       rw [List.filter_eq_self];intro x hx;simp only [ne_eq,decide_eq_true_eq];rintro rfl;exact hd.1 hx
      rw [List.filter_cons_of_neg (by simp),e];simp
    rw [List.filter_cons_of_pos (by simpa using ha)]
    simp only [agt];omega
  omega
theorem DK {n:Nat} {l:List Nat} (hd:l.Nodup) (h: ∀x∈l,x<n) (hn:n<=akt l): ∀x,x<n->x∈l:=by
 intro x hx;refine M2 fun hc=>?_
 have:=O' n (x::l) (by rw [afb];exact ⟨hc,hd⟩) (by
  intro y hy;rcases aig.1 hy with rfl|hy
  · exact hx
  exact h y hy)
 simp only [agt] at this;omega
def fT (l:List Pt):Prop:= ∀i,i+1<akt l->(l[i]!).1<(l[i+1]!).1
def bw (l:List Pt):Prop:=akt l<=64/\(∀p∈l,fw p)/\fT l
noncomputable def sW (l:List Pt):Int:=if 64<(akt l) then 4 else if¬(∀p∈l,fw p) then 8 else if¬fT l then 32 else 0
theorem dP {l:List Pt}:sW l=0↔bw l:=by
 unfold sW bw
 by_cases h1:64<akt l
 · rw [pp h1];simp;omega
 rw [rc h1]
 by_cases h2: ∀p∈l,fw p
 · rw [rc (v6.2 h2)]
   by_cases h3:fT l
   · rw [rc (v6.2 h3)]
     exact ⟨fun _=>⟨by omega,h2,h3⟩,fun _=>rfl⟩
   rw [pp h3]
   exact ⟨fun h=>(by cases h),fun h=>absurd h.2.2 h3⟩
 rw [pp h2]
 constructor
 · intro h;cases h
 intro h;exact absurd h.2.1 h2
theorem aR {n:Nat} (h:n<1000000000):aa .i64 ((n:Int)+1)=((n+1:Nat):Int):=by rw [wi];omega
theorem mT {n:Nat} (h:n<1000000000) (h1:1<=n):aa .i64 ((n:Int) -1)=((n-1:Nat):Int):=by rw [wi];omega
theorem ay (n:Nat):IR n=(n:Int):=rfl
theorem MF (l:List Pt) (h:(akt l)<=64):az iu (1,l)=aku (.done (if fT l then 0 else 32)):=by
 by_cases hl:(akt l)<=1
 · have:fT l:=fun i hi=>by omega
   rw [pp this];refine aH ?_;unfold iu;rw [ay]
   have:am6 ((1:Int)<((akt l):Int))=am1:=by simp;omega
   simp [this]
 have key:=dh (body:=iu) (fun i=>(((i+1:Nat):Int),l)) (akt l-1) (fun i=>(l[i+1]!).1<=(l[i]!).1) (r:= .done 32) (e:= .done 0) (by
  intro i hi;have e1:am6 (((i+1:Nat):Int)<((akt l):Int))=alt:=by simp;omega
  have e2:aa .i64 (((i+1:Nat):Int) -1)=(i:Int):=by rw [wi];omega
  have hb:iu (((i+1:Nat):Int),l)=bif am6 ((l[i+1]!).1<=(l[i]!).1) then aku (.done (.done 32)) else aku (.next (((i+1+1:Nat):Int),l)):=by
   unfold iu;simp only [ay,e1,lw,e2,ar l i (by omega),ar l (i+1) (by omega),aj,aR (show i+1<1000000000 by omega)]
  constructor
  · intro hc;rw [hb,decide_eq_true hc];rfl
  · intro hc;rw [hb,decide_eq_false hc];rfl) (by
  unfold iu
  have:am6 (((akt l-1+1:Nat):Int)<IR (akt l))=am1:=by rw [ay];simp;omega
  simp only [this,ol])
 by_cases hs:fT l
 · rw [pp hs]
   refine key.2 fun i hi=>?_
   have:=hs i (by omega)
   omega
 rw [rc hs]
 refine key.1 ?_;unfold fT at hs;simp only [F0s] at hs;obtain ⟨i,hi,h2⟩:=hs;exact ⟨i,by omega,by omega⟩
theorem jS (f:Field):eJ f=aku (sW f.am):=by
 unfold eJ sW;rw [ay]
 by_cases h:64<akt f.am
 · have:am6 ((64:Int)<((akt f.am):Int))=alt:=by simp;omega
   rw [this,pp h];rfl
 have:am6 ((64:Int)<((akt f.am):Int))=am1:=by simp;omega
 rw [this,rc h];simp only [ol];generalize f.am=l at*;have key:=dh (body:=lG) (fun i=>((i:Int),l)) (akt l) (fun i=> ¬fw l[i]!) (r:=8) (e:=if fT l then 0 else 32) (by
  intro i hi;have e1:am6 ((i:Int)<((akt l):Int))=alt:=by simp;omega
  have hb:lG ((i:Int),l)=bif (if fw l[i]! then (0:Int) else 8) !=0 then aku (.done 8) else aku (.next (((i+1:Nat):Int),l)):=by
   unfold lG;simp only [ay,e1,lw,ar l i (by omega),aj,fP,aR (show i<1000000000 by omega)]
  constructor
  · intro hc;rw [hb,rc hc];rfl
  · intro hc;rw [hb,pp (v6.1 hc)];rfl) (by
  unfold lG
  have:am6 (((akt l):Int)<IR (akt l))=am1:=by rw [ay];simp
  simp only [this,ol];exact MF l (by omega))
 by_cases hp: ∀p∈l,fw p
 · rw [rc (v6.2 hp)]
   refine (key.2 fun i hi=>?_).trans ?_
   · exact v6.2 (hp _ (aX hi))
   by_cases hs:fT l
   · simp [hs]
   simp [hs]
 rw [pp hp]
 refine key.1 ?_;obtain ⟨p,hp⟩:=F0s.1 hp;obtain ⟨hm,h2⟩:=af7.1 hp;obtain ⟨i,hi,rfl⟩:=aS.1 hm;exact ⟨i,hi,h2⟩
theorem MG (l:List Pt) (h:(akt l)<=64):az iy (l,((akt l):Int),0,l)=aku (.done (if fT l then 0 else 32)):=by
 have key:=dh (body:=iy) (fun i=>(l,((akt l):Int),(i:Int),l)) (akt l) (fun i=>0<i/\(l[i]!).1<=(l[i-1]!).1) (r:= .done 32) (e:= .done 0) (by
  intro i hi;have e1:am6 ((i:Int)<((akt l):Int))=alt:=by simp;omega
  by_cases h0:0<i
  · have e3:am6 ((0:Int)<(i:Int))=alt:=by simp;omega
    have hb:iy (l,((akt l):Int),(i:Int),l)=bif am6 ((l[i]!).1<=(l[i-1]!).1) then aku (.done (.done 32)) else aku (.next (l,((akt l):Int),((i+1:Nat):Int),l)):=by
     unfold iy;simp only [e1,e3,lw,ar l i (by omega),mT (show i<1000000000 by omega) h0,ar l (i-1) (by omega),aj,aR (show i<1000000000 by omega)]
    constructor
    · intro hc;rw [hb,decide_eq_true hc.2];rfl
    intro hc
    have: ¬(l[i]!).1<=(l[i-1]!).1:=fun h=>hc ⟨h0,h⟩
    rw [hb,decide_eq_false this];rfl
  · have e3:am6 ((0:Int)<(i:Int))=am1:=by simp;omega
    constructor
    · intro hc;exact absurd hc.1 h0
    intro _
    unfold iy;simp only [e1,e3,lw,ol,ar l i (by omega),aj,aR (show i<1000000000 by omega)]) (by
  unfold iy
  have:am6 (((akt l):Int)<((akt l):Int))=am1:=by simp
  simp only [this,ol])
 by_cases hs:fT l
 · rw [pp hs]
   refine key.2 fun i hi=>?_
   rintro ⟨h0,h1⟩
   have:=hs (i-1) (by omega)
   rw [show i-1+1=i by omega] at this
   omega
 rw [rc hs]
 refine key.1 ?_;unfold fT at hs;simp only [F0s] at hs;obtain ⟨i,hi,h2⟩:=hs;exact ⟨i+1,by omega,by omega,by rw [show i+1-1=i by omega];omega⟩
theorem fQ (f:Field):dm f=aku (sW f.am):=by
 unfold dm sW;rw [ay]
 by_cases h:64<akt f.am
 · have:am6 ((64:Int)<((akt f.am):Int))=alt:=by simp;omega
   rw [this,pp h];rfl
 have:am6 ((64:Int)<((akt f.am):Int))=am1:=by simp;omega
 rw [this,rc h];simp only [ol];generalize f.am=l at*;have key:=dh (body:=lM) (fun i=>(l,((akt l):Int),(i:Int),l)) (akt l) (fun i=> ¬fw l[i]!) (r:=8) (e:=if fT l then 0 else 32) (by
  intro i hi;have e1:am6 ((i:Int)<((akt l):Int))=alt:=by simp;omega
  have hb:lM (l,((akt l):Int),(i:Int),l)=bif (if fw l[i]! then (0:Int) else 8) !=0 then aku (.done (if fw l[i]! then (0:Int) else 8)) else aku (.next (l,((akt l):Int),((i+1:Nat):Int),l)):=by
   unfold lM;simp only [e1,lw,ar l i (by omega),aj,fg,aR (show i<1000000000 by omega)]
  constructor
  · intro hc;rw [hb,rc hc];rfl
  · intro hc;rw [hb,pp (v6.1 hc)];rfl) (by
  unfold lM
  have:am6 (((akt l):Int)<((akt l):Int))=am1:=by simp
  simp only [this,ol];exact MG l (by omega))
 by_cases hp: ∀p∈l,fw p
 · rw [rc (v6.2 hp)]
   refine (key.2 fun i hi=>?_).trans ?_
   · exact v6.2 (hp _ (aX hi))
   by_cases hs:fT l
   · simp [hs]
   simp [hs]
 rw [pp hp]
 refine key.1 ?_;obtain ⟨p,hp⟩:=F0s.1 hp;obtain ⟨hm,h2⟩:=af7.1 hp;obtain ⟨i,hi,rfl⟩:=aS.1 hm;exact ⟨i,hi,h2⟩
theorem dH {l:List Pt} (h:fT l) {i j:Nat} (lg:i<j) (hj:j<akt l):(l[i]!).1<(l[j]!).1:=by
 induction j with
 |zero=>omega
 |succ j ih=>
  have h1:=h j hj
  by_cases he:i=j
  · subst he;exact h1
  have:=ih (by omega) (by omega);omega
theorem AX {l:List Pt} (h:fT l) {i j:Nat} (hi:i<akt l) (hj:j<akt l) (he:(l[i]!).1=(l[j]!).1):i=j:=by
 rcases Nat.lt_trichotomy i j with h1|h1|h1
 · have:=dH h h1 hj;omega
 · exact h1
 have:=dH h h1 hi;omega
theorem DL (l:List Pt) (id:Int) (hl:(akt l)<=1000000):(∀k,k<akt l->(l[k]!).1=id->(∀j,j<k->(l[j]!).1≠id)->eS ⟨l⟩ id=aku (k:Int))/\((∀k,k<akt l->(l[k]!).1≠id)->eS ⟨l⟩ id=aku (-1)):=by
 unfold eS;refine hO (body:=qD) (fun i=>(id,(i:Int),l)) (akt l) (fun i=>(l[i]!).1=id) (fun i=>(i:Int)) (fun i hi=>?_) ?_
 · have e1:am6 ((i:Int)<((akt l):Int))=alt:=by simp;omega
   have hb:qD (id,(i:Int),l)=bif (l[i]!).1==id then aku (.done (i:Int)) else aku (.next (id,((i+1:Nat):Int),l)):=by
    unfold qD;simp only [ay,e1,lw,ar l i hi,aj,aR (show i<1000000000 by omega)]
   constructor
   · intro hc;rw [hb,ei hc];rfl
   intro hc;rw [hb,dO hc];rfl
 unfold qD
 have:am6 (((akt l):Int)<((akt l):Int))=am1:=by simp
 simp only [ay,this,ol]
theorem vz {l:List Pt} (hs:fT l) (hl:(akt l)<=1000000) {k:Nat} (hk:k<akt l) {id:Int} (he:(l[k]!).1=id):eS ⟨l⟩ id=aku (k:Int):=by
 refine (DL l id hl).1 k hk he fun j hj hc=>?_
 have:=dH hs hj hk
 omega
theorem aeF {l:List Pt} (hl:(akt l)<=1000000) {id:Int} (h: ∀k,k<akt l->(l[k]!).1≠id):eS ⟨l⟩ id=aku (-1):=(DL l id hl).2 h
theorem MH (f:Nat->Int) (id:Int): ∀(n:Nat),(∀i j,i<j->j<n->f i<f j)-> ∃m,m<=n/\(∀i,i<m->f i<id)/\(∀i,m<=i->i<n->id<=f i)
 |0,_=>⟨0,afS _,fun i h=>by omega,fun i _ h=>by omega⟩
 |n+1,h=>by
  obtain ⟨m,h1,h2,h3⟩:=MH f id n fun i j a b=>h i j a (by omega)
  by_cases hm:m=n
  · by_cases hf:f n<id
    · refine ⟨n+1,afS _,fun i hi=>?_,fun i a b=>by omega⟩
      by_cases he:i=n
      · subst he;exact hf
      exact h2 i (by omega)
    refine ⟨n,by omega,fun i hi=>h2 i (by omega),fun i a b=>?_⟩
    have:i=n:=by omega
    subst this;omega
  refine ⟨m,by omega,h2,fun i a b=>?_⟩
  by_cases he:i=n
  · subst he
    have:=h m i (by omega) (by omega)
    have:=h3 m (afS _) (by omega)
    omega
  exact h3 i a (by omega)
theorem fR {α:Type} [Inhabited α] {l:List α}:l.Nodup↔ ∀i j,i<j->j<akt l->l[i]!≠l[j]!:=by
 unfold List.Nodup;rw [List.pairwise_iff_getElem];constructor
 · intro h i j lg hj
   rw [getElem!_pos l i (by omega),getElem!_pos l j hj]
   exact h i j (by omega) hj lg
 intro h i j hi hj lg
 have:=h i j lg hj
 rwa [getElem!_pos l i hi,getElem!_pos l j hj] at this
theorem cf {α:Type} [Inhabited α] {l:List α} {k:Nat} {x:α}:x∈l.take k↔ ∃i,i<k/\i<akt l/\l[i]! =x:=by
 rw [aS];constructor
 · rintro ⟨i,hi,rfl⟩
   rw [af2] at hi;exact ⟨i,by omega,by omega,(iN (by omega)).symm⟩
 rintro ⟨i,h1,h2,rfl⟩
 exact ⟨i,by rw [af2];omega,iN h1⟩
theorem ek {α:Type} [Inhabited α] {l:List α} {k:Nat} (h:k<akt l):l.take (k+1)=l.take k++[l[k]!]:=by
 rw [List.take_add_one,afI h,getElem!_pos l k h];rfl
def marks (l:List Bool):List Int->List Bool
 | []=>l
 |x::r=>marks (bZ l x alt) r
theorem mr: ∀(r:List Int) (l:List Bool),(marks l r).length=akt l
 | [],_=>rfl
 |x::r,l=>by rw [marks,mr r,xW]
theorem AY: ∀(r:List Int) (l:List Bool) (x:Int),marks l (r++[x])=bZ (marks l r) x alt
 | [],_,_=>rfl
 |y::r,l,x=>by
  show marks (bZ l y alt) (r++[x])=_;rw [AY r];rfl
theorem nM : ∀ (r : List Int) (l : List Bool) (i : Nat), (∀ x ∈ r, 0 <= x) -> i < (akt l) -> (marks l r)[i]! = (l[i]! || am6 ((i : Int) ∈ r))
  | [], l, i, _, _ => by simp [marks]
  | x :: r, l, i, h, hi => by
    rw [marks, nM r _ i (fun y hy => h y (by simp [hy])) (by rw [xW]; exact hi)]
    obtain ⟨k, rfl⟩ := af5 (h x (by simp))
    rw [kM, aU]
    by_cases e : i = k
    · subst e; rw [pp ⟨rfl, hi⟩]; simp
    rw [rc (fun h => e h.1)]
    have : ((i : Int) ∈ (k : Int) :: r) ↔ (i : Int) ∈ r := by
      rw [aig]
      constructor
      · rintro (h | h)
        · omega
        exact h
      exact .inr
    simp only [this]
theorem Gh (l:List Bool) (h:(akt l)<=1000000):eb l am1=aku (am6 (am1∈l)):=by
 unfold eb ov;have key:=hO (body:=gp) (fun i=>(l,am1,((akt l):Int),(i:Int))) (akt l) (fun i=>l[i]! =am1) (fun i=>(i:Int)) (e:= -1) (fun i hi=>by
  have e1:am6 ((i:Int)<((akt l):Int))=alt:=by simp;omega
  have hb:gp (l,am1,((akt l):Int),(i:Int))=bif am1==l[i]! then aku (.done (i:Int)) else aku (.next (l,am1,((akt l):Int),((i+1:Nat):Int))):=by
   unfold gp;simp only [e1,lw,ar l i hi,aj,aR (show i<1000000000 by omega)]
  constructor
  · intro hc;rw [hb,hc];rfl
  · intro hc
    have:l[i]! =alt:=by simpa using hc
    rw [hb,this];rfl) (by
  unfold gp
  have:am6 (((akt l):Int)<((akt l):Int))=am1:=by simp
  simp only [this,ol])
 rw [ay]
 by_cases hx:am1∈l
 · obtain ⟨i,hi,he⟩:=aS.1 hx
   obtain ⟨k,h1,h2,h3⟩:=least (c:=fun i=>l[i]! =am1) ⟨i,hi,he⟩
   have:=key.1 k h1 h2 h3
   rw [show ((0:Nat):Int)=0 from rfl] at this;rw [this];have e:am6 ((0:Int)<=(k:Int))=alt:=by simp
   simp [hx]
 have:=key.2 fun i hi he=>hx (aS.2 ⟨i,hi,he⟩)
 rw [show ((0:Nat):Int)=0 from rfl] at this;rw [this];simp [hx]
structure eK (s:bc):Prop where
 n1:1<=akt s.aA
 n2:(akt s.aA)<=200
 ul:(akt s.be)=akt s.aA
 fr: ∀x∈s.bi,0<=x/\x<akt s.aA
 fd:s.bi.Nodup
 uf: ∀i,i<akt s.aA->(s.be[i]! =alt↔(i:Int)∉s.bi)
 us: ∀i,i<akt s.aA->0<=s.aA[i]!/\s.aA[i]!<=1000000/\(s.be[i]! =alt->1<=s.aA[i]!)
theorem Pa (aA:List Int) (be:List Bool) (fr:List Int) (h1:(akt aA)<=200) (h2:(akt be)=akt aA):
 az gm (aA,((akt aA):Int),0,aA,be,fr)=aku (.done (if∀i,i<akt aA->0<=aA[i]!/\aA[i]!<=1000000/\(be[i]! =alt->1<=aA[i]!) then 0 else 8)):=by
 have key:=dh (body:=gm) (fun i=>(aA,((akt aA):Int),(i:Int),aA,be,fr)) (akt aA) (fun i=> ¬(0<=aA[i]!/\aA[i]!<=1000000/\(be[i]! =alt->1<=aA[i]!))) (r:= .done 8) (e:= .done 0) (fun i hi=>by
  have e1:am6 ((i:Int)<((akt aA):Int))=alt:=by simp;omega
  have hb:gm (aA,((akt aA):Int),(i:Int),aA,be,fr)=bif am6 (aA[i]!<0) then aku (.done (.done 8)) else bif am6 (1000000<aA[i]!) then aku (.done (.done 8)) else bif aA[i]! ==0 then (bif be[i]! then aku (.done (.done 8)) else aku (.next (aA,((akt aA):Int),((i+1:Nat):Int),aA,be,fr))) else aku (.next (aA,((akt aA):Int),((i+1:Nat):Int),aA,be,fr)):=by
   unfold gm;simp only [e1,lw,ar aA i hi,ar be i (by omega),aj,aR (show i<1000000000 by omega)]
  rw [hb];generalize aA[i]! =u at*
  by_cases a1:u<0
  · simp [a1];omega
  · by_cases a2:1000000<u
    · simp [a1,a2];omega
    by_cases a3:u=0
    · subst a3
      cases be[i]!<;>simp
    have a4:1<=u:=by omega
    have a5:0<=u:=by omega
    have a6:u<=1000000:=by omega
    simp [a1,a2,dO a3,a4,a5,a6]) (by
  unfold gm
  have:am6 (((akt aA):Int)<((akt aA):Int))=am1:=by simp
  simp only [this,ol])
 by_cases hc: ∀i,i<akt aA->0<=aA[i]!/\aA[i]!<=1000000/\(be[i]! =alt->1<=aA[i]!)
 · rw [pp hc]
   exact key.2 fun i hi=>v6.2 (hc i hi)
 rw [rc hc]
 simp only [F0s] at hc;obtain ⟨i,hi,hx⟩:=hc;exact key.1 ⟨i,hi,by simpa only [F0s] using hx⟩
theorem uF (s:bc) (hf:(akt s.bi)<=1000000):px s=aku (if eK s then 0 else 8):=by
 obtain ⟨aA,be,fr⟩:=s;dsimp only at hf;unfold px;simp only [ay]
 by_cases a1:(akt aA)<1
 · have e:am6 (((akt aA):Int)<1)=alt:=by simp;omega
   rw [e,rc (fun h=>by have:=h.n1;dsimp only at this;omega)];rfl
 have e1:am6 (((akt aA):Int)<1)=am1:=by simp;omega
 by_cases a2:200<akt aA
 · have e:am6 (200<((akt aA):Int))=alt:=by simp;omega
   rw [e1,e,rc (fun h=>by have:=h.n2;dsimp only at this;omega)];rfl
 have e2:am6 (200<((akt aA):Int))=am1:=by simp;omega
 by_cases a3:(akt be)=akt aA
 case neg=>
  have e:(((akt be):Int) !=((akt aA):Int))=alt:=by simp;omega
  rw [e1,e2,e,rc (fun h=>a3 h.ul)];rfl
 have e3:(((akt be):Int) !=((akt aA):Int))=am1:=by simp;omega
 simp only [e1,e2,e3,ol,aZ (show (akt be)<=1048576 by omega),aj]
 have BY:=Pa aA be fr (by omega) a3
 have key:=dh (body:=p4 be) (fun k=>(fr,((akt fr):Int),(k:Int),aA,be,fr,((akt aA):Int),marks be (fr.take k))) (akt fr)
  (fun k=>fr[k]!<0\/((akt aA):Int)<=fr[k]!\/(marks be (fr.take k))[(fr[k]!).toNat]! =alt) (r:=8)
  (e:=if am1∈marks be fr then 8 else if∀i,i<akt aA->0<=aA[i]!/\aA[i]!<=1000000/\(be[i]! =alt->1<=aA[i]!) then 0 else 8) (fun k hk=>by
   have f1:am6 ((k:Int)<((akt fr):Int))=alt:=by simp;omega
   have f2:((marks be (fr.take k)).length==akt be)=alt:=by rw [mr];simp
   have f3:am6 ((0:Int)<=(k:Int))=alt:=by simp
   have f4: ∀x:Int,((bZ (marks be (fr.take k)) x alt).length==(marks be (fr.take k)).length)=alt:=by intro x;rw [xW];simp
   have f5:marks be (fr.take (k+1))=bZ (marks be (fr.take k)) fr[k]! alt:=by rw [ek hk,AY]
   unfold p4;simp only [f1,f2,f3,f4,lw,beq_self_eq_true,ar fr k hk,aj,aR (show k<1000000000 by omega),f5]
   clear f5;generalize fr[k]! =x
   by_cases b1:x<0
   · simp [b1]
   · by_cases b2:((akt aA):Int)<=x
     · simp [b1,b2]
     simp only [b1,b2,decide_false,ol,false_or]
     rw [dG (l:=marks be (fr.take k)) (i:=x) (by omega) (by rw [mr];omega)]
     simp only [aj];cases (marks be (fr.take k))[x.toNat]!<;>simp) (by
   have f1:am6 (((akt fr):Int)<((akt fr):Int))=am1:=by simp
   unfold p4;simp only [f1,ol,agx];rw [Gh _ (by rw [mr];omega)]
   have f2:((marks be fr).length==akt be)=alt:=by rw [mr];simp
   simp only [f2,lw,aj,ay,BY]
   by_cases hx:am1∈marks be fr
   · simp [hx]
   simp [hx])
 have h0:marks be (fr.take 0)=be:=rfl;rw [show ((0:Nat):Int)=0 from rfl,h0] at key
 by_cases bad: ∃k,k<akt fr/\(fr[k]!<0\/((akt aA):Int)<=fr[k]!\/(marks be (fr.take k))[(fr[k]!).toNat]! =alt)
 · rw [key.1 bad,rc]
   intro ok;obtain ⟨k,hk,hb⟩:=bad;have hr:=ok.fr fr[k]! (aX hk);dsimp only at hr;rcases hb with hb|hb|hb
   · omega
   · omega
   rw [nM _ _ _ (fun x hx=>(ok.fr x (ae9 hx)).1) (by omega)] at hb
   have hi:((fr[k]!).toNat:Int)=fr[k]!:=by omega
   rw [hi,Bool.or_eq_true] at hb;rcases hb with hb|hb
   · have:=(ok.uf (fr[k]!).toNat (by show _<akt aA;omega)).1 hb
     rw [hi] at this;exact this (aX hk)
   have hm:fr[k]!∈fr.take k:=by simpa using hb
   obtain ⟨j,h1,h2,h3⟩:=cf.1 hm;exact fR.1 ok.fd j k h1 hk h3
 have Pb: ∀k,k<akt fr->0<=fr[k]!/\fr[k]!<akt aA/\(marks be (fr.take k))[(fr[k]!).toNat]! =am1:=by
  intro k hk;refine ⟨?_,?_,?_⟩
  · exact Int.not_lt.1 fun h=>bad ⟨k,hk,.inl h⟩
  · exact Int.not_le.1 fun h=>bad ⟨k,hk,.inr (.inl h)⟩
  exact afQ _▸fun h=>bad ⟨k,hk,.inr (.inr h)⟩
 rw [key.2 fun k hk hb=>bad ⟨k,hk,hb⟩]
 have Pc: ∀x∈fr,0<=x/\x<((akt aA):Int):=by
  intro x hx;obtain ⟨k,hk,rfl⟩:=aS.1 hx;exact ⟨(Pb k hk).1,(Pb k hk).2.1⟩
 have g2: ∀k,k<akt fr->be[(fr[k]!).toNat]! =am1/\fr[k]!∉fr.take k:=by
  intro k hk;obtain ⟨c1,c2,c3⟩:=Pb k hk;rw [nM _ _ _ (fun x hx=>(Pc x (ae9 hx)).1) (by omega),show ((fr[k]!).toNat:Int)=fr[k]! by omega,afV] at c3
  exact ⟨c3.1,by simpa using c3.2⟩
 have nd:fr.Nodup:=fR.2 fun i j lg hj he=>(g2 j hj).2 (cf.2 ⟨i,lg,by omega,he⟩)
 by_cases hx:am1∈marks be fr
 · rw [pp hx,rc]
   intro ok;obtain ⟨i,hi,he⟩:=aS.1 hx;rw [mr] at hi;rw [nM _ _ _ (fun x hx=>(Pc x hx).1) hi,afV] at he
   have h3:(i:Int)∉fr:=by simpa using he.2
   have:=(ok.uf i (by show _<akt aA;omega)).2 h3
   rw [show be[i]! =am1 from he.1] at this;cases this
 rw [rc hx]
 by_cases hu: ∀i,i<akt aA->0<=aA[i]!/\aA[i]!<=1000000/\(be[i]! =alt->1<=aA[i]!)
 · rw [pp hu,pp]
   refine ⟨by show 1<=akt aA;omega,by show (akt aA)<=200;omega,a3,Pc,nd,fun i hi=>?_,hu⟩
   dsimp only at hi ⊢;constructor
   · intro h1 h2
     obtain ⟨k,hk,he⟩:=aS.1 h2
     have:=(g2 k hk).1
     rw [he,show ((i:Int)).toNat=i by omega,h1] at this
     cases this
   intro h1
   refine M2 fun h2=>hx ?_
   refine aS.2 ⟨i,by rw [mr];omega,?_⟩
   rw [nM _ _ _ (fun x hx=>(Pc x hx).1) (by omega)]
   have:be[i]! =am1:=by simpa using h2
   rw [this];simpa using h1
 rw [rc hu,rc]
 intro ok;exact hu ok.us
theorem eK.fl {s:bc} (ok:eK s):(akt s.bi)<=(akt s.aA):=by
 have h:=O' (akt s.aA) (s.bi.map akr) (by
  rw [fR];intro i j lg hj he;rw [afc] at hj;have e: ∀k,k<akt s.bi->(s.bi.map akr)[k]! =(s.bi[k]!).toNat:=by
   intro k hk;rw [getElem!_pos _ k (by simpa using hk),List.getElem_map,getElem!_pos s.bi k hk]
  rw [e i (by omega),e j hj] at he
  have h1:=(ok.fr _ (aX (show i<(akt s.bi) by omega))).1
  have h2:=(ok.fr _ (aX hj)).1;exact fR.1 ok.fd i j lg hj (by omega)) (by
  intro x hx;obtain ⟨y,hy,rfl⟩:=adc.1 hx
  have:=ok.fr y hy
  omega)
 rwa [afc] at h
def tU (s:bc) (h:Int×Int):Prop:=0<=h.1/\h.1<akt s.aA/\s.be[h.1.toNat]! =alt/\s.aA[h.1.toNat]! =h.2
def fD (s:bc) (h:Int×Int):bc:=⟨s.aA,s.be.set h.1.toNat am1,s.bi++[h.1]⟩
def cY (s:bc):Nat:=(s.bi[akt s.bi-1]!).toNat
def xn (s:bc):Prop:=0<akt s.bi/\s.aA[cY s]!<1000000
def gr (s:bc):bc:=⟨s.aA.set (cY s) (s.aA[cY s]!+1),s.be.set (cY s) alt,s.bi.take (akt s.bi-1)⟩
def kC (s:bc):Int×Int:=((cY s:Int),s.aA[cY s]!+1)
theorem DM {s:bc} (ok:eK s) (h:Int×Int):yh s h=aku (am6 (tU s h),0):=by
 have hl:=ok.fl;have hn:=ok.n2;have hu:=ok.ul;unfold yh tU;rw [uF s (by omega),pp ok]
 simp only [aj,show ((0:Int) !=0)=am1 from rfl,ol,ay]
 by_cases a1:0<=h.1
 · by_cases a2:h.1<akt s.aA
   · have e2:am6 (h.1<((akt s.be):Int))=alt:=by simp;omega
     simp only [a1,a2,e2,decide_true,lw,dG (l:=s.be) a1 (by omega),dG (l:=s.aA) a1 a2,aj,true_and]
     generalize s.aA[h.1.toNat]! =u;cases s.be[h.1.toNat]!<;>simp [Rb]
   have e2:am6 (h.1<((akt s.be):Int))=am1:=by simp;omega
   simp [a1,a2,e2]
 simp [a1]
theorem J7 {s:bc} (ok:eK s) {h:Int×Int} (lv:tU s h):zf s h=aku (fD s h,0):=by
 have hl:=ok.fl;have hn:=ok.n2;have hu:=ok.ul;unfold zf;rw [DM ok,decide_eq_true lv];unfold rh;obtain ⟨l1,l2,l3,l4⟩:=lv;have e1:bZ s.be h.1 am1=s.be.set h.1.toNat am1:=rfl
 simp only [aj,show ((0:Int) !=0)=am1 from rfl,ol,If,aZ (show (akt s.aA)<=1048576 by omega),aZ (show (akt s.be)<=1048576 by omega),aZ (show (akt s.bi)<=1048576 by omega),
  bT (show (akt s.bi)+[h.1].length<=1048576 by simp;omega),dG (l:=s.be) l1 (by omega),e1,fD]
theorem uG {s:bc} (ok:eK s):nb s=aku s:=by
 have hl:=ok.fl;have hn:=ok.n2;have hu:=ok.ul;unfold nb;simp only [aj,aZ (show (akt s.aA)<=1048576 by omega),aZ (show (akt s.be)<=1048576 by omega),aZ (show (akt s.bi)<=1048576 by omega)]
theorem Gi {s:bc} (ok:eK s) {h:Int×Int} (lv:tU s h):nI s h=aku (fD s h):=by
 have hl:=ok.fl;have hn:=ok.n2;have hu:=ok.ul;obtain ⟨l1,l2,l3,l4⟩:=lv;unfold nI;rw [uG ok];have e1:bZ s.be h.1 am1=s.be.set h.1.toNat am1:=rfl;simp only [aj,bT (show (akt s.bi)+[h.1].length<=1048576 by simp;omega),dG (l:=s.be) l1 (by omega),e1,fD]
theorem V4 {s:bc} (ok:eK s) {h:Int×Int} (lv:tU s h):eK (fD s h):=by
 have hl:=ok.fl;have hn:=ok.n2;have hu:=ok.ul;obtain ⟨l1,l2,l3,l4⟩:=lv;have nf:h.1∉s.bi:=by
  have:=(ok.uf h.1.toNat (by omega)).1 l3
  rwa [show (h.1.toNat:Int)=h.1 by omega] at this
 refine ⟨ok.n1,ok.n2,?_,?_,?_,?_,?_⟩
 · show (s.be.set _ _).length=_;rw [ut];exact hu
 · intro x hx
   rcases afR.1 hx with hx|hx
   · exact ok.fr x hx
   rw [afm] at hx;subst hx;exact ⟨l1,l2⟩
 · show (s.bi++[h.1]).Nodup
   rw [List.nodup_append];refine ⟨ok.fd,by simp,?_⟩
   intro x hx y hy he;rw [afm] at hy;subst hy;subst he;exact nf hx
 · intro i hi
   change i<(akt s.aA) at hi;show (s.be.set h.1.toNat am1)[i]! =alt↔(i:Int)∉s.bi++[h.1];rw [aU,afR,afm]
   by_cases e:i=h.1.toNat
   · rw [pp ⟨e,by omega⟩]
     have:(i:Int)=h.1:=by omega
     simp [this]
   rw [rc (fun k=>e k.1),ok.uf i hi]
   have: ¬(i:Int)=h.1:=by omega
   simp [this]
 intro i hi
 change i<(akt s.aA) at hi;obtain ⟨u1,u2,u3⟩:=ok.us i hi;refine ⟨u1,u2,?_⟩;show (s.be.set h.1.toNat am1)[i]! =alt->_;rw [aU];split
 · intro h;cases h
 exact u3
theorem zl {s:bc} (ok:eK s) (h:0<akt s.bi):cY s<akt s.aA/\(cY s:Int)=s.bi[akt s.bi-1]!/\(cY s:Int)∈s.bi:=by
 have hm:=aX (l:=s.bi) (i:=akt s.bi-1) (by omega)
 have:=ok.fr _ hm
 have e:(cY s:Int)=s.bi[akt s.bi-1]!:=by unfold cY;omega
 refine ⟨by omega,e,by rw [e];exact hm⟩
theorem jT {α:Type} (l:List α) (n:Nat) (h:n<=akt l):fW l 0 (n:Int)=aku (l.take n):=by
 unfold fW;rw [pp ⟨by omega,by omega,by omega⟩]
 simp
theorem BZ {s:bc} (ok:eK s):zg s=aku (if xn s then (gr s,kC s,0) else (⟨[],[],[]⟩,(0,0),18)):=by
 have hl:=ok.fl;have hn:=ok.n2;have hu:=ok.ul;unfold zg xn;rw [uF s (by omega),pp ok]
 simp only [aj,show ((0:Int) !=0)=am1 from rfl,ol,ay]
 by_cases a1:0<akt s.bi
 · obtain ⟨n1,n2,n3⟩:=zl ok a1
   have e1:(((akt s.bi):Int)==0)=am1:=dO (by omega)
   have e2:aa .i64 (((akt s.bi):Int) -1)=((akt s.bi-1:Nat):Int):=mT (by omega) (by omega)
   unfold sP;simp only [e1,ol,ay,e2,jT s.bi (akt s.bi-1) (by omega),aj,aZ (show (s.bi.take (akt s.bi-1)).length<=1048576 by rw [af2];omega),
    ar s.bi (akt s.bi-1) (by omega),<- n2,ar s.aA (cY s) n1]
   obtain ⟨u1,u2,u3⟩:=ok.us (cY s) n1
   by_cases a2:s.aA[cY s]! =1000000
   · have e3:(s.aA[cY s]! ==1000000)=alt:=by simpa using a2
     rw [e3,rc (by omega)];rfl
   have e3:(s.aA[cY s]! ==1000000)=am1:=by simpa using a2
   have e4:aa .i64 (s.aA[cY s]!+1)=s.aA[cY s]!+1:=by rw [wi];omega
   rw [e3,pp (by omega)]
   simp only [ol,aZ (show (akt s.aA)<=1048576 by omega),aZ (show (akt s.be)<=1048576 by omega),aj,ar s.be (cY s) (by omega),ar s.aA (cY s) n1,e4,kM,
    ar (s.aA.set (cY s) (s.aA[cY s]!+1)) (cY s) (by rw [ut];exact n1),aU,n1,and_self,if_true,gr,kC]
 have e1:(((akt s.bi):Int)==0)=alt:=ei (by omega)
 rw [e1,rc (fun h=>a1 h.1)];rfl
theorem qg {s:bc} (ok:eK s):ga s=aku (am6 (xn s)):=by
 have hl:=ok.fl;have hn:=ok.n2;have hu:=ok.ul;unfold ga xn;simp only [ay]
 by_cases a1:0<akt s.bi
 · obtain ⟨n1,n2,n3⟩:=zl ok a1
   have e1:am6 ((0:Int)<((akt s.bi):Int))=alt:=by simp;omega
   have e2:aa .i64 (((akt s.bi):Int) -1)=((akt s.bi-1:Nat):Int):=mT (by omega) (by omega)
   simp only [e1,e2,lw,ar s.bi (akt s.bi-1) (by omega),aj,<- n2,ar s.aA (cY s) n1,a1,true_and]
 have e1:am6 ((0:Int)<((akt s.bi):Int))=am1:=decide_eq_false (by omega)
 rw [e1];simp [a1]
theorem Gj {s:bc} (ok:eK s) (h:xn s):tJ s=aku (gr s,kC s):=by
 have hl:=ok.fl;have hn:=ok.n2;have hu:=ok.ul;obtain ⟨a1,a2⟩:=h;obtain ⟨n1,n2,n3⟩:=zl ok a1;obtain ⟨u1,u2,u3⟩:=ok.us (cY s) n1;unfold tJ;rw [uG ok];have e2:aa .i64 (((akt s.bi):Int) -1)=((akt s.bi-1:Nat):Int):=mT (by omega) (by omega)
 have e4:aa .i64 (s.aA[cY s]!+1)=s.aA[cY s]!+1:=by rw [wi];omega
 simp only [aj,ay,e2,ar s.bi (akt s.bi-1) (by omega),jT s.bi (akt s.bi-1) (by omega),<- n2,ar s.aA (cY s) n1,ar s.be (cY s) (by omega),e4,kM,
  ar (s.aA.set (cY s) (s.aA[cY s]!+1)) (cY s) (by rw [ut];exact n1),aU,n1,and_self,if_true,gr,kC,Int.toNat_natCast]
theorem V5 {s:bc} (ok:eK s) (h:xn s):eK (gr s):=by
 have hl:=ok.fl;have hn:=ok.n2;have hu:=ok.ul;obtain ⟨a1,a2⟩:=h;obtain ⟨n1,n2,n3⟩:=zl ok a1;have mt: ∀x:Int,x∈s.bi.take (akt s.bi-1)↔(x∈s.bi/\x≠(cY s:Int)):=by
  intro x;rw [cf];constructor
  · rintro ⟨i,h1,h2,rfl⟩
    refine ⟨aX h2,?_⟩;rw [n2];exact fR.1 ok.fd i (akt s.bi-1) h1 (by omega)
  rintro ⟨h1,h2⟩
  obtain ⟨i,hi,rfl⟩:=aS.1 h1;refine ⟨i,?_,hi,rfl⟩;refine M2 fun hc=>h2 ?_
  rw [n2,show i=akt s.bi-1 by omega]
 refine ⟨?_,?_,?_,?_,?_,?_,?_⟩
 · show 1<=(s.aA.set _ _).length;rw [ut];exact ok.n1
 · show (s.aA.set _ _).length<=200;rw [ut];exact ok.n2
 · show (s.be.set _ _).length=(s.aA.set _ _).length;rw [ut,ut];exact hu
 · intro x hx
   show 0<=x/\x<((s.aA.set _ _).length:Int);rw [ut];exact ok.fr x ((mt x).1 hx).1
 · exact ok.fd.sublist (List.take_sublist _ _)
 · intro i hi
   change i<(s.aA.set _ _).length at hi;rw [ut] at hi;show (s.be.set (cY s) alt)[i]! =alt↔(i:Int)∉s.bi.take (akt s.bi-1);rw [aU,mt]
   by_cases e:i=cY s
   · rw [pp ⟨e,by omega⟩]
     simp [e]
   rw [rc (fun k=>e k.1),ok.uf i hi]
   have:(i:Int)≠(cY s:Int):=by omega
   simp [this]
 intro i hi
 change i<(s.aA.set _ _).length at hi;rw [ut] at hi;obtain ⟨u1,u2,u3⟩:=ok.us i hi;show 0<=(s.aA.set (cY s) (s.aA[cY s]!+1))[i]!/\(s.aA.set (cY s) (s.aA[cY s]!+1))[i]!<=1000000/\((s.be.set (cY s) alt)[i]! =alt->1<=(s.aA.set (cY s) (s.aA[cY s]!+1))[i]!);rw [aU,aU]
 by_cases e:i=cY s
 · subst e
   rw [pp ⟨rfl,n1⟩];refine ⟨by omega,by omega,fun _=>by omega⟩
 rw [rc (fun k=>e k.1),rc (fun k=>e k.1)]
 exact ⟨u1,u2,u3⟩
abbrev Ev:=Int×Int×Int×Int×Int
abbrev Ev.at (x:Ev):Int×Int:=(x.1,x.2.1)
abbrev Ev.num (x:Ev):Int:=x.2.2.1
abbrev Ev.ix (x:Ev):Int:=x.2.2.2.1
abbrev Ev.n (x:Ev):Nat:=x.2.2.2.1.toNat
theorem arH {x:Ev} {k:Nat} (h:x.ix<(k:Int)) (h0:0<=x.ix):x.n<k:=by
 show x.ix.toNat<k;omega
theorem arI {x y:Ev} (h0:0<=x.ix) (h1:0<=y.ix) (h:x.ix≠y.ix):x.n≠y.n:=by
 show x.ix.toNat≠y.ix.toNat
 omega
def less (x y:Ev):Prop:=zE (x.1,x.2.1) (y.1,y.2.1)<0\/(zE (x.1,x.2.1) (y.1,y.2.1)=0/\x.2.2.1<y.2.2.1)
theorem Rc {a b:Int×Int}:zE a b<0↔a.1*b.2<b.1*a.2:=by
 unfold zE;rcases fO (a.1*b.2) (b.1*a.2) with ⟨h,e⟩|⟨h,e⟩|⟨h,e⟩<;>rw [e]<;>constructor<;>intro<;>omega
theorem Re {a b:Int×Int}:zE a b=0↔a.1*b.2=b.1*a.2:=by
 unfold zE;rcases fO (a.1*b.2) (b.1*a.2) with ⟨h,e⟩|⟨h,e⟩|⟨h,e⟩<;>rw [e]<;>constructor<;>intro<;>omega
theorem pD {x y:Ev} (h:less x y): ¬less y x:=by
 unfold less at*;rw [Rc,Re] at*;dsimp only at*;rintro (k|k)<;>rcases h with h|h<;>omega
theorem Pd {a1 a2 b1 b2 c1 c2:Int} (ha:1<=a2) (hb:1<=b2) (hc:1<=c2) (h1:a1*b2<=b1*a2) (h2:b1*c2<=c1*b2):a1*c2<=c1*a2:=by
 have e1:a1*b2*c2<=b1*a2*c2:=NE h1 (by omega)
 have e2:b1*c2*a2<=c1*b2*a2:=NE h2 (by omega)
 have e3:(a1*c2)*b2<=(c1*a2)*b2:=by
  have r1:(a1*c2)*b2=a1*b2*c2:=by grind
  have r2:b1*a2*c2=b1*c2*a2:=by grind
  have r3:c1*b2*a2=(c1*a2)*b2:=by grind
  omega
 exact Int.le_of_mul_le_mul_right e3 (by omega)
theorem Hu {a1 a2 b1 b2 c1 c2:Int} (ha:1<=a2) (hb:1<=b2) (hc:1<=c2) (h1:a1*b2<b1*a2) (h2:b1*c2<=c1*b2):a1*c2<c1*a2:=by
 have e1:a1*b2*c2<b1*a2*c2:=afg h1 (by omega)
 have e2:b1*c2*a2<=c1*b2*a2:=NE h2 (by omega)
 have e3:(a1*c2)*b2<(c1*a2)*b2:=by
  have r1:(a1*c2)*b2=a1*b2*c2:=by grind
  have r2:b1*a2*c2=b1*c2*a2:=by grind
  have r3:c1*b2*a2=(c1*a2)*b2:=by grind
  omega
 exact afo e3 (by omega)
theorem Gk {a1 a2 b1 b2 c1 c2:Int} (ha:1<=a2) (hb:1<=b2) (hc:1<=c2) (h1:a1*b2<=b1*a2) (h2:b1*c2<c1*b2):a1*c2<c1*a2:=by
 have e1:a1*b2*c2<=b1*a2*c2:=NE h1 (by omega)
 have e2:b1*c2*a2<c1*b2*a2:=afg h2 (by omega)
 have e3:(a1*c2)*b2<(c1*a2)*b2:=by
  have r1:(a1*c2)*b2=a1*b2*c2:=by grind
  have r2:b1*a2*c2=b1*c2*a2:=by grind
  have r3:c1*b2*a2=(c1*a2)*b2:=by grind
  omega
 exact afo e3 (by omega)
theorem zm {x y z:Ev} (hx:1<=x.2.1) (hy:1<=y.2.1) (hz:1<=z.2.1) (h1: ¬less y x) (h2: ¬less z y): ¬less z x:=by
 unfold less at*;rw [Rc,Re] at*;dsimp only at*;have t1:= @Pd x.1 x.2.1 y.1 y.2.1 z.1 z.2.1 hx hy hz;have t2:= @Hu x.1 x.2.1 y.1 y.2.1 z.1 z.2.1 hx hy hz;have t3:= @Gk x.1 x.2.1 y.1 y.2.1 z.1 z.2.1 hx hy hz;generalize x.1*y.2.1=p at*;generalize y.1*x.2.1=q at*;generalize y.1*z.2.1=r at*;generalize z.1*y.2.1=s at*;generalize x.1*z.2.1=u at*
 generalize z.1*x.2.1=v at*;have a1:p<=q:=by omega
 have a2:r<=s:=by omega
 have a3:=t1 a1 a2;rintro (k|k)
 · omega
 by_cases b1:p<q
 · have:=t2 b1 a2;omega
 by_cases b2:r<s
 · have:=t3 a1 b2;omega
 omega
structure AZ (n:Nat) (x:Ev) (M:Ev->Prop) (H:List Ev) (W:List Int) (i:Nat):Prop where
 lt:i<n
 hn:n<=akt H
 ix: ∀w,w<n->w≠i->0<=(H[w]!).ix/\(H[w]!).ix<akt W/\W[(H[w]!).n]! =(w:Int)/\(H[w]!).ix≠x.ix
 x0:0<=x.ix
 x1:x.ix<akt W
 mem: ∀e,(∃w,w<n/\w≠i/\H[w]! =e)↔M e
theorem AZ.move {n:Nat} {x:Ev} {M:Ev->Prop} {H:List Ev} {W:List Int} {i j:Nat} (h:AZ n x M H W i) (hj:j<n) (lg:j≠i):AZ n x M (H.set i H[j]!) (W.set (H[j]!).n (i:Int)) j:=by
 have hn:=h.hn;have hi:=h.lt;obtain ⟨j1,j2,j3,j4⟩:=h.ix j hj lg;have cell: ∀w,(H.set i H[j]!)[w]! =if w=i then H[j]! else H[w]!:=by
  intro w;rw [aU]
  by_cases e:w=i
  · rw [pp ⟨e,by omega⟩,pp e]
  rw [rc (fun k=>e k.1),rc e]
 refine ⟨hj,by rw [ut];exact hn,?_,h.x0,by rw [ut];exact h.x1,?_⟩
 · intro w hw hwj
   rw [cell,ut]
   by_cases e:w=i
   · rw [pp e,aU,pp ⟨rfl,arH j2 j1⟩]
     exact ⟨j1,j2,by rw [e],j4⟩
   rw [rc e,aU]
   obtain ⟨k1,k2,k3,k4⟩:=h.ix w hw e;refine ⟨k1,k2,?_,k4⟩;rw [rc,k3];rintro ⟨c,_⟩;rw [c,j3] at k3;omega
 intro e
 rw [<- h.mem e];constructor
 · rintro ⟨w,hw,hwj,he⟩
   rw [cell] at he
   by_cases c:w=i
   · rw [pp c] at he;exact ⟨j,hj,lg,he⟩
   rw [rc c] at he;exact ⟨w,hw,c,he⟩
 rintro ⟨w,hw,J8,he⟩
 by_cases c:w=j
 · refine ⟨i,hi,fun h=>lg h.symm,?_⟩
   rw [cell,pp rfl,<- c];exact he
 exact ⟨w,hw,c,by rw [cell,rc J8];exact he⟩
theorem AZ.fill {n:Nat} {x:Ev} {M:Ev->Prop} {H:List Ev} {W:List Int} {i:Nat} (h:AZ n x M H W i):
 (∀w,w<n->0<=((H.set i x)[w]!).ix/\((H.set i x)[w]!).ix<akt W/\(W.set x.n (i:Int))[((H.set i x)[w]!).n]! =(w:Int))/\
  (∀e,(∃w,w<n/\(H.set i x)[w]! =e)↔(e=x\/M e)):=by
 have hn:=h.hn;have hi:=h.lt;have x0:=h.x0;have x1:=h.x1;have cell: ∀w,(H.set i x)[w]! =if w=i then x else H[w]!:=by
  intro w;rw [aU]
  by_cases e:w=i
  · rw [pp ⟨e,by omega⟩,pp e]
  rw [rc (fun k=>e k.1),rc e]
 constructor
 · intro w hw
   rw [cell]
   by_cases e:w=i
   · rw [pp e,aU,pp ⟨rfl,arH x1 x0⟩]
     exact ⟨x0,x1,by rw [e]⟩
   rw [rc e,aU]
   obtain ⟨k1,k2,k3,k4⟩:=h.ix w hw e;exact ⟨k1,k2,by rw [rc (fun c=>arI k1 x0 k4 c.1),k3]⟩
 intro e
 rw [<- h.mem e];constructor
 · rintro ⟨w,hw,he⟩
   rw [cell] at he
   by_cases c:w=i
   · rw [pp c] at he;exact .inl he.symm
   rw [rc c] at he;exact .inr ⟨w,hw,c,he⟩
 rintro (he|⟨w,hw,J8,he⟩)
 · exact ⟨i,hi,by rw [cell,pp rfl,he]⟩
 exact ⟨w,hw,by rw [cell,rc J8];exact he⟩
noncomputable def iD (x:Ev):Nat->List Ev->List Int->Nat×List Ev×List Int
 |0,H,W=>(0,H,W)
 |i+1,H,W=>if less x H[i / 2]! then iD x (i / 2) (H.set (i+1) H[i / 2]!) (W.set (H[i / 2]!).n ((i+1:Nat):Int)) else (i+1,H,W)
termination_by i=>i
decreasing_by omega
noncomputable def gK (n:Nat) (H:List Ev) (i:Nat):Nat:=if 2*i+2<n/\less H[2*i+2]! H[2*i+1]! then 2*i+2 else 2*i+1
theorem nN (n:Nat) (H:List Ev) (i:Nat):gK n H i=2*i+1\/(gK n H i=2*i+2/\2*i+2<n):=by
 unfold gK;split
 · rename_i h;exact .inr ⟨rfl,h.1⟩
 exact .inl rfl
noncomputable def dL (n:Nat) (x:Ev) (i:Nat) (H:List Ev) (W:List Int):Nat×List Ev×List Int:=
 if _h:2*i+1<n then
  if less H[gK n H i]! x then dL n x (gK n H i) (H.set i H[gK n H i]!) (W.set (H[gK n H i]!).n (i:Int)) else (i,H,W)
 else (i,H,W)
termination_by n-i
decreasing_by
 rcases nN n H i with h|h<;>omega
structure Ord (n:Nat) (H:List Ev) (i:Nat):Prop where
 den: ∀w,w<n->1<=(H[w]!).2.1
 ord: ∀k,0<k->k<n->k≠i->(k-1) / 2≠i-> ¬less H[k]! H[(k-1) / 2]!
 MI:0<i-> ∀k,0<k->k<n->(k-1) / 2=i-> ¬less H[k]! H[(i-1) / 2]!
theorem Ex {n : Nat} {x : Ev} {M : Ev -> Prop} (dx : 1 <= x.2.1) : ∀ (i : Nat) (H : List Ev) (W : List Int), AZ n x M H W i -> Ord n H i ->
    ∃ j H1 W1, iD x i H W = (j, H1, W1) /\ AZ n x M H1 W1 j /\ Ord n H1 j /\ (akt H1) = (akt H) /\ (akt W1) = (akt W) /\ (0 < j -> ¬ less x H1[(j - 1) / 2]!) /\
      (∀ k, n <= k -> H1[k]! = H[k]!) /\ (∀ k, (∀ w, w < n -> w ≠ i -> (H[w]!).n ≠ k) -> W1[k]! = W[k]!) /\
      ((∀ k, 0 < k -> k < n -> (k - 1) / 2 = i -> ¬ less H[k]! x) -> ∀ k, 0 < k -> k < n -> (k - 1) / 2 = j -> ¬ less H1[k]! x)
  | 0, H, W, h, o => ⟨0, H, W, by rw [iD], h, o, rfl, rfl, fun h => by omega, fun _ _ => rfl, fun _ _ => rfl, fun h => h⟩
  | i + 1, H, W, h, o => by
    rw [iD]
    by_cases hl : less x H[i / 2]!
    · rw [pp hl]
      have hi := h.lt
      have hn := h.hn
      have hp : i / 2 < n := by omega
      have dW : i / 2 ≠ i + 1 := by omega
      have hm := h.move hp dW
      have cell : ∀ w, (H.set (i + 1) H[i / 2]!)[w]! = if w = i + 1 then H[i / 2]! else H[w]! := by
        intro w
        rw [aU]
        by_cases e : w = i + 1
        · rw [pp ⟨e, by omega⟩, pp e]
        rw [rc (fun k => e k.1), rc e]
      have o' : Ord n (H.set (i + 1) H[i / 2]!) (i / 2) := by
        refine ⟨?_, ?_, ?_⟩
        · intro w hw
          rw [cell]
          split
          · exact o.den _ hp
          exact o.den _ hw
        · intro k k0 kn k1 k2
          rw [cell, cell]
          by_cases e : k = i + 1
          · subst e; exact absurd (by omega) k2
          rw [rc e]
          by_cases e2 : (k - 1) / 2 = i + 1
          · rw [pp e2]
            have := o.MI (by omega) k k0 kn e2
            rwa [show (i + 1 - 1) / 2 = i / 2 by omega] at this
          rw [rc e2]
          exact o.ord k k0 kn e e2
        intro p0 k k0 kn k1
        rw [cell, cell, rc (show (i / 2 - 1) / 2 ≠ i + 1 by omega)]
        have up1 : ¬ less H[i / 2]! H[(i / 2 - 1) / 2]! := o.ord (i / 2) p0 hp dW (by omega)
        by_cases e : k = i + 1
        · rw [pp e]; exact up1
        rw [rc e]
        have up2 : ¬ less H[k]! H[i / 2]! := by
          have := o.ord k k0 kn e (by omega)
          rwa [k1] at this
        exact zm (o.den _ (by omega)) (o.den _ hp) (o.den _ kn) up1 up2
      obtain ⟨j, H1, W1, e1, e3, e4, e5, e6, e7, e8, e9, e10⟩ := Ex dx (i / 2) _ _ hm o'
      rw [ut] at e5 e6
      refine ⟨j, H1, W1, e1, e3, e4, e5, e6, e7, ?_, ?_, ?_⟩
      · intro k hk
        rw [e8 k hk, cell, rc (by omega)]
      · intro k hk
        rw [e9 k ?_, aU, rc (fun c => hk (i / 2) hp dW c.1.symm)]
        intro w hw OH
        rw [cell]
        split
        · exact hk (i / 2) hp dW
        rename_i e; exact hk w hw e
      intro _
      refine e10 fun k k0 kn k1 => ?_
      rw [cell]
      by_cases e : k = i + 1
      · rw [pp e]; exact pD hl
      rw [rc e]
      have up2 : ¬ less H[k]! H[i / 2]! := by
        have := o.ord k k0 kn e (by omega)
        rwa [k1] at this
      exact zm dx (o.den _ hp) (o.den _ kn) (pD hl) up2
    rw [rc hl]
    refine ⟨i + 1, H, W, rfl, h, o, rfl, rfl, fun _ => ?_, fun _ _ => rfl, fun _ _ => rfl, fun h => h⟩
    rwa [show (i + 1 - 1) / 2 = i / 2 by omega]
termination_by i=>i
decreasing_by omega
theorem SS {n:Nat} {x:Ev} {i:Nat} {H:List Ev} {W:List Int} (h: ∀k,0<k->k<n->(k-1) / 2=i-> ¬less H[k]! x):dL n x i H W=(i,H,W):=by
 rw [dL];split
 · rename_i hk
   rw [rc];rcases nN n H i with e|⟨e,e2⟩
   · rw [e];exact h _ (by omega) hk (by omega)
   rw [e];exact h _ (by omega) e2 (by omega)
 rfl
theorem Iq {n : Nat} {x : Ev} {M : Ev -> Prop} (dx : 1 <= x.2.1) : ∀ (d i : Nat) (H : List Ev) (W : List Int), n - i <= d -> AZ n x M H W i -> Ord n H i -> (0 < i -> ¬ less x H[(i - 1) / 2]!) ->
    ∃ j H1 W1, dL n x i H W = (j, H1, W1) /\ AZ n x M H1 W1 j /\ Ord n H1 j /\ (akt H1) = (akt H) /\ (akt W1) = (akt W) /\ (0 < j -> ¬ less x H1[(j - 1) / 2]!) /\
      (∀ k, n <= k -> H1[k]! = H[k]!) /\ (∀ k, (∀ w, w < n -> w ≠ i -> (H[w]!).n ≠ k) -> W1[k]! = W[k]!) /\ (∀ k, 0 < k -> k < n -> (k - 1) / 2 = j -> ¬ less H1[k]! x)
  | 0, i, H, W, hd, h, o, u => by have := h.lt; omega
  | d + 1, i, H, W, hd, h, o, u => by
    have hi := h.lt
    have hn := h.hn
    rw [dL]
    by_cases hk : 2 * i + 1 < n
    · rw [dif_pos hk]
      have kc := nN n H i
      have kn : gK n H i < n := by omega
      have kne : gK n H i ≠ i := by omega
      have kp : (gK n H i - 1) / 2 = i := by omega
      have kb : ∀ k, 0 < k -> k < n -> (k - 1) / 2 = i -> ¬ less H[k]! H[gK n H i]! := by
        intro k k0 k1 k2
        have kk : k = 2 * i + 1 \/ k = 2 * i + 2 := by omega
        unfold gK
        split
        · rename_i hc
          rcases kk with e | e
          · rw [e]; exact pD hc.2
          rw [e]; exact fun h => pD h h
        rename_i hc
        rcases kk with e | e
        · rw [e]; exact fun h => pD h h
        rw [e] at k1 ⊢; exact fun h => hc ⟨k1, h⟩
      by_cases hl : less H[gK n H i]! x
      · rw [pp hl]
        have hm := h.move kn kne
        have cell : ∀ w, (H.set i H[gK n H i]!)[w]! = if w = i then H[gK n H i]! else H[w]! := by
          intro w
          rw [aU]
          by_cases e : w = i
          · rw [pp ⟨e, by omega⟩, pp e]
          rw [rc (fun k => e k.1), rc e]
        have o' : Ord n (H.set i H[gK n H i]!) (gK n H i) := by
          refine ⟨?_, ?_, ?_⟩
          · intro w hw
            rw [cell]
            split
            · exact o.den _ kn
            exact o.den _ hw
          · intro k k0 k1 k2 k3
            rw [cell, cell]
            by_cases e : k = i
            · rw [pp e, rc (by omega)]
              have := o.MI (by omega) (gK n H i) (by omega) kn kp
              rwa [e]
            rw [rc e]
            by_cases e2 : (k - 1) / 2 = i
            · rw [pp e2]; exact kb k k0 k1 e2
            rw [rc e2]; exact o.ord k k0 k1 e e2
          intro _ k k0 k1 k2
          rw [cell, cell, pp kp, rc (by omega)]
          have := o.ord k k0 k1 (by omega) (by omega)
          rwa [k2] at this
        obtain ⟨j, H1, W1, e1, e3, e4, e5, e6, e7, e8, e9, e10⟩ := Iq dx d (gK n H i) _ _ (by omega) hm o' (by
          intro _
          rw [cell, pp kp]
          exact pD hl)
        rw [ut] at e5 e6
        refine ⟨j, H1, W1, e1, e3, e4, e5, e6, e7, ?_, ?_, e10⟩
        · intro k hk
          rw [e8 k hk, cell, rc (by omega)]
        intro k hk
        rw [e9 k ?_, aU, rc (fun c => hk (gK n H i) kn kne c.1.symm)]
        intro w hw OH
        rw [cell]
        split
        · exact hk (gK n H i) kn kne
        rename_i e; exact hk w hw e
      rw [rc hl]
      refine ⟨i, H, W, rfl, h, o, rfl, rfl, u, fun _ _ => rfl, fun _ _ => rfl, ?_⟩
      intro k k0 k1 k2
      exact zm dx (o.den _ kn) (o.den _ k1) hl (kb k k0 k1 k2)
    rw [dif_neg hk]
    refine ⟨i, H, W, rfl, h, o, rfl, rfl, u, fun _ _ => rfl, fun _ _ => rfl, ?_⟩
    intro k k0 k1 k2
    omega
structure zn (n:Nat) (x:Ev) (M:Ev->Prop) (K:Nat->Prop) (H:List Ev) (W:List Int) (H1:List Ev) (W1:List Int):Prop where
 hl:(akt H1)=akt H
 wl:(akt W1)=akt W
 ix: ∀w,w<n->0<=(H1[w]!).ix/\(H1[w]!).ix<akt W/\W1[(H1[w]!).n]! =(w:Int)
 mem: ∀e,(∃w,w<n/\H1[w]! =e)↔(e=x\/M e)
 ord: ∀k,0<k->k<n-> ¬less H1[k]! H1[(k-1) / 2]!
 out: ∀k,K k->W1[k]! =W[k]!
theorem J9 {n:Nat} {x:Ev} {M:Ev->Prop} {H H1:List Ev} {W W1:List Int} {i j:Nat} (h1:AZ n x M H1 W1 j) (o1:Ord n H1 j) (hl:(akt H1)=akt H) (wl:(akt W1)=akt W)
 (u:0<j-> ¬less x H1[(j-1) / 2]!) (kd: ∀k,0<k->k<n->(k-1) / 2=j-> ¬less H1[k]! x) (out: ∀k,(∀w,w<n->w≠i->(H[w]!).n≠k)->W1[k]! =W[k]!):
 zn n x M (fun k=>k≠x.n/\ ∀w,w<n->w≠i->(H[w]!).n≠k) H W (H1.set j x) (W1.set x.n (j:Int)):=by
 have hn:=h1.hn;have hj:=h1.lt;have f:=h1.fill;have cell: ∀w,(H1.set j x)[w]! =if w=j then x else H1[w]!:=by
  intro w;rw [aU]
  by_cases e:w=j
  · rw [pp ⟨e,by omega⟩,pp e]
  rw [rc (fun k=>e k.1),rc e]
 refine ⟨by rw [ut];exact hl,by rw [ut];exact wl,?_,f.2,?_,?_⟩
 · rw [<- wl];exact f.1
 · intro k k0 kn
   rw [cell,cell]
   by_cases e:k=j
   · rw [pp e,rc (by omega),e];exact u (by omega)
   rw [rc e]
   by_cases e2:(k-1) / 2=j
   · rw [pp e2];exact kd k k0 kn e2
   rw [rc e2];exact o1.ord k k0 kn e e2
 rintro k ⟨k1,k2⟩
 rw [aU,rc (fun c=>k1 c.1)]
 exact out k k2
noncomputable def cE (n:Nat) (x:Ev) (i:Nat) (H:List Ev) (W:List Int):List Ev×List Int:=
 let u:=iD x i H W
 let d:=dL n x u.1 u.2.1 u.2.2
 (d.2.1.set d.1 x,d.2.2.set x.n (d.1:Int))
theorem yq {n:Nat} {x:Ev} {M:Ev->Prop} (dx:1<=x.2.1) {i:Nat} {H:List Ev} {W:List Int} (h:AZ n x M H W i) (o:Ord n H i):
 zn n x M (fun k=>k≠x.n/\ ∀w,w<n->w≠i->(H[w]!).n≠k) H W (cE n x i H W).1 (cE n x i H W).2:=by
 obtain ⟨j,H1,W1,e1,e3,e4,e5,e6,e7,e8,e9,e10⟩:=Ex dx i H W h o;obtain ⟨k,H2,W2,f1,f3,f4,f5,f6,f7,f8,f9,f10⟩:=Iq dx n j H1 W1 (by omega) e3 e4 e7
 have e:cE n x i H W=(H2.set k x,W2.set x.n (k:Int)):=by
  unfold cE;rw [e1];dsimp only;rw [f1]
 rw [e];refine J9 f3 f4 (by omega) (by omega) f7 f10 ?_
 intro c hc;rw [f9 c ?_,e9 c hc];intro w hw hwj hcw;have hm:M H1[w]!:=(e3.mem _).1 ⟨w,hw,hwj,rfl⟩;obtain ⟨v,v1,v2,v3⟩:=(h.mem _).2 hm;exact hc v v1 v2 (by rw [v3];exact hcw)
theorem MJ {n:Nat} {x:Ev} {M:Ev->Prop} (dx:1<=x.2.1) {i:Nat} {H:List Ev} {W:List Int} (h:AZ n x M H W i) (o:Ord n H i) (hk: ∀k,0<k->k<n->(k-1) / 2=i-> ¬less H[k]! x):
 cE n x i H W=((iD x i H W).2.1.set (iD x i H W).1 x,(iD x i H W).2.2.set x.n ((iD x i H W).1:Int)):=by
 obtain ⟨j,H1,W1,e1,e3,e4,e5,e6,e7,e8,e9,e10⟩:=Ex dx i H W h o;unfold cE;rw [e1];dsimp only;rw [SS (e10 hk)]
def pE (x:Ev):Prop:=cC (x.1,x.2.1)/\o4 (x.1,x.2.1)/\0<=x.2.2.1/\x.2.2.1<=1000000
theorem pE.den {x:Ev} (h:pE x):1<=x.2.1:=h.1.1
noncomputable def Gl (x y:Ev):Int:=if zE (x.1,x.2.1) (y.1,y.2.1)≠0 then zE (x.1,x.2.1) (y.1,y.2.1) else jt x.2.2.1 y.2.2.1
theorem B0 (x y:Ev):Gl x y<0↔less x y:=by
 unfold Gl less
 by_cases h:zE (x.1,x.2.1) (y.1,y.2.1)=0
 · rw [rc (by simpa using h),h]
   rcases fO x.2.2.1 y.2.2.1 with ⟨h1,e⟩|⟨h1,e⟩|⟨h1,e⟩<;>rw [e]<;>constructor<;>intro<;>omega
 rw [pp h];constructor<;>intro<;>omega
theorem dE {x y:Ev} (hx:pE x) (hy:pE y):cy x y=aku (Gl x y):=by
 unfold cy Gl;rw [VY hx.2.1 hy.2.1,pp ⟨hx.1,hy.1⟩];simp only [aj,jR,zk]
theorem mU {x y:Ev} (hx:pE x) (hy:pE y):dZ x y=aku (am6 (less x y)):=by
 unfold dZ less;rw [Gd hx.2.1 hy.2.1];simp only [aj];generalize zE (x.1,x.2.1) (y.1,y.2.1)=c
 by_cases h1:c<0
 · simp [h1]
 by_cases h2:c=0
 · subst h2;simp
 simp only [h1,dO h2,h2,decide_false,ol,false_or,false_and]
theorem C7 {x y:Ev}:am6 (Gl x y<0)=am6 (less x y):=by simp only [B0]
theorem J' {x y:Ev}:am6 (0<=Gl x y)=!am6 (less x y):=by
 have:=B0 x y
 by_cases h:less x y
 · have h2:=this.2 h
   have: ¬0<=Gl x y:=by omega
   simp [h,this]
 have h2: ¬Gl x y<0:=fun k=>h (this.1 k)
 have:0<=Gl x y:=by omega
 simp [h,this]
structure lU (n:Nat) (H:List Ev) (W:List Int):Prop where
 hn:n<=akt H
 hb:(akt H)<=1000000
 ev: ∀w,w<n->pE H[w]!/\0<=(H[w]!).ix/\(H[w]!).ix<akt W
theorem lU.move {n:Nat} {H:List Ev} {W:List Int} (c:lU n H W) {i j:Nat} (_hi:i<n) (hj:j<n) (k:Nat) (v:Int):lU n (H.set i H[j]!) (W.set k v):=by
 have hn:=c.hn;refine ⟨by rw [ut];exact hn,by rw [ut];exact c.hb,?_⟩
 intro w hw;rw [aU,ut];split
 · exact c.ev j hj
 exact c.ev w hw
theorem Ey {H:List Ev} {W:List Int} {x:Ev} {u fr:List Int} {us:List Bool} {i:Nat} (hi:i<akt H) (h0:0<=x.ix) (h1:x.ix<akt W):
 bY (u,us,fr,(i:Int),x.1,x.2.1,x.2.2.1,x.2.2.2.1,x.2.2.2.2,H,W)=aku (H.set i x,W.set x.n (i:Int)):=by
 unfold bY;have e1:=ar H i hi;have e2:=dG (l:=W) h0 h1;simp only [e1,e2,aj,xW,beq_self_eq_true,lw];rfl
theorem Ez {n cap:Nat} {H:List Ev} {W:List Int} {x:Ev} {u fr:List Int} {us:List Bool} {i:Nat} (hi:i<n) (hn:n<=akt H) (h0:0<=x.ix) (h1:x.ix<akt W):
 bX (u,us,fr,n,cap,(i:Int),x.1,x.2.1,x.2.2.1,x.2.2.2.1,x.2.2.2.2,H,W)=aku (H.set i x,W.set x.n (i:Int)):=by
 unfold bX;have e1:=ar (H.take n) i (by rw [af2];omega)
 have e2:=dG (l:=W) h0 h1;simp only [e1,e2,aj,xW,beq_self_eq_true,lw];rfl
theorem rj {i:Nat} (h:i<1000000000):aa .i64 (afh (aa .i64 (((i+1:Nat):Int) -1)) 2)=((i / 2:Nat):Int):=by
 have e:aa .i64 (((i+1:Nat):Int) -1)=(i:Int):=by rw [wi];omega
 rw [e,afk (by omega),wi];omega
theorem uH {i:Nat} (h:i<1000000000):aa .i64 ((aa .i64 (2*(i:Int)))+1)=((2*i+1:Nat):Int):=by
 have e:aa .i64 (2*(i:Int))=((2*i:Nat):Int):=by rw [wi];omega
 rw [e,wi];omega
theorem yr {n:Nat} {x:Ev}: ∀{i:Nat} {H:List Ev} {W:List Int} {j:Nat} {H1:List Ev} {W1:List Int},lU n H W->i<n->iD x i H W=(j,H1,W1)-> ∀w,w<n->pE H1[w]!/\0<=(H1[w]!).ix/\(H1[w]!).ix<akt W
 |0,H,W,j,H1,W1,c,hi,e=>by
  rw [iD] at e;injection e with e1 e;injection e with e2 e3;subst e2;exact c.ev
 |i+1,H,W,j,H1,W1,c,hi,e=>by
  rw [iD] at e;split at e
  · have:=yr (c.move hi (show i / 2<n by omega) (H[i / 2]!).n ((i+1:Nat):Int)) (by omega) e
    rw [ut] at this;exact this
  injection e with e1 e;injection e with e2 e3
  subst e2;exact c.ev
termination_by i=>i
decreasing_by omega
theorem Pe {c0:List Int×List Bool×List Int×Int×Int×Int×Int×Int×Int×List Ev×List Int} {n i:Nat} {H:List Ev} {W:List Int} {u fr:List Int} {us:List Bool} {x:Ev}
 (c:lU n H W) (hn:(akt H)=n) (hi:i<n) (hx:pE x) (x0:0<=x.ix) (x1:x.ix<akt W) (l1:(akt c0.2.2.2.2.2.2.2.2.2.1)=n) (l2:(akt c0.2.2.2.2.2.2.2.2.2.2)=akt W):
 fM c0 ((i:Int),((2*i+1:Nat):Int),H,W,u,us,fr,x)=
  aku (if 2*i+1<n/\less H[gK n H i]! x then .next (((gK n H i:Nat):Int),((2*gK n H i+1:Nat):Int),H.set i H[gK n H i]!,W.set (H[gK n H i]!).n (i:Int),u,us,fr,x)
   else .done (.done (H.set i x,W.set x.n (i:Int)))):=by
 have hb:=c.hb;have fin:(bY (u,us,fr,(i:Int),x.1,x.2.1,x.2.2.1,x.2.2.2.1,x.2.2.2.2,H,W))=aku (H.set i x,W.set x.n (i:Int)):=Ey (by omega) x0 x1
 have ln1:(H.set i x).length=(akt c0.2.2.2.2.2.2.2.2.2.1):=by rw [ut];omega
 have ln2:(W.set x.n (i:Int)).length=(akt c0.2.2.2.2.2.2.2.2.2.2):=by rw [ut];omega
 unfold fM;simp only [ay,hn,fin,aj,ln1,ln2,beq_self_eq_true,lw]
 by_cases h1:2*i+1<n
 · have e1:am6 (((2*i+1:Nat):Int)<(n:Int))=alt:=by simp;omega
   have e2:aa .i64 (((2*i+1:Nat):Int)+1)=((2*i+2:Nat):Int):=aR (by omega)
   obtain ⟨DN,a1,a2⟩:=c.ev (2*i+1) h1;have g1:=ar H (2*i+1) (by omega)
   have s1:(bY (u,us,fr,(i:Int),(H[2*i+1]!).1,(H[2*i+1]!).2.1,(H[2*i+1]!).2.2.1,(H[2*i+1]!).2.2.2.1,(H[2*i+1]!).2.2.2.2,H,W))=aku (H.set i H[2*i+1]!,W.set (H[2*i+1]!).n (i:Int)):=Ey (by omega) a1 a2
   simp only [e1,e2,lw,g1,aj,s1,dE DN hx,J',uH (show 2*i+1<1000000000 by omega)]
   by_cases h2:2*i+2<n
   · have e3:am6 (((2*i+2:Nat):Int)<(n:Int))=alt:=by simp;omega
     obtain ⟨V6,b1,b2⟩:=c.ev (2*i+2) h2;have g2:=ar H (2*i+2) (by omega)
     have s2:(bY (u,us,fr,(i:Int),(H[2*i+2]!).1,(H[2*i+2]!).2.1,(H[2*i+2]!).2.2.1,(H[2*i+2]!).2.2.2.1,(H[2*i+2]!).2.2.2.2,H,W))=aku (H.set i H[2*i+2]!,W.set (H[2*i+2]!).n (i:Int)):=Ey (by omega) b1 b2
     simp only [e3,lw,g2,aj,s2,dE V6 hx,dE V6 DN,C7,J',uH (show 2*i+2<1000000000 by omega)]
     by_cases h3:less H[2*i+2]! H[2*i+1]!
     · have k:gK n H i=2*i+2:=by unfold gK;rw [pp ⟨h2,h3⟩]
       rw [k]
       by_cases h4:less H[2*i+2]! x
       · simp only [h1,h3,h4,decide_true,lw,ol,If,and_self,if_true]
       simp only [h1,h3,h4,decide_true,decide_false,lw,EQ,and_false,if_false]
     have k:gK n H i=2*i+1:=by unfold gK;rw [rc (fun h=>h3 h.2)]
     rw [k]
     by_cases h4:less H[2*i+1]! x
     · simp only [h1,h3,h4,decide_true,decide_false,ol,If,and_self,if_true]
     simp only [h1,h3,h4,decide_false,lw,ol,EQ,and_false,if_false]
   have e3:am6 (((2*i+2:Nat):Int)<(n:Int))=am1:=by simp;omega
   have k:gK n H i=2*i+1:=by unfold gK;rw [rc (fun h=>h2 h.1)]
   rw [k];simp only [e3,ol]
   by_cases h4:less H[2*i+1]! x
   · simp only [h1,h4,decide_true,ol,If,and_self,if_true]
   simp only [h1,h4,decide_false,lw,EQ,and_false,if_false]
 have e1:am6 (((2*i+1:Nat):Int)<(n:Int))=am1:=by simp;omega
 rw [rc (fun h=>h1 h.1),e1];rfl
theorem wO {c0 : List Int × List Bool × List Int × Int × Int × Int × Int × Int × Int × List Ev × List Int} {n : Nat} {u fr : List Int} {us : List Bool} {x : Ev} (hx : pE x) (x0 : 0 <= x.ix) (l1 : (akt c0.2.2.2.2.2.2.2.2.2.1) = n) :
    ∀ (d i : Nat) (H : List Ev) (W : List Int), n - i <= d -> lU n H W -> (akt H) = n -> i < n -> x.ix < (akt W) -> (akt c0.2.2.2.2.2.2.2.2.2.2) = (akt W) ->
      az (fM c0) ((i : Int), ((2 * i + 1 : Nat) : Int), H, W, u, us, fr, x) = aku (.done ((dL n x i H W).2.1.set (dL n x i H W).1 x, (dL n x i H W).2.2.set x.n ((dL n x i H W).1 : Int)))
  | 0, i, H, W, hd, c, hn, hi, x1, l2 => by omega
  | d + 1, i, H, W, hd, c, hn, hi, x1, l2 => by
    have r := Pe (u := u) (us := us) (fr := fr) c hn hi hx x0 x1 l1 l2
    by_cases h : 2 * i + 1 < n /\ less H[gK n H i]! x
    · rw [pp h] at r
      have kc := nN n H i
      have kn : gK n H i < n := by omega
      rw [ba r, wO hx x0 l1 d (gK n H i) _ _ (by omega) (c.move hi kn _ _) (by rw [ut]; exact hn) kn (by rw [ut]; exact x1) (by rw [ut]; exact l2)]
      have e : dL n x i H W = dL n x (gK n H i) (H.set i H[gK n H i]!) (W.set (H[gK n H i]!).n (i : Int)) := by
        rw [dL, dif_pos h.1, pp h.2]
      rw [e]
    rw [rc h] at r
    rw [aH r]
    have e : dL n x i H W = (i, H, W) := by
      rw [dL]
      split
      · rename_i h1; rw [rc (fun k => h ⟨h1, k⟩)]
      rfl
    rw [e]
theorem Gm {c0 : List Int × List Bool × List Int × Int × Int × Int × Int × Int × Int × List Ev × List Int} {n : Nat} {u fr : List Int} {us : List Bool} {x : Ev} (hx : pE x) (x0 : 0 <= x.ix) (l1 : (akt c0.2.2.2.2.2.2.2.2.2.1) = n) :
    ∀ (i : Nat) (H : List Ev) (W : List Int), lU n H W -> (akt H) = n -> i < n -> x.ix < (akt W) -> (akt c0.2.2.2.2.2.2.2.2.2.2) = (akt W) ->
      az (eD c0) ((i : Int), H, W, u, us, fr, x) = aku (cE n x i H W)
  | 0, H, W, c, hn, hi, x1, l2 => by
    have hb := c.hb
    have dn := wO (u := u) (us := us) (fr := fr) hx x0 l1 n 0 H W (by omega) c hn hi x1 l2
    refine (aH (r := cE n x 0 H W) ?_)
    unfold eD
    have e1 : am6 ((0 : Int) < ((0 : Nat) : Int)) = am1 := by simp
    simp only [e1, ol, uH (show 0 < 1000000000 by omega)]
    rw [dn]
    unfold cE
    rw [iD]
  | i + 1, H, W, c, hn, hi, x1, l2 => by
    have hb := c.hb
    have e1 : am6 ((0 : Int) < ((i + 1 : Nat) : Int)) = alt := decide_eq_true (by omega)
    have hp : i / 2 < n := by omega
    obtain ⟨DN, a1, a2⟩ := c.ev (i / 2) hp
    have g1 := ar H (i / 2) (by omega)
    have s1 : (bY (u, us, fr, ((i + 1 : Nat) : Int), (H[i / 2]!).1, (H[i / 2]!).2.1, (H[i / 2]!).2.2.1, (H[i / 2]!).2.2.2.1, (H[i / 2]!).2.2.2.2, H, W)) = aku (H.set (i + 1) H[i / 2]!, W.set (H[i / 2]!).n ((i + 1 : Nat) : Int)) := Ey (by omega) a1 a2
    by_cases h : less x H[i / 2]!
    · have r : eD c0 (((i + 1 : Nat) : Int), H, W, u, us, fr, x) = aku (.next (((i / 2 : Nat) : Int), H.set (i + 1) H[i / 2]!, W.set (H[i / 2]!).n ((i + 1 : Nat) : Int), u, us, fr, x)) := by
        unfold eD
        simp only [e1, lw, rj (show i < 1000000000 by omega), g1, aj, dE hx DN, C7, h, decide_true, s1]
      rw [ba r, Gm hx x0 l1 (i / 2) _ _ (c.move hi hp _ _) (by rw [ut]; exact hn) hp (by rw [ut]; exact x1) (by rw [ut]; exact l2)]
      have e : iD x (i + 1) H W = iD x (i / 2) (H.set (i + 1) H[i / 2]!) (W.set (H[i / 2]!).n ((i + 1 : Nat) : Int)) := by
        rw [iD, pp h]
      unfold cE
      rw [e]
    have dn := wO (u := u) (us := us) (fr := fr) hx x0 l1 n (i + 1) H W (by omega) c hn hi x1 l2
    refine (aH (r := cE n x (i + 1) H W) ?_)
    unfold eD
    simp only [e1, lw, rj (show i < 1000000000 by omega), g1, aj, dE hx DN, C7, h, decide_false, ol, uH (show i + 1 < 1000000000 by omega)]
    rw [dn]
    unfold cE
    rw [iD, rc h]
termination_by i=>i
decreasing_by omega
theorem Gn {n:Nat} {u fr:List Int} {us:List Bool} {x:Ev} (hx:pE x) (x0:0<=x.ix) {i:Nat} {H:List Ev} {W:List Int} (c:lU n H W) (hn:(akt H)=n) (hi:i<n) (x1:x.ix<akt W):
 eG (u,us,fr,(i:Int),x.1,x.2.1,x.2.2.1,x.2.2.2.1,x.2.2.2.2,H,W)=aku (cE n x i H W):=by
 unfold eG;exact Gm hx x0 hn i H W c hn hi x1 rfl
theorem fS {l:List Ev} {n i:Nat} (h:i<n) (hn:n<=akt l):aI (l.take n) (i:Int)=aku l[i]!:=by
 rw [ar (l.take n) i (by rw [af2];omega),iN h]
theorem Pf {c0:List Int×List Bool×List Int×Nat×Nat×Int×Int×Int×Int×Int×Int×List Ev×List Int} {n cap i:Nat} {H:List Ev} {W:List Int} {u fr:List Int} {us:List Bool} {x:Ev}
 (c:lU n H W) (hi:i<n) (hx:pE x) (x0:0<=x.ix) (x1:x.ix<akt W) (l1:(akt c0.2.2.2.2.2.2.2.2.2.2.2.1)=akt H) (l2:(akt c0.2.2.2.2.2.2.2.2.2.2.2.2)=akt W):
 fL c0 ((i:Int),((2*i+1:Nat):Int),H,W,u,us,fr,n,cap,x)=
  aku (if 2*i+1<n/\less H[gK n H i]! x then .next (((gK n H i:Nat):Int),((2*gK n H i+1:Nat):Int),H.set i H[gK n H i]!,W.set (H[gK n H i]!).n (i:Int),u,us,fr,n,cap,x)
   else .done (.done (H.set i x,W.set x.n (i:Int)))):=by
 have hb:=c.hb;have SU:=c.hn;have fin:(bX (u,us,fr,n,cap,(i:Int),x.1,x.2.1,x.2.2.1,x.2.2.2.1,x.2.2.2.2,H,W))=aku (H.set i x,W.set x.n (i:Int)):=Ez (cap:=cap) (by omega) c.hn x0 x1
 have ln1:(H.set i x).length=(akt c0.2.2.2.2.2.2.2.2.2.2.2.1):=by rw [ut];omega
 have ln2:(W.set x.n (i:Int)).length=(akt c0.2.2.2.2.2.2.2.2.2.2.2.2):=by rw [ut];omega
 unfold fL;simp only [ay,fin,aj,ln1,ln2,beq_self_eq_true,lw]
 by_cases h1:2*i+1<n
 · have e1:am6 (((2*i+1:Nat):Int)<(n:Int))=alt:=by simp;omega
   have e2:aa .i64 (((2*i+1:Nat):Int)+1)=((2*i+2:Nat):Int):=aR (by omega)
   obtain ⟨DN,a1,a2⟩:=c.ev (2*i+1) h1;have g1:=fS (l:=H) (n:=n) (i:=2*i+1) (by omega) c.hn
   have s1:(bX (u,us,fr,n,cap,(i:Int),(H[2*i+1]!).1,(H[2*i+1]!).2.1,(H[2*i+1]!).2.2.1,(H[2*i+1]!).2.2.2.1,(H[2*i+1]!).2.2.2.2,H,W))=aku (H.set i H[2*i+1]!,W.set (H[2*i+1]!).n (i:Int)):=Ez (cap:=cap) (by omega) c.hn a1 a2
   simp only [e1,e2,lw,g1,aj,s1,dE DN hx,J',uH (show 2*i+1<1000000000 by omega)]
   by_cases h2:2*i+2<n
   · have e3:am6 (((2*i+2:Nat):Int)<(n:Int))=alt:=by simp;omega
     obtain ⟨V6,b1,b2⟩:=c.ev (2*i+2) h2;have g2:=fS (l:=H) (n:=n) (i:=2*i+2) (by omega) c.hn
     have s2:(bX (u,us,fr,n,cap,(i:Int),(H[2*i+2]!).1,(H[2*i+2]!).2.1,(H[2*i+2]!).2.2.1,(H[2*i+2]!).2.2.2.1,(H[2*i+2]!).2.2.2.2,H,W))=aku (H.set i H[2*i+2]!,W.set (H[2*i+2]!).n (i:Int)):=Ez (cap:=cap) (by omega) c.hn b1 b2
     simp only [e3,lw,g2,aj,s2,dE V6 hx,dE V6 DN,C7,J',uH (show 2*i+2<1000000000 by omega)]
     by_cases h3:less H[2*i+2]! H[2*i+1]!
     · have k:gK n H i=2*i+2:=by unfold gK;rw [pp ⟨h2,h3⟩]
       rw [k]
       by_cases h4:less H[2*i+2]! x
       · simp only [h1,h3,h4,decide_true,lw,ol,If,and_self,if_true]
       simp only [h1,h3,h4,decide_true,decide_false,lw,EQ,and_false,if_false]
     have k:gK n H i=2*i+1:=by unfold gK;rw [rc (fun h=>h3 h.2)]
     rw [k]
     by_cases h4:less H[2*i+1]! x
     · simp only [h1,h3,h4,decide_true,decide_false,ol,If,and_self,if_true]
     simp only [h1,h3,h4,decide_false,lw,ol,EQ,and_false,if_false]
   have e3:am6 (((2*i+2:Nat):Int)<(n:Int))=am1:=by simp;omega
   have k:gK n H i=2*i+1:=by unfold gK;rw [rc (fun h=>h2 h.1)]
   rw [k];simp only [e3,ol]
   by_cases h4:less H[2*i+1]! x
   · simp only [h1,h4,decide_true,ol,If,and_self,if_true]
   simp only [h1,h4,decide_false,lw,EQ,and_false,if_false]
 have e1:am6 (((2*i+1:Nat):Int)<(n:Int))=am1:=by simp;omega
 rw [rc (fun h=>h1 h.1),e1];rfl
theorem wP {c0 : List Int × List Bool × List Int × Nat × Nat × Int × Int × Int × Int × Int × Int × List Ev × List Int} {n cap : Nat} {u fr : List Int} {us : List Bool} {x : Ev} (hx : pE x) (x0 : 0 <= x.ix) :
    ∀ (d i : Nat) (H : List Ev) (W : List Int), n - i <= d -> lU n H W -> (akt c0.2.2.2.2.2.2.2.2.2.2.2.1) = (akt H) -> i < n -> x.ix < (akt W) -> (akt c0.2.2.2.2.2.2.2.2.2.2.2.2) = (akt W) ->
      az (fL c0) ((i : Int), ((2 * i + 1 : Nat) : Int), H, W, u, us, fr, n, cap, x) = aku (.done ((dL n x i H W).2.1.set (dL n x i H W).1 x, (dL n x i H W).2.2.set x.n ((dL n x i H W).1 : Int)))
  | 0, i, H, W, hd, c, hn, hi, x1, l2 => by omega
  | d + 1, i, H, W, hd, c, hn, hi, x1, l2 => by
    have r := Pf (u := u) (us := us) (fr := fr) (cap := cap) c hi hx x0 x1 hn l2
    by_cases h : 2 * i + 1 < n /\ less H[gK n H i]! x
    · rw [pp h] at r
      have kc := nN n H i
      have kn : gK n H i < n := by omega
      rw [ba r, wP hx x0 d (gK n H i) _ _ (by omega) (c.move hi kn _ _) (by rw [ut]; exact hn) kn (by rw [ut]; exact x1) (by rw [ut]; exact l2)]
      have e : dL n x i H W = dL n x (gK n H i) (H.set i H[gK n H i]!) (W.set (H[gK n H i]!).n (i : Int)) := by
        rw [dL, dif_pos h.1, pp h.2]
      rw [e]
    rw [rc h] at r
    rw [aH r]
    have e : dL n x i H W = (i, H, W) := by
      rw [dL]
      split
      · rename_i h1; rw [rc (fun k => h ⟨h1, k⟩)]
      rfl
    rw [e]
theorem Gp {c0 : List Int × List Bool × List Int × Nat × Nat × Int × Int × Int × Int × Int × Int × List Ev × List Int} {n cap : Nat} {u fr : List Int} {us : List Bool} {x : Ev} (hx : pE x) (x0 : 0 <= x.ix) :
    ∀ (i : Nat) (H : List Ev) (W : List Int), lU n H W -> (akt c0.2.2.2.2.2.2.2.2.2.2.2.1) = (akt H) -> i < n -> x.ix < (akt W) -> (akt c0.2.2.2.2.2.2.2.2.2.2.2.2) = (akt W) ->
      az (eC c0) ((i : Int), H, W, u, us, fr, n, cap, x) = aku (cE n x i H W)
  | 0, H, W, c, hn, hi, x1, l2 => by
    have hb := c.hb
    have SU := c.hn
    have dn := wP (u := u) (us := us) (fr := fr) (cap := cap) hx x0 n 0 H W (by omega) c hn hi x1 l2
    refine (aH (r := cE n x 0 H W) ?_)
    unfold eC
    have e1 : am6 ((0 : Int) < ((0 : Nat) : Int)) = am1 := by simp
    simp only [e1, ol, uH (show 0 < 1000000000 by omega)]
    rw [dn]
    unfold cE
    rw [iD]
  | i + 1, H, W, c, hn, hi, x1, l2 => by
    have hb := c.hb
    have SU := c.hn
    have e1 : am6 ((0 : Int) < ((i + 1 : Nat) : Int)) = alt := decide_eq_true (by omega)
    have hp : i / 2 < n := by omega
    obtain ⟨DN, a1, a2⟩ := c.ev (i / 2) hp
    have g1 := fS (l := H) (n := n) (i := i / 2) (by omega) c.hn
    have s1 : (bX (u, us, fr, n, cap, ((i + 1 : Nat) : Int), (H[i / 2]!).1, (H[i / 2]!).2.1, (H[i / 2]!).2.2.1, (H[i / 2]!).2.2.2.1, (H[i / 2]!).2.2.2.2, H, W)) = aku (H.set (i + 1) H[i / 2]!, W.set (H[i / 2]!).n ((i + 1 : Nat) : Int)) := Ez (cap := cap) (by omega) c.hn a1 a2
    by_cases h : less x H[i / 2]!
    · have r : eC c0 (((i + 1 : Nat) : Int), H, W, u, us, fr, n, cap, x) = aku (.next (((i / 2 : Nat) : Int), H.set (i + 1) H[i / 2]!, W.set (H[i / 2]!).n ((i + 1 : Nat) : Int), u, us, fr, n, cap, x)) := by
        unfold eC
        simp only [e1, lw, rj (show i < 1000000000 by omega), g1, aj, dE hx DN, C7, h, decide_true, s1]
      rw [ba r, Gp hx x0 (i / 2) _ _ (c.move hi hp _ _) (by rw [ut]; exact hn) hp (by rw [ut]; exact x1) (by rw [ut]; exact l2)]
      have e : iD x (i + 1) H W = iD x (i / 2) (H.set (i + 1) H[i / 2]!) (W.set (H[i / 2]!).n ((i + 1 : Nat) : Int)) := by
        rw [iD, pp h]
      unfold cE
      rw [e]
    have dn := wP (u := u) (us := us) (fr := fr) (cap := cap) hx x0 n (i + 1) H W (by omega) c hn hi x1 l2
    refine (aH (r := cE n x (i + 1) H W) ?_)
    unfold eC
    simp only [e1, lw, rj (show i < 1000000000 by omega), g1, aj, dE hx DN, C7, h, decide_false, ol, uH (show i + 1 < 1000000000 by omega)]
    rw [dn]
    unfold cE
    rw [iD, rc h]
termination_by i=>i
decreasing_by omega
theorem Pg {n cap:Nat} {u fr:List Int} {us:List Bool} {x:Ev} (hx:pE x) (x0:0<=x.ix) {i:Nat} {H:List Ev} {W:List Int} (c:lU n H W) (hi:i<n) (x1:x.ix<akt W):
 jz (u,us,fr,n,cap,(i:Int),x.1,x.2.1,x.2.2.1,x.2.2.2.1,x.2.2.2.2,H,W)=aku (cE n x i H W):=by
 unfold jz;exact Gp hx x0 i H W c rfl hi x1 rfl
theorem Gq {n cap:Nat} {H:List Ev} {W:List Int} {x:Ev} {u fr:List Int} {us:List Bool} {i k:Nat} (hi:i<n) (hk:k<n) (KA:k≠i) (hn:n<=akt H) (x0:0<=x.ix) (x1:x.ix<akt W) (k0:0<=(H[k]!).ix) (k1:(H[k]!).ix<akt W):
 fZ (u,us,fr,n,cap,(i:Int),(k:Int),H.set i x,W.set x.n (i:Int))=aku ((H.set i H[k]!).set k x,(W.set (H[k]!).n (i:Int)).set x.n (k:Int)):=by
 have cell: ∀w,(H.set i x)[w]! =if w=i then x else H[w]!:=by
  intro w;rw [aU]
  by_cases e:w=i
  · rw [pp ⟨e,by omega⟩,pp e]
  rw [rc (fun k=>e k.1),rc e]
 have sh:((H.set i x).set i H[k]!).set k x=(H.set i H[k]!).set k x:=by rw [UV]
 have sw:((W.set x.n (i:Int)).set (H[k]!).n (i:Int)).set x.n (k:Int)=(W.set (H[k]!).n (i:Int)).set x.n (k:Int):=by
  by_cases e:x.n=(H[k]!).n
  · simp only [e,UV]
  rw [agb _ _ (fun h=>e h),UV]
 have g1:aI ((H.set i x).take n) (k:Int)=aku H[k]!:=by rw [fS (by omega) (by rw [ut];omega),cell,rc KA]
 have g2:aI ((H.set i x).take n) (i:Int)=aku x:=by rw [fS (by omega) (by rw [ut];omega),cell,pp rfl]
 have g3:aI (((H.set i x).set i H[k]!).take n) (k:Int)=aku H[k]!:=by rw [fS (by omega) (by rw [ut,ut];omega),aU,rc (fun h=>KA h.1),cell,rc KA]
 have g4:aI (((H.set i H[k]!).set k x).take n) (i:Int)=aku H[k]!:=by rw [fS (by omega) (by rw [ut,ut];omega),aU,rc (fun h=>KA h.1.symm),aU,pp ⟨rfl,by omega⟩]
 have g5:aI (((H.set i H[k]!).set k x).take n) (k:Int)=aku x:=by rw [fS (by omega) (by rw [ut,ut];omega),aU,pp ⟨rfl,by rw [ut];omega⟩]
 have w6:=dG (l:=W.set x.n (i:Int)) k0 (by rw [ut];exact k1)
 have w7:=dG (l:=(W.set x.n (i:Int)).set (H[k]!).n (i:Int)) x0 (by rw [ut,ut];exact x1)
 have q1: ∀(l:List Int) (a:Int) (y:Ev),bZ l y.2.2.2.1 a=l.set y.n a:=fun _ _ _=>rfl
 unfold fZ;simp only [kM,g1,g2,g3,aj,sh,g4,g5,q1,w6,w7,sw,ut,beq_self_eq_true,lw]
theorem V7 {c0:List Int×List Bool×List Int×Nat×Nat×Int×List Ev×List Int} {n cap:Nat} {u fr:List Int} {us:List Bool} {x:Ev} (hx:pE x) (x0:0<=x.ix):
 ∀(i:Nat) (H:List Ev) (W:List Int),lU n H W->i<n->x.ix<akt W->akt c0.2.2.2.2.2.2.1=akt H->akt c0.2.2.2.2.2.2.2=akt W->
  az (gC c0) ((i:Int),H.set i x,W.set x.n (i:Int),u,us,fr,n,cap)=aku (((iD x i H W).1:Int),(iD x i H W).2.1.set (iD x i H W).1 x,(iD x i H W).2.2.set x.n ((iD x i H W).1:Int))
 |0,H,W,c,hi,x1,l1,l2=>by
  have SU:=c.hn;refine aH ?_;unfold gC;have e1:am6 ((0:Int)<((0:Nat):Int))=am1:=by simp
  rw [iD];simp only [e1,ol,ut,l1,l2,beq_self_eq_true,lw]
 |i+1,H,W,c,hi,x1,l1,l2=>by
  have hb:=c.hb;have SU:=c.hn;have e1:am6 ((0:Int)<((i+1:Nat):Int))=alt:=decide_eq_true (by omega)
  have hp:i / 2<n:=by omega
  have dW:i / 2≠i+1:=by omega
  obtain ⟨DN,a1,a2⟩:=c.ev (i / 2) hp;have cell: ∀w,(H.set (i+1) x)[w]! =if w=i+1 then x else H[w]!:=by
   intro w;rw [aU]
   by_cases e:w=i+1
   · rw [pp ⟨e,by omega⟩,pp e]
   rw [rc (fun k=>e k.1),rc e]
  have g0:aI ((H.set (i+1) x).take n) ((i+1:Nat):Int)=aku x:=by rw [fS (by omega) (by rw [ut];omega),cell,pp rfl]
  have g1:aI ((H.set (i+1) x).take n) ((i / 2:Nat):Int)=aku H[i / 2]!:=by rw [fS (by omega) (by rw [ut];omega),cell,rc dW]
  by_cases h:less x H[i / 2]!
  · have sw:=Gq (cap:=cap) (u:=u) (us:=us) (fr:=fr) (x:=x) hi hp dW SU x0 x1 a1 a2
    have r:gC c0 (((i+1:Nat):Int),H.set (i+1) x,W.set x.n ((i+1:Nat):Int),u,us,fr,n,cap)=aku (.next (((i / 2:Nat):Int),(H.set (i+1) H[i / 2]!).set (i / 2) x,(W.set (H[i / 2]!).n ((i+1:Nat):Int)).set x.n ((i / 2:Nat):Int),u,us,fr,n,cap)):=by
     unfold gC;simp only [e1,lw,rj (show i<1000000000 by omega),g0,g1,aj,mU hx DN,h,decide_true,sw]
    rw [ba r,V7 hx x0 (i / 2) _ _ (c.move hi hp _ _) hp (by rw [ut];exact x1) (by rw [ut];exact l1) (by rw [ut];exact l2)]
    have e:iD x (i+1) H W=iD x (i / 2) (H.set (i+1) H[i / 2]!) (W.set (H[i / 2]!).n ((i+1:Nat):Int)):=by
     rw [iD,pp h]
    rw [e]
  refine aH ?_
  unfold gC;have e:iD x (i+1) H W=(i+1,H,W):=by rw [iD,rc h]
  rw [e];simp only [e1,lw,rj (show i<1000000000 by omega),g0,g1,aj,mU hx DN,h,decide_false,ol,ut,l1,l2,beq_self_eq_true]
termination_by i=>i
decreasing_by omega
theorem MK {c0:List Int×List Bool×List Int×Nat×Nat×Int×List Ev×List Int} {n cap:Nat} {u fr:List Int} {us:List Bool} {x:Ev} (hx:pE x) (x0:0<=x.ix):
 ∀(d i:Nat) (H:List Ev) (W:List Int),n-i<=d->lU n H W->i<n->x.ix<akt W->akt c0.2.2.2.2.2.2.1=akt H->akt c0.2.2.2.2.2.2.2=akt W->
  az (jv c0) ((i:Int),H.set i x,W.set x.n (i:Int),u,us,fr,n,cap)=aku (((dL n x i H W).2.1.set (dL n x i H W).1 x,(dL n x i H W).2.2.set x.n ((dL n x i H W).1:Int)))
 |0,i,H,W,hd,c,hi,x1,l1,l2=>by omega
 |d+1,i,H,W,hd,c,hi,x1,l1,l2=>by
  have hb:=c.hb;have SU:=c.hn;have cell: ∀w,(H.set i x)[w]! =if w=i then x else H[w]!:=by
   intro w;rw [aU]
   by_cases e:w=i
   · rw [pp ⟨e,by omega⟩,pp e]
   rw [rc (fun k=>e k.1),rc e]
  have V8:(H.set i x).length=(akt H):=ut;have body:jv c0 ((i:Int),H.set i x,W.set x.n (i:Int),u,us,fr,n,cap)=aku (if 2*i+1<n/\less H[gK n H i]! x then .next (((gK n H i:Nat):Int),(H.set i H[gK n H i]!).set (gK n H i) x,(W.set (H[gK n H i]!).n (i:Int)).set x.n ((gK n H i:Nat):Int),u,us,fr,n,cap) else .done ((H.set i x,W.set x.n (i:Int)))):=by
   have k1:=uH (show i<1000000000 by omega)
   unfold jv
   by_cases h1:2*i+1<n
   · have e1:am6 ((n:Int)<=((2*i+1:Nat):Int))=am1:=decide_eq_false (by omega)
     have e2:aa .i64 (((2*i+1:Nat):Int)+1)=((2*i+2:Nat):Int):=aR (by omega)
     obtain ⟨DN,a1,a2⟩:=c.ev (2*i+1) h1;have g0:aI ((H.set i x).take n) (i:Int)=aku x:=by rw [fS (by omega) (by rw [ut];omega),cell,pp rfl]
     have g1:aI ((H.set i x).take n) ((2*i+1:Nat):Int)=aku H[2*i+1]!:=by rw [fS (by omega) (by rw [ut];omega),cell,rc (by omega)]
     have s1:=Gq (cap:=cap) (u:=u) (us:=us) (fr:=fr) (x:=x) hi h1 (by omega) SU x0 x1 a1 a2
     simp only [ay,k1,V8,e1,e2,ol,g0,g1,aj,mU DN hx,s1,ut,l1,l2,beq_self_eq_true,lw]
     by_cases h2:2*i+2<n
     · have e3:am6 (((2*i+2:Nat):Int)<(n:Int))=alt:=decide_eq_true (by omega)
       obtain ⟨V6,b1,b2⟩:=c.ev (2*i+2) h2;have g2:aI ((H.set i x).take n) ((2*i+2:Nat):Int)=aku H[2*i+2]!:=by rw [fS (by omega) (by rw [ut];omega),cell,rc (by omega)]
       have s2:=Gq (cap:=cap) (u:=u) (us:=us) (fr:=fr) (x:=x) hi h2 (by omega) SU x0 x1 b1 b2
       simp only [e3,lw,g2,aj,s2,mU V6 hx,mU V6 DN]
       by_cases h3:less H[2*i+2]! H[2*i+1]!
       · have k:gK n H i=2*i+2:=by unfold gK;rw [pp ⟨h2,h3⟩]
         rw [k]
         by_cases h4:less H[2*i+2]! x
         · simp only [h1,h3,h4,decide_true,lw,ol,If,and_self,if_true]
         simp only [h1,h3,h4,decide_true,decide_false,lw,EQ,and_false,if_false]
       have k:gK n H i=2*i+1:=by unfold gK;rw [rc (fun h=>h3 h.2)]
       rw [k]
       by_cases h4:less H[2*i+1]! x
       · simp only [h1,h3,h4,decide_true,decide_false,ol,If,and_self,if_true]
       simp only [h1,h3,h4,decide_false,lw,ol,EQ,and_false,if_false]
     have e3:am6 (((2*i+2:Nat):Int)<(n:Int))=am1:=decide_eq_false (by omega)
     have k:gK n H i=2*i+1:=by unfold gK;rw [rc (fun h=>h2 h.1)]
     rw [k];simp only [e3,ol]
     by_cases h4:less H[2*i+1]! x
     · simp only [h1,h4,decide_true,ol,If,and_self,if_true]
     simp only [h1,h4,decide_false,lw,EQ,and_false,if_false]
   have e1:am6 ((n:Int)<=((2*i+1:Nat):Int))=alt:=decide_eq_true (by omega)
   rw [rc (fun h=>h1 h.1)]
   simp only [ay,k1,V8,e1,lw,ut,l1,l2,beq_self_eq_true]
  by_cases h:2*i+1<n/\less H[gK n H i]! x
  · rw [pp h] at body
    have kc:=nN n H i;have kn:gK n H i<n:=by omega
    rw [ba body,MK hx x0 d (gK n H i) _ _ (by omega) (c.move hi kn _ _) kn (by rw [ut];exact x1) (by rw [ut];exact l1) (by rw [ut];exact l2)]
    have e:dL n x i H W=dL n x (gK n H i) (H.set i H[gK n H i]!) (W.set (H[gK n H i]!).n (i:Int)):=by
     rw [dL,dif_pos h.1,pp h.2]
    rw [e]
  rw [rc h] at body
  rw [aH body];have e:dL n x i H W=(i,H,W):=by
   rw [dL];split
   · rename_i h1;rw [rc (fun k=>h ⟨h1,k⟩)]
   rfl
  rw [e]
theorem B1 {n:Nat} {H:List Ev} {W:List Int} {x:Ev} {u fr:List Int} {us:List Bool} {i k:Nat} (hi:i<n) (hk:k<n) (KA:k≠i) (hn:n=akt H) (x0:0<=x.ix) (x1:x.ix<akt W) (k0:0<=(H[k]!).ix) (k1:(H[k]!).ix<akt W):
 fu ((i:Int),(k:Int),u,us,fr,H.set i x,W.set x.n (i:Int))=aku (u,us,fr,(H.set i H[k]!).set k x,(W.set (H[k]!).n (i:Int)).set x.n (k:Int)):=by
 have cell: ∀w,(H.set i x)[w]! =if w=i then x else H[w]!:=by
  intro w;rw [aU]
  by_cases e:w=i
  · rw [pp ⟨e,by omega⟩,pp e]
  rw [rc (fun k=>e k.1),rc e]
 have sh:((H.set i x).set i H[k]!).set k x=(H.set i H[k]!).set k x:=by rw [UV]
 have sw:((W.set x.n (i:Int)).set (H[k]!).n (i:Int)).set x.n (k:Int)=(W.set (H[k]!).n (i:Int)).set x.n (k:Int):=by
  by_cases e:x.n=(H[k]!).n
  · simp only [e,UV]
  rw [agb _ _ (fun h=>e h),UV]
 have g1:aI ((H.set i x)) (k:Int)=aku H[k]!:=by rw [ar _ _ (by rw [ut];omega),cell,rc KA]
 have g2:aI ((H.set i x)) (i:Int)=aku x:=by rw [ar _ _ (by rw [ut];omega),cell,pp rfl]
 have g3:aI (((H.set i x).set i H[k]!)) (k:Int)=aku H[k]!:=by rw [ar _ _ (by rw [ut,ut];omega),aU,rc (fun h=>KA h.1),cell,rc KA]
 have g4:aI (((H.set i H[k]!).set k x)) (i:Int)=aku H[k]!:=by rw [ar _ _ (by rw [ut,ut];omega),aU,rc (fun h=>KA h.1.symm),aU,pp ⟨rfl,by omega⟩]
 have g5:aI (((H.set i H[k]!).set k x)) (k:Int)=aku x:=by rw [ar _ _ (by rw [ut,ut];omega),aU,pp ⟨rfl,by rw [ut];omega⟩]
 have w6:=dG (l:=W.set x.n (i:Int)) k0 (by rw [ut];exact k1)
 have w7:=dG (l:=(W.set x.n (i:Int)).set (H[k]!).n (i:Int)) x0 (by rw [ut,ut];exact x1)
 have q1: ∀(l:List Int) (a:Int) (y:Ev),bZ l y.2.2.2.1 a=l.set y.n a:=fun _ _ _=>rfl
 unfold fu;simp only [kM,g1,g2,g3,aj,sh,g4,g5,q1,w6,w7,sw,ut,beq_self_eq_true,lw]
theorem V9 {c0:Int×List Int×List Bool×List Int×List Ev×List Int} {n:Nat} {u fr:List Int} {us:List Bool} {x:Ev} (hx:pE x) (x0:0<=x.ix) (l3:(akt c0.2.1)=akt u) (l4:(akt c0.2.2.1)=akt us) (l5:(akt c0.2.2.2.1)=akt fr):
 ∀(i:Nat) (H:List Ev) (W:List Int),lU n H W->i<n->akt H=n->x.ix<akt W->akt c0.2.2.2.2.1=akt H->akt c0.2.2.2.2.2=akt W->
  az (gD c0) ((i:Int),u,us,fr,H.set i x,W.set x.n (i:Int))=aku (((iD x i H W).1:Int),u,us,fr,(iD x i H W).2.1.set (iD x i H W).1 x,(iD x i H W).2.2.set x.n ((iD x i H W).1:Int))
 |0,H,W,c,hi,Rf,x1,l1,l2=>by
  have SU:=c.hn;refine aH ?_;unfold gD;have e1:am6 ((0:Int)<((0:Nat):Int))=am1:=by simp
  rw [iD];simp only [e1,ol,ut,l1,l2,l3,l4,l5,beq_self_eq_true,lw]
 |i+1,H,W,c,hi,Rf,x1,l1,l2=>by
  have hb:=c.hb;have SU:=c.hn;have e1:am6 ((0:Int)<((i+1:Nat):Int))=alt:=decide_eq_true (by omega)
  have hp:i / 2<n:=by omega
  have dW:i / 2≠i+1:=by omega
  obtain ⟨DN,a1,a2⟩:=c.ev (i / 2) hp;have cell: ∀w,(H.set (i+1) x)[w]! =if w=i+1 then x else H[w]!:=by
   intro w;rw [aU]
   by_cases e:w=i+1
   · rw [pp ⟨e,by omega⟩,pp e]
   rw [rc (fun k=>e k.1),rc e]
  have g0:aI ((H.set (i+1) x)) ((i+1:Nat):Int)=aku x:=by rw [ar _ _ (by rw [ut];omega),cell,pp rfl]
  have g1:aI ((H.set (i+1) x)) ((i / 2:Nat):Int)=aku H[i / 2]!:=by rw [ar _ _ (by rw [ut];omega),cell,rc dW]
  by_cases h:less x H[i / 2]!
  · have sw:=B1 (u:=u) (us:=us) (fr:=fr) (x:=x) hi hp dW Rf.symm x0 x1 a1 a2
    have r:gD c0 (((i+1:Nat):Int),u,us,fr,H.set (i+1) x,W.set x.n ((i+1:Nat):Int))=aku (.next (((i / 2:Nat):Int),u,us,fr,(H.set (i+1) H[i / 2]!).set (i / 2) x,(W.set (H[i / 2]!).n ((i+1:Nat):Int)).set x.n ((i / 2:Nat):Int))):=by
     unfold gD;simp only [e1,lw,rj (show i<1000000000 by omega),g0,g1,aj,mU hx DN,h,decide_true,sw]
    rw [ba r,V9 hx x0 l3 l4 l5 (i / 2) _ _ (c.move hi hp _ _) hp (by rw [ut];exact Rf) (by rw [ut];exact x1) (by rw [ut];exact l1) (by rw [ut];exact l2)]
    have e:iD x (i+1) H W=iD x (i / 2) (H.set (i+1) H[i / 2]!) (W.set (H[i / 2]!).n ((i+1:Nat):Int)):=by
     rw [iD,pp h]
    rw [e]
  refine aH ?_
  unfold gD;have e:iD x (i+1) H W=(i+1,H,W):=by rw [iD,rc h]
  rw [e];simp only [e1,lw,rj (show i<1000000000 by omega),g0,g1,aj,mU hx DN,h,decide_false,ol,ut,l1,l2,l3,l4,l5,beq_self_eq_true]
termination_by i=>i
decreasing_by omega
theorem ML {c0:Int×List Int×List Bool×List Int×List Ev×List Int} {n:Nat} {u fr:List Int} {us:List Bool} {x:Ev} (hx:pE x) (x0:0<=x.ix) (l3:(akt c0.2.1)=akt u) (l4:(akt c0.2.2.1)=akt us) (l5:(akt c0.2.2.2.1)=akt fr):
 ∀(d i:Nat) (H:List Ev) (W:List Int),n-i<=d->lU n H W->i<n->akt H=n->x.ix<akt W->akt c0.2.2.2.2.1=akt H->akt c0.2.2.2.2.2=akt W->
  az (jw c0) ((i:Int),u,us,fr,H.set i x,W.set x.n (i:Int))=aku ((u,us,fr,(dL n x i H W).2.1.set (dL n x i H W).1 x,(dL n x i H W).2.2.set x.n ((dL n x i H W).1:Int)))
 |0,i,H,W,hd,c,hi,Rf,x1,l1,l2=>by omega
 |d+1,i,H,W,hd,c,hi,Rf,x1,l1,l2=>by
  have hb:=c.hb;have SU:=c.hn;have cell: ∀w,(H.set i x)[w]! =if w=i then x else H[w]!:=by
   intro w;rw [aU]
   by_cases e:w=i
   · rw [pp ⟨e,by omega⟩,pp e]
   rw [rc (fun k=>e k.1),rc e]
  have V8:(H.set i x).length=(akt H):=ut;have body:jw c0 ((i:Int),u,us,fr,H.set i x,W.set x.n (i:Int))=aku (if 2*i+1<n/\less H[gK n H i]! x then .next (((gK n H i:Nat):Int),u,us,fr,(H.set i H[gK n H i]!).set (gK n H i) x,(W.set (H[gK n H i]!).n (i:Int)).set x.n ((gK n H i:Nat):Int)) else .done ((u,us,fr,H.set i x,W.set x.n (i:Int)))):=by
   have k1:=uH (show i<1000000000 by omega)
   unfold jw
   by_cases h1:2*i+1<n
   · have e1:am6 ((n:Int)<=((2*i+1:Nat):Int))=am1:=decide_eq_false (by omega)
     have e2:aa .i64 (((2*i+1:Nat):Int)+1)=((2*i+2:Nat):Int):=aR (by omega)
     obtain ⟨DN,a1,a2⟩:=c.ev (2*i+1) h1;have g0:aI ((H.set i x)) (i:Int)=aku x:=by rw [ar _ _ (by rw [ut];omega),cell,pp rfl]
     have g1:aI ((H.set i x)) ((2*i+1:Nat):Int)=aku H[2*i+1]!:=by rw [ar _ _ (by rw [ut];omega),cell,rc (by omega)]
     have s1:=B1 (u:=u) (us:=us) (fr:=fr) (x:=x) hi h1 (by omega) Rf.symm x0 x1 a1 a2
     simp only [ay,k1,V8,Rf,e1,e2,ol,g0,g1,aj,mU DN hx,s1,ut,l1,l2,l3,l4,l5,beq_self_eq_true,lw]
     by_cases h2:2*i+2<n
     · have e3:am6 (((2*i+2:Nat):Int)<(n:Int))=alt:=decide_eq_true (by omega)
       obtain ⟨V6,b1,b2⟩:=c.ev (2*i+2) h2;have g2:aI ((H.set i x)) ((2*i+2:Nat):Int)=aku H[2*i+2]!:=by rw [ar _ _ (by rw [ut];omega),cell,rc (by omega)]
       have s2:=B1 (u:=u) (us:=us) (fr:=fr) (x:=x) hi h2 (by omega) Rf.symm x0 x1 b1 b2
       simp only [e3,lw,g2,aj,s2,mU V6 hx,mU V6 DN]
       by_cases h3:less H[2*i+2]! H[2*i+1]!
       · have k:gK n H i=2*i+2:=by unfold gK;rw [pp ⟨h2,h3⟩]
         rw [k]
         by_cases h4:less H[2*i+2]! x
         · simp only [h1,h3,h4,decide_true,lw,ol,If,and_self,if_true]
         simp only [h1,h3,h4,decide_true,decide_false,lw,EQ,and_false,if_false]
       have k:gK n H i=2*i+1:=by unfold gK;rw [rc (fun h=>h3 h.2)]
       rw [k]
       by_cases h4:less H[2*i+1]! x
       · simp only [h1,h3,h4,decide_true,decide_false,ol,If,and_self,if_true]
       simp only [h1,h3,h4,decide_false,lw,ol,EQ,and_false,if_false]
     have e3:am6 (((2*i+2:Nat):Int)<(n:Int))=am1:=decide_eq_false (by omega)
     have k:gK n H i=2*i+1:=by unfold gK;rw [rc (fun h=>h2 h.1)]
     rw [k];simp only [e3,ol]
     by_cases h4:less H[2*i+1]! x
     · simp only [h1,h4,decide_true,ol,If,and_self,if_true]
     simp only [h1,h4,decide_false,lw,EQ,and_false,if_false]
   have e1:am6 ((n:Int)<=((2*i+1:Nat):Int))=alt:=decide_eq_true (by omega)
   rw [rc (fun h=>h1 h.1)]
   simp only [ay,k1,V8,Rf,e1,lw,ut,l1,l2,l3,l4,l5,beq_self_eq_true]
  by_cases h:2*i+1<n/\less H[gK n H i]! x
  · rw [pp h] at body
    have kc:=nN n H i;have kn:gK n H i<n:=by omega
    rw [ba body,ML hx x0 l3 l4 l5 d (gK n H i) _ _ (by omega) (c.move hi kn _ _) kn (by rw [ut];exact Rf) (by rw [ut];exact x1) (by rw [ut];exact l1) (by rw [ut];exact l2)]
    have e:dL n x i H W=dL n x (gK n H i) (H.set i H[gK n H i]!) (W.set (H[gK n H i]!).n (i:Int)):=by
     rw [dL,dif_pos h.1,pp h.2]
    rw [e]
  rw [rc h] at body
  rw [aH body];have e:dL n x i H W=(i,H,W):=by
   rw [dL];split
   · rename_i h1;rw [rc (fun k=>h ⟨h1,k⟩)]
   rfl
  rw [e]
theorem V' {n:Nat} {H:List Ev} {W:List Int} {x:Ev} {u fr:List Int} {us:List Bool} {i k:Nat} (hi:i<n) (hk:k<n) (KA:k≠i) (hn:n=akt H) (x0:0<=x.ix) (x1:x.ix<akt W) (k0:0<=(H[k]!).ix) (k1:(H[k]!).ix<akt W):
 me (u,us,fr,(i:Int),(k:Int),H.set i x,W.set x.n (i:Int))=aku ((H.set i H[k]!).set k x,(W.set (H[k]!).n (i:Int)).set x.n (k:Int)):=by
 have cell: ∀w,(H.set i x)[w]! =if w=i then x else H[w]!:=by
  intro w;rw [aU]
  by_cases e:w=i
  · rw [pp ⟨e,by omega⟩,pp e]
  rw [rc (fun k=>e k.1),rc e]
 have sh:((H.set i x).set i H[k]!).set k x=(H.set i H[k]!).set k x:=by rw [UV]
 have sw:((W.set x.n (i:Int)).set (H[k]!).n (i:Int)).set x.n (k:Int)=(W.set (H[k]!).n (i:Int)).set x.n (k:Int):=by
  by_cases e:x.n=(H[k]!).n
  · simp only [e,UV]
  rw [agb _ _ (fun h=>e h),UV]
 have g1:aI ((H.set i x)) (k:Int)=aku H[k]!:=by rw [ar _ _ (by rw [ut];omega),cell,rc KA]
 have g2:aI ((H.set i x)) (i:Int)=aku x:=by rw [ar _ _ (by rw [ut];omega),cell,pp rfl]
 have g3:aI (((H.set i x).set i H[k]!)) (k:Int)=aku H[k]!:=by rw [ar _ _ (by rw [ut,ut];omega),aU,rc (fun h=>KA h.1),cell,rc KA]
 have g4:aI (((H.set i H[k]!).set k x)) (i:Int)=aku H[k]!:=by rw [ar _ _ (by rw [ut,ut];omega),aU,rc (fun h=>KA h.1.symm),aU,pp ⟨rfl,by omega⟩]
 have g5:aI (((H.set i H[k]!).set k x)) (k:Int)=aku x:=by rw [ar _ _ (by rw [ut,ut];omega),aU,pp ⟨rfl,by rw [ut];omega⟩]
 have w6:=dG (l:=W.set x.n (i:Int)) k0 (by rw [ut];exact k1)
 have w7:=dG (l:=(W.set x.n (i:Int)).set (H[k]!).n (i:Int)) x0 (by rw [ut,ut];exact x1)
 have q1: ∀(l:List Int) (a:Int) (y:Ev),bZ l y.2.2.2.1 a=l.set y.n a:=fun _ _ _=>rfl
 unfold me;simp only [kM,g1,g2,g3,aj,sh,g4,g5,q1,w6,w7,sw,ut,beq_self_eq_true,lw]
theorem Wa {c0:List Int×List Bool×List Int×Int×List Ev×List Int} {n:Nat} {u fr:List Int} {us:List Bool} {x:Ev} (hx:pE x) (x0:0<=x.ix):
 ∀(i:Nat) (H:List Ev) (W:List Int),lU n H W->i<n->akt H=n->x.ix<akt W->akt c0.2.2.2.2.1=akt H->akt c0.2.2.2.2.2=akt W->
  az (gE c0) ((i:Int),H.set i x,W.set x.n (i:Int),u,us,fr)=aku (((iD x i H W).1:Int),(iD x i H W).2.1.set (iD x i H W).1 x,(iD x i H W).2.2.set x.n ((iD x i H W).1:Int))
 |0,H,W,c,hi,Rf,x1,l1,l2=>by
  have SU:=c.hn;refine aH ?_;unfold gE;have e1:am6 ((0:Int)<((0:Nat):Int))=am1:=by simp
  rw [iD];simp only [e1,ol,ut,l1,l2,beq_self_eq_true,lw]
 |i+1,H,W,c,hi,Rf,x1,l1,l2=>by
  have hb:=c.hb;have SU:=c.hn;have e1:am6 ((0:Int)<((i+1:Nat):Int))=alt:=decide_eq_true (by omega)
  have hp:i / 2<n:=by omega
  have dW:i / 2≠i+1:=by omega
  obtain ⟨DN,a1,a2⟩:=c.ev (i / 2) hp;have cell: ∀w,(H.set (i+1) x)[w]! =if w=i+1 then x else H[w]!:=by
   intro w;rw [aU]
   by_cases e:w=i+1
   · rw [pp ⟨e,by omega⟩,pp e]
   rw [rc (fun k=>e k.1),rc e]
  have g0:aI ((H.set (i+1) x)) ((i+1:Nat):Int)=aku x:=by rw [ar _ _ (by rw [ut];omega),cell,pp rfl]
  have g1:aI ((H.set (i+1) x)) ((i / 2:Nat):Int)=aku H[i / 2]!:=by rw [ar _ _ (by rw [ut];omega),cell,rc dW]
  by_cases h:less x H[i / 2]!
  · have sw:=V' (u:=u) (us:=us) (fr:=fr) (x:=x) hi hp dW Rf.symm x0 x1 a1 a2
    have r:gE c0 (((i+1:Nat):Int),H.set (i+1) x,W.set x.n ((i+1:Nat):Int),u,us,fr)=aku (.next (((i / 2:Nat):Int),(H.set (i+1) H[i / 2]!).set (i / 2) x,(W.set (H[i / 2]!).n ((i+1:Nat):Int)).set x.n ((i / 2:Nat):Int),u,us,fr)):=by
     unfold gE;simp only [e1,lw,rj (show i<1000000000 by omega),g0,g1,aj,mU hx DN,h,decide_true,sw]
    rw [ba r,Wa hx x0 (i / 2) _ _ (c.move hi hp _ _) hp (by rw [ut];exact Rf) (by rw [ut];exact x1) (by rw [ut];exact l1) (by rw [ut];exact l2)]
    have e:iD x (i+1) H W=iD x (i / 2) (H.set (i+1) H[i / 2]!) (W.set (H[i / 2]!).n ((i+1:Nat):Int)):=by
     rw [iD,pp h]
    rw [e]
  refine aH ?_
  unfold gE;have e:iD x (i+1) H W=(i+1,H,W):=by rw [iD,rc h]
  rw [e];simp only [e1,lw,rj (show i<1000000000 by omega),g0,g1,aj,mU hx DN,h,decide_false,ol,ut,l1,l2,beq_self_eq_true]
termination_by i=>i
decreasing_by omega
theorem aC {p:Prop} [Decidable p] (h: ¬p):decide p=am1:=decide_eq_false h
theorem aD {p:Prop} [Decidable p] (h:p):decide p=alt:=decide_eq_true h
theorem MM (aA:List Int) (be:List Bool) (fr:List Int) (fl:List Bool) (h1:(akt aA)<=200) (h2:(akt be)=akt aA) (h3:(akt fl)=akt aA):
 ((∀i,i<akt aA->0<=aA[i]!/\aA[i]!<=1000000/\be[i]!≠fl[i]!/\(be[i]! =alt->1<=aA[i]!))->az jN (((akt aA):Int),0,aA,be,fr,fl)=aku (.done 0))/\
 (¬(∀i,i<akt aA->0<=aA[i]!/\aA[i]!<=1000000/\be[i]!≠fl[i]!/\(be[i]! =alt->1<=aA[i]!))->az jN (((akt aA):Int),0,aA,be,fr,fl)=aku (.done 8)):=by
 have key:=dh (body:=jN) (fun i=>(((akt aA):Int),(i:Int),aA,be,fr,fl)) (akt aA) (fun i=> ¬(0<=aA[i]!/\aA[i]!<=1000000/\be[i]!≠fl[i]!/\(be[i]! =alt->1<=aA[i]!))) (r:= .done 8) (e:= .done 0) (fun i hi=>by
  have e1:am6 ((i:Int)<((akt aA):Int))=alt:=aD (by omega)
  unfold jN;simp only [e1,lw,ar aA i hi,ar be i (by omega),ar fl i (by omega),aj,aR (show i<1000000000 by omega)]
  generalize aA[i]! =u;generalize be[i]! =a;generalize fl[i]! =b
  by_cases a1:u<0
  · simp only [a1,decide_true,lw];exact ⟨fun _=>trivial,fun h=>absurd (v6.1 h).1 (by omega)⟩
  · by_cases a2:1000000<u
    · simp only [a1,a2,decide_true,decide_false,lw,ol];exact ⟨fun _=>trivial,fun h=>absurd (v6.1 h).2.1 (by omega)⟩
    simp only [a1,a2,decide_false,ol]
    by_cases a3:u<1
    · cases a<;>cases b<;>simp [a3]<;>omega
    cases a<;>cases b<;>simp [a3]<;>omega) (by
  unfold jN
  have:am6 (((akt aA):Int)<((akt aA):Int))=am1:=aC (by omega)
  simp only [this,ol])
 constructor
 · intro h
   exact key.2 fun i hi=>v6.2 (h i hi)
 intro h
 obtain ⟨i,h⟩:=F0s.1 h;obtain ⟨hi,hx⟩:=af7.1 h;exact key.1 ⟨i,hi,hx⟩
theorem Gr {α:Type} {n:Nat} (z:α) (h:n<=1048576):xj (n:Int) z=aku (ww n z):=by
 unfold xj;rw [pp ⟨by omega,by omega⟩]
 simp
theorem Gs (s:bc) (hf:(akt s.bi)<=1000000):tO s=aku (if eK s then 0 else 8):=by
 obtain ⟨aA,be,fr⟩:=s;dsimp only at hf;unfold tO;simp only [ay]
 by_cases a1:(akt aA)<1
 · have e:am6 (((akt aA):Int)<1)=alt:=aD (by omega)
   rw [e,rc (fun h=>by have:=h.n1;dsimp only at this;omega)];rfl
 have e1:am6 (((akt aA):Int)<1)=am1:=aC (by omega)
 by_cases a2:200<akt aA
 · have e:am6 (200<((akt aA):Int))=alt:=aD (by omega)
   rw [e1,e,rc (fun h=>by have:=h.n2;dsimp only at this;omega)];rfl
 have e2:am6 (200<((akt aA):Int))=am1:=aC (by omega)
 by_cases a3:(akt be)=akt aA
 case neg=>
  have e:(((akt be):Int) !=((akt aA):Int))=alt:=cK (by omega)
  rw [e1,e2,e,rc (fun h=>a3 h.ul)];rfl
 have e3:(((akt be):Int) !=((akt aA):Int))=am1:=bn (by omega)
 by_cases a4:(akt aA)<akt fr
 · have e:am6 (((akt aA):Int)<((akt fr):Int))=alt:=aD (by omega)
   rw [e1,e2,e3,e,rc (fun h=>by have:=h.fl;dsimp only at this;omega)];rfl
 have e4:am6 (((akt aA):Int)<((akt fr):Int))=am1:=aC (by omega)
 simp only [e1,e2,e3,e4,ol,beq_self_eq_true,lw,Gr am1 (show (akt aA)<=1048576 by omega),aj]
 have ml: ∀k,(marks (ww (akt aA) am1) (fr.take k)).length=(akt aA):=fun k=>by rw [mr,PP]
 have ml':(marks (ww (akt aA) am1) fr).length=(akt aA):=by rw [mr,PP]
 have rep: ∀i:Nat,(ww (akt aA) am1)[i]! =am1:=by
  intro i
  by_cases h:i<akt aA
  · rw [getElem!_pos _ i (by simpa using h),List.getElem_replicate]
  rw [getElem!_neg _ i (by simpa using h)];rfl
 have BY:=MM aA be fr (marks (ww (akt aA) am1) fr) (by omega) a3 ml'
 have key:=dh (body:=oC) (fun k=>(((akt aA):Int),(k:Int),aA,be,fr,marks (ww (akt aA) am1) (fr.take k))) (akt fr)
  (fun k=>fr[k]!<0\/((akt aA):Int)<=fr[k]!\/(marks (ww (akt aA) am1) (fr.take k))[(fr[k]!).toNat]! =alt) (r:=8)
  (e:=if (∀i,i<akt aA->0<=aA[i]!/\aA[i]!<=1000000/\be[i]!≠(marks (ww (akt aA) am1) fr)[i]!/\(be[i]! =alt->1<=aA[i]!)) then 0 else 8) (fun k hk=>by
   have f1:am6 ((k:Int)<((akt fr):Int))=alt:=aD (by omega)
   have f5:marks (ww (akt aA) am1) (fr.take (k+1))=bZ (marks (ww (akt aA) am1) (fr.take k)) fr[k]! alt:=by rw [ek hk,AY]
   unfold oC;simp only [ay,f1,lw,ar fr k hk,aj,aR (show k<1000000000 by omega),f5]
   clear f5;generalize fr[k]! =x
   by_cases b1:x<0
   · simp [b1]
   · by_cases b2:((akt aA):Int)<=x
     · simp [b1,b2]
     simp only [b1,b2,decide_false,ol,false_or]
     rw [dG (l:=marks (ww (akt aA) am1) (fr.take k)) (i:=x) (by omega) (by rw [ml];omega)]
     simp only [aj];cases (marks (ww (akt aA) am1) (fr.take k))[x.toNat]!<;>simp) (by
   have f1:am6 (((akt fr):Int)<((akt fr):Int))=am1:=aC (by omega)
   unfold oC;simp only [ay,f1,ol,agx]
   by_cases hx:(∀i,i<akt aA->0<=aA[i]!/\aA[i]!<=1000000/\be[i]!≠(marks (ww (akt aA) am1) fr)[i]!/\(be[i]! =alt->1<=aA[i]!))
   · rw [pp hx];exact BY.1 hx
   rw [rc hx];exact BY.2 hx)
 have h0:marks (ww (akt aA) am1) (fr.take 0)=ww (akt aA) am1:=rfl;rw [show ((0:Nat):Int)=0 from rfl,h0] at key
 by_cases bad: ∃k,k<akt fr/\(fr[k]!<0\/((akt aA):Int)<=fr[k]!\/(marks (ww (akt aA) am1) (fr.take k))[(fr[k]!).toNat]! =alt)
 · rw [key.1 bad,rc]
   intro ok;obtain ⟨k,hk,hb⟩:=bad;have hr:=ok.fr fr[k]! (aX hk);dsimp only at hr;rcases hb with hb|hb|hb
   · omega
   · omega
   rw [nM _ _ _ (fun x hx=>(ok.fr x (ae9 hx)).1) (by rw [PP];omega),rep,agc] at hb
   have hi:((fr[k]!).toNat:Int)=fr[k]!:=by omega
   rw [hi] at hb;have hm:fr[k]!∈fr.take k:=of_decide_eq_true hb;obtain ⟨j,h1,h2,h3⟩:=cf.1 hm;exact fR.1 ok.fd j k h1 hk h3
 have Pb: ∀k,k<akt fr->0<=fr[k]!/\fr[k]!<akt aA/\(marks (ww (akt aA) am1) (fr.take k))[(fr[k]!).toNat]! =am1:=by
  intro k hk;refine ⟨?_,?_,?_⟩
  · exact Int.not_lt.1 fun h=>bad ⟨k,hk,.inl h⟩
  · exact Int.not_le.1 fun h=>bad ⟨k,hk,.inr (.inl h)⟩
  exact afQ _▸fun h=>bad ⟨k,hk,.inr (.inr h)⟩
 rw [key.2 fun k hk hb=>bad ⟨k,hk,hb⟩]
 have Pc: ∀x∈fr,0<=x/\x<((akt aA):Int):=by
  intro x hx;obtain ⟨k,hk,rfl⟩:=aS.1 hx;exact ⟨(Pb k hk).1,(Pb k hk).2.1⟩
 have g2: ∀k,k<akt fr->fr[k]!∉fr.take k:=by
  intro k hk;obtain ⟨c1,c2,c3⟩:=Pb k hk;rw [nM _ _ _ (fun x hx=>(Pc x (ae9 hx)).1) (by rw [PP];omega),show ((fr[k]!).toNat:Int)=fr[k]! by omega,rep,agc] at c3
  exact of_decide_eq_false c3
 have nd:fr.Nodup:=fR.2 fun i j lg hj he=>g2 j hj (cf.2 ⟨i,lg,by omega,he⟩)
 have fl: ∀i,i<akt aA->(marks (ww (akt aA) am1) fr)[i]! =am6 ((i:Int)∈fr):=by
  intro i hi;rw [nM _ _ _ (fun x hx=>(Pc x hx).1) (by rw [PP];omega),rep,agc]
 by_cases hx:(∀i,i<akt aA->0<=aA[i]!/\aA[i]!<=1000000/\be[i]!≠(marks (ww (akt aA) am1) fr)[i]!/\(be[i]! =alt->1<=aA[i]!))
 · rw [pp hx,pp]
   refine ⟨by show 1<=akt aA;omega,by show (akt aA)<=200;omega,a3,Pc,nd,fun i hi=>?_,fun i hi=>?_⟩
   · have:=(hx i hi).2.2.1
     rw [fl i hi] at this;dsimp only;cases h:be[i]! with
     |true=>
      rw [h] at this;refine ⟨fun _ hm=>?_,fun _=>rfl⟩
      rw [aD hm] at this;exact this rfl
     |false=>
      rw [h] at this;refine ⟨fun h=>(by cases h),fun hm=>?_⟩
      rw [aC hm] at this;exact absurd rfl this
   have:=hx i hi
   exact ⟨this.1,this.2.1,this.2.2.2⟩
 rw [rc hx,rc]
 intro ok;refine hx fun i hi=>?_
 obtain ⟨u1,u2,u3⟩:=ok.us i hi;refine ⟨u1,u2,?_,u3⟩;rw [fl i hi]
 have:=ok.uf i hi
 dsimp only at this;intro he
 by_cases hm:(i:Int)∈fr
 · rw [aD hm] at he;exact (this.1 he) hm
 rw [aC hm] at he
 have:=this.2 hm
 rw [he] at this;cases this
structure yt (a:aK):Prop where
 fr:(akt a.af.bi)<=1000000
 hp:(akt a.bv)<=1000000
 wh:(akt a.aq)<=1000000
 Ph: ∀w,w<akt a.bv->o4 ((a.bv[w]!).1,(a.bv[w]!).2.1)
structure eH (a:aK):Prop where
 so:eK a.af
 wl:(akt a.aq)=akt a.af.aA
 hl:(akt a.bv)+akt a.af.bi=akt a.af.aA
 fwd: ∀i,i<akt a.af.aA->a.af.be[i]! =alt->0<=a.aq[i]!/\a.aq[i]!<akt a.bv/\(Ev.ix a.bv[(a.aq[i]!).toNat]!)=i/\(a.bv[(a.aq[i]!).toNat]!).2.2.2.2=a.af.aA[i]!
 un: ∀i,i<akt a.af.aA->a.af.be[i]! =am1->a.aq[i]! = -1
 ev: ∀w,w<akt a.bv->pE a.bv[w]!
 nd: ∀v w,v<w->w<akt a.bv->(Ev.num a.bv[v]!)≠(Ev.num a.bv[w]!)
 ord: ∀k,0<k->k<akt a.bv-> ¬less a.bv[k]! a.bv[(k-1) / 2]!
theorem cover: ∀(n:Nat) (l:List Nat),(∀x,x<n->x∈l)->n<=akt l
 |0,_,_=>Nat.zero_le _
 |n+1,l,h=>by
  have hn:=h n (by omega)
  have:=cover n (l.erase n) (fun x hx=>by
   rw [List.mem_erase_of_ne (by omega)]
   exact h x (by omega))
  rw [List.length_erase_of_mem hn] at this
  have:=List.length_pos_of_mem hn
  omega
def Ir (s:bc):List Nat:=(List.range (akt s.aA)).filter fun i=>s.be[i]!
theorem zo {s:bc} {i:Nat}:i∈Ir s↔i<akt s.aA/\s.be[i]! =alt:=by
 unfold Ir;rw [agM,List.mem_range]
theorem zp {α β:Type} {f:α->β}: ∀{l:List α},l.Nodup->(∀x∈l,∀y∈l,f x=f y->x=y)->(l.map f).Nodup
 | [],_,_=>by simp
 |a::l,h,hf=>by
  rw [afb] at h;rw [List.map_cons,afb];refine ⟨?_,zp h.2 fun x hx y hy=>hf x (by simp [hx]) y (by simp [hy])⟩
  intro hm;obtain ⟨b,hb,e⟩:=adc.1 hm
  have:=hf b (by simp [hb]) a (by simp) e
  subst this;exact h.1 hb
theorem eH.back {a:aK} (ok:eH a) {w:Nat} (hw:w<akt a.bv):0<=(Ev.ix a.bv[w]!)/\(Ev.ix a.bv[w]!)<akt a.af.aA/\a.af.be[(Ev.n a.bv[w]!)]! =alt/\a.af.aA[(Ev.n a.bv[w]!)]! =(a.bv[w]!).2.2.2.2/\a.aq[(Ev.n a.bv[w]!)]! =(w:Int):=by
 have so:=ok.so;have len:(akt a.af.aA)<=(Ir a.af).length+(akt a.af.bi):=by
  have:=cover (akt a.af.aA) (Ir a.af++a.af.bi.map akr) (fun x hx=>by
   rw [afR]
   by_cases hu:a.af.be[x]! =alt
   · exact .inl (zo.2 ⟨hx,hu⟩)
   right
   have:=so.uf x hx
   have hm:(x:Int)∈a.af.bi:=M2 fun hc=>hu (this.2 hc)
   exact adc.2 ⟨_,hm,by omega⟩)
  rw [List.length_append,afc] at this;exact this
 have f0: ∀i∈Ir a.af,0<=a.aq[i]!/\a.aq[i]!<akt a.bv/\(Ev.ix a.bv[(a.aq[i]!).toNat]!)=i/\(a.bv[(a.aq[i]!).toNat]!).2.2.2.2=a.af.aA[i]!:=fun i hi=>ok.fwd i (zo.1 hi).1 (zo.1 hi).2
 have full:=DK (n:=akt a.bv) (l:=(Ir a.af).map fun i=>(a.aq[i]!).toNat) (by
  refine zp ?_ ?_
  · exact List.Pairwise.filter _ List.nodup_range
  · intro x hx y hy he
    have h1:=(f0 x hx).2.2.1;have h2:=(f0 y hy).2.2.1;rw [he] at h1
    omega) (by
  intro x hx;obtain ⟨i,hi,rfl⟩:=adc.1 hx
  have:=f0 i hi
  omega) (by
  rw [afc]
  have:=ok.hl
  omega) w hw
 obtain ⟨i,hi,e⟩:=adc.1 full;obtain ⟨c1,c2,c3,c4⟩:=f0 i hi;obtain ⟨d1,d2⟩:=zo.1 hi;rw [e] at c3 c4;have hn:(Ev.n a.bv[w]!)=i:=by show ((Ev.ix a.bv[w]!)).toNat=i;omega
 rw [hn];refine ⟨by omega,by omega,d2,c4.symm,by omega⟩
noncomputable def Pj (x y:Ev):Int:=if cC (x.1,x.2.1)/\cC (y.1,y.2.1) then Gl x y else jt x.2.2.1 y.2.2.1
theorem A0 {x y:Ev} (hx:o4 (x.1,x.2.1)) (hy:o4 (y.1,y.2.1)):cy x y=aku (Pj x y):=by
 unfold cy Pj Gl;rw [VY hx hy]
 by_cases h:cC (x.1,x.2.1)/\cC (y.1,y.2.1)
 · rw [pp h,pp h]
   simp only [aj,jR,zk]
 rw [rc h,rc h]
 simp only [aj,jR,zk];simp
def Gt (a:aK) (i:Nat):Prop:=(a.af.be[i]! =alt->0<=a.aq[i]!/\a.aq[i]!<akt a.bv/\(Ev.ix a.bv[(a.aq[i]!).toNat]!)=i/\(a.bv[(a.aq[i]!).toNat]!).2.2.2.2=a.af.aA[i]!)/\(a.af.be[i]! =am1->a.aq[i]! = -1)
def Hv (H:List Ev) (k:Nat):Prop:=cC ((H[k]!).1,(H[k]!).2.1)/\0<=(H[k]!).2.2.1/\(H[k]!).2.2.1<=1000000/\(∀j,j<k->(H[j]!).2.2.1≠(H[k]!).2.2.1)/\(0<k-> ¬Pj H[k]! H[(k-1) / 2]!<0)
theorem eH.of {a:aK} (fit:yt a) (so:eK a.af) (wl:(akt a.aq)=akt a.af.aA) (hl:(akt a.bv)+akt a.af.bi=akt a.af.aA) (wh: ∀i,i<akt a.af.aA->Gt a i) (hp: ∀k,k<akt a.bv->Hv a.bv k):eH a:=by
 have ev: ∀w,w<akt a.bv->pE a.bv[w]!:=fun w hw=>⟨(hp w hw).1,fit.Ph w hw,(hp w hw).2.1,(hp w hw).2.2.1⟩
 refine ⟨so,wl,hl,fun i hi=>(wh i hi).1,fun i hi=>(wh i hi).2,ev,fun v w hv hw=>(hp w hw).2.2.2.1 v hv,fun k k0 hk=>?_⟩
 have:=(hp k hk).2.2.2.2 k0
 unfold Pj at this;rw [pp ⟨(hp k hk).1,(hp ((k-1) / 2) (by omega)).1⟩,B0] at this
 exact this
theorem eH.to {a:aK} (ok:eH a):(∀i,i<akt a.af.aA->Gt a i)/\(∀k,k<akt a.bv->Hv a.bv k):=by
 refine ⟨fun i hi=>⟨ok.fwd i hi,ok.un i hi⟩,fun k hk=>?_⟩
 have e:=ok.ev k hk;refine ⟨e.1,e.2.2.1,e.2.2.2,fun j hj=>ok.nd j k hj hk,fun k0=>?_⟩
 unfold Pj;rw [pp ⟨e.1,(ok.ev ((k-1) / 2) (by omega)).1⟩,B0]
 exact ok.ord k k0 hk
theorem Is (H:List Ev) (k:Nat) (n:Int):oh [n] ((H.take k).map fun x=>[x.2.2.1])=alt:=by
 unfold oh;rw [List.all_eq_true];intro x hx;obtain ⟨y,hy,rfl⟩:=adc.1 hx;rfl
theorem It (H:List Ev) (k:Nat) (n:Int):D3 ((H.take k).map fun x=>[x.2.2.1]) [n]=am6 (∃j,j<k/\j<akt H/\(H[j]!).2.2.1=n):=by
 unfold D3;rw [Bool.eq_iff_iff,List.any_eq_true,decide_eq_true_iff];constructor
 · rintro ⟨x,hx,he⟩
   obtain ⟨y,hy,rfl⟩:=adc.1 hx;obtain ⟨j,h1,h2,rfl⟩:=cf.1 hy
   have:[n]=[(H[j]!).2.2.1]:=by simpa using he
   exact ⟨j,h1,h2,by injection this with h;exact h.symm⟩
 rintro ⟨j,h1,h2,h3⟩
 refine ⟨[(H[j]!).2.2.1],adc.2 ⟨H[j]!,cf.2 ⟨j,h1,h2,rfl⟩,rfl⟩,?_⟩;rw [h3];simp
theorem Ka (H:List Ev) (u fr W:List Int) (us:List Bool) (hl:(akt H)<=1000000) (yu: ∀w,w<akt H->o4 ((H[w]!).1,(H[w]!).2.1)):
 ((∀k,k<akt H->Hv H k)->az iL (H,((akt H):Int),0,u,us,fr,H,W,[])=aku (.done 0))/\(¬(∀k,k<akt H->Hv H k)->az iL (H,((akt H):Int),0,u,us,fr,H,W,[])=aku (.done 8)):=by
 have key:=dh (body:=iL) (fun k=>(H,((akt H):Int),(k:Int),u,us,fr,H,W,(H.take k).map fun x=>[x.2.2.1])) (akt H) (fun k=> ¬Hv H k) (r:= .done 8) (e:= .done 0) (fun k hk=>by
  have e1:am6 ((k:Int)<((akt H):Int))=alt:=aD (by omega)
  have ins: ∀n:Int,¬(∃j,j<k/\j<akt H/\(H[j]!).2.2.1=n)->Lr ((H.take k).map fun x=>[x.2.2.1]) [n]=aku (((H.take k).map fun x=>[x.2.2.1])++[[n]]):=by
   intro n hn;unfold Lr Od;rw [Is,It,aC hn];rfl
  have has: ∀n:Int,Lq ((H.take k).map fun x=>[x.2.2.1]) [n]=aku (am6 (∃j,j<k/\j<akt H/\(H[j]!).2.2.1=n)):=by
   intro n;unfold Lq;rw [Is,It];rfl
  have nx:(H.take (k+1)).map (fun x=>[x.2.2.1])=((H.take k).map fun x=>[x.2.2.1])++[[(H[k]!).2.2.1]]:=by
   rw [ek hk,List.map_append];rfl
  unfold iL;simp only [e1,lw,ar H k hk,aj,fN (yu k hk),aR (show k<1000000000 by omega),has,nx]
  unfold Hv
  by_cases b1:cC ((H[k]!).1,(H[k]!).2.1)
  case neg=>
   rw [rc b1];exact ⟨fun _=>rfl,fun h=>absurd (v6.1 h).1 b1⟩
  rw [pp b1]
  by_cases b2:(H[k]!).2.2.1<0
  · rw [aD b2]
    exact ⟨fun _=>rfl,fun h=>absurd (v6.1 h).2.1 (by omega)⟩
  by_cases b3:1000000<(H[k]!).2.2.1
  · rw [aC b2,aD b3]
    exact ⟨fun _=>rfl,fun h=>absurd (v6.1 h).2.2.1 (by omega)⟩
  rw [aC b2,aC b3]
  by_cases b4: ∃j,j<k/\j<akt H/\(H[j]!).2.2.1=(H[k]!).2.2.1
  · rw [aD b4]
    refine ⟨fun _=>rfl,fun h=>?_⟩
    obtain ⟨j,j1,j2,j3⟩:=b4;exact absurd j3 ((v6.1 h).2.2.2.1 j j1)
  rw [aC b4,ins _ b4];have b4': ∀j,j<k->(H[j]!).2.2.1≠(H[k]!).2.2.1:=fun j hj he=>b4 ⟨j,hj,by omega,he⟩
  simp only [show ((0:Int) !=0)=am1 from rfl,ol,aj]
  by_cases b5:0<k
  · obtain ⟨m,rfl⟩: ∃m,k=m+1:=⟨k-1,by omega⟩
    have f1:am6 ((0:Int)<((m+1:Nat):Int))=alt:=aD (by omega)
    simp only [f1,lw,rj (show m<1000000000 by omega),ar H (m / 2) (by omega),aj,A0 (yu (m+1) hk) (yu (m / 2) (by omega)),show (m+1-1) / 2=m / 2 by omega]
    by_cases b6:Pj H[m+1]! H[m / 2]!<0
    · rw [aD b6]
      exact ⟨fun _=>rfl,fun h=>absurd b6 ((v6.1 h).2.2.2.2 (by omega))⟩
    rw [aC b6]
    exact ⟨fun h=>absurd ⟨b1,by omega,by omega,b4',fun _=>b6⟩ h,fun _=>rfl⟩
  · have f1:am6 ((0:Int)<(k:Int))=am1:=aC (by omega)
    rw [f1];exact ⟨fun h=>absurd ⟨b1,by omega,by omega,b4',fun h=>absurd h b5⟩ h,fun _=>rfl⟩) (by
  unfold iL
  have:am6 (((akt H):Int)<((akt H):Int))=am1:=aC (by omega)
  simp only [this,ol])
 constructor
 · intro h
   exact key.2 fun i hi=>v6.2 (h i hi)
 intro h
 obtain ⟨i,h⟩:=F0s.1 h;obtain ⟨hi,hx⟩:=af7.1 h;exact key.1 ⟨i,hi,hx⟩
end Go.Proofs.YtbgoiokedpjgbaaGreat
