/- Plain laws (1). -/
import Derived.Test.YtbgoiokedpjgbaaGreatQVm3
import Derived.Test.YtbgoiokedpjgbaaGreatQVm1
import Derived.Test.YtbgoiokedpjgbaaGreatQQS2
open List renaming length_set->ut,replicate->ww,length_replicate->PP,set_set->UV,mem_map->acl,mem_of_mem_take->adc,length_take->adm,nodup_cons->ae8,length_map->ae9,mem_singleton->afc,getElem?_eq_getElem->afx,mem_append->afI,set_comm->afX,length_cons->agl,take_length->agp,mem_filter->agE,mem_cons->aka,length->alt
open Classical renaming not_not->v6,not_forall->F0s,byContradiction->IR,not_imp->ae4
open Option.some renaming injEq->AC
open Nat renaming gcd->Do,gcd_comm->ae3,gcd_dvd_right->afj,gcd_pos_of_pos_right->afy,le_refl->afJ,mul_div_cancel'->afW,gcd_zero_right->afZ,gcd_dvd_left->agj,strongRecOn->agy,div_le_self->agz,le_trans->akc
open Bool renaming not_false->EQ,not_true->If,not_eq_true->afB,or_eq_false_iff->afN,false_or->afY,false_eq_true->agd,true->am0,false->am1
open Int renaming mul_le_mul_of_nonneg_right->M2,ofNat->NE,mul_neg_of_neg_of_pos->ae1,eq_ofNat_of_zero_le->ae2,neg_mul->ae5,mul_comm->af3,mul_lt_mul_of_pos_right->af4,fdiv_eq_ediv_of_nonneg->af5,mul_le_mul->afa,tdiv_eq_ediv_of_nonneg->afb,lt_of_mul_lt_mul_right->afe,lt_trichotomy->afg,mul_nonneg->afK,tdiv->afM,natCast_mul->agB,ofNat_tmod->agG,ofNat_tdiv->agK,mul_assoc->aig,toNat->akb
open Prod.mk renaming injEq->WF
open Option renaming some->alX
open Decidable renaming decide->am2
namespace Go.Vm
instance lpN:LP:=⟨none⟩
section
variable {σ ρ : Type}
theorem aU {body:σ->Option (Step σ ρ)} {x:σ} {r:ρ}:ay body x=alX r↔ ∃n,qz body n x=alX r:=DN
theorem aV {body:σ->Option (Step σ ρ)} {x y:σ} (h:body x=alX (.next y)):ay body x=ay body y:=by
 apply Option.ext;intro r;rw [aU,aU];constructor
 · rintro ⟨n,hn⟩
   cases n with
   |zero=>cases hn
   |succ n=>simp only [qz,h] at hn;exact ⟨n,hn⟩
 rintro ⟨n,hn⟩
 exact ⟨n+1,by simp only [qz,h];exact hn⟩
theorem aH {body:σ->Option (Step σ ρ)} {x:σ} {r:ρ} (h:body x=alX (.done r)):ay body x=alX r:=
 aU.2 ⟨1,by simp only [qz,h]⟩
end
end Go.Vm
namespace Go.Proofs.YtbgoiokedpjgbaaGreat
open Go.Vm
structure Ag where
 jp:aM
 bv:List Int
noncomputable def oP (s:((List Int)×Int×Int)):Option (Step ((List Int)×Int×Int) Int):=
 bif am2 (s.2.2<(NE (alt s.1))) then
  (aJ s.1 s.2.2).bind fun n0=>
  bif n0==s.2.1 then
   alX (.done s.2.2)
  else
   alX (.next (s.1,s.2.1,aa .i64 (s.2.2+1)))
 else
  alX (.done (-1))
noncomputable def MR (p0:List Int) (p1:Int):Option Int:=
 ay oP (p0,p1,0)
noncomputable def ic (s:(Int×Int×(List (Int×Int×Int))×(List (Int×Int×Int)))):Option (Step (Int×Int×(List (Int×Int×Int))×(List (Int×Int×Int))) Field):=
 bif am2 (s.2.1<(NE (alt s.2.2.1))) then
  (aJ s.2.2.1 s.2.1).bind fun a0=>
  bif a0.1 !=s.1 then
   (aJ s.2.2.1 s.2.1).bind fun a1=>
   (bo s.2.2.2 [a1]).bind fun l2=>
   alX (.next (s.1,aa .i64 (s.2.1+1),s.2.2.1,l2))
  else
   alX (.next (s.1,aa .i64 (s.2.1+1),s.2.2))
 else
  alX (.done (Field.mk s.2.2.2))
noncomputable def Ah (p0:Field) (p1:Int):Option Field:=
 ay ic (p1,0,p0.am,[])
noncomputable def xe (p0:Field) (p1:Int):Option (Field×Int):=
 (gm p0).bind fun n0=>
 bif n0 !=0 then
  alX (Field.mk [],n0)
 else
  (fL p0 p1).bind fun n1=>
  bif am2 (n1<0) then
   alX (Field.mk [],6)
  else
   (Ah p0 p1).bind fun r2=>
   alX (r2,0)
structure auG where
 lc:Int
 lm:List (Int×Int×Int)
structure Di where
 jp:aM
 ls:auG
noncomputable def Ai (p0:Int×Int×Int) (p1:List (Int×Int)):Option Bool:=
 (eA p1 p0.2).bind fun b0=>
 alX (!b0)
noncomputable def bK (s:((List (Int×Int×Int))×(List (Int×Int))×Int×Int)):Option (Step ((List (Int×Int×Int))×(List (Int×Int))×Int×Int) Int):=
 bif am2 (s.2.2.2<s.2.2.1) then
  (aJ s.1 s.2.2.2).bind fun a0=>
  (Ai a0 s.2.1).bind fun b1=>
  bif b1 then
   alX (.done s.2.2.2)
  else
   alX (.next (s.1,s.2.1,s.2.2.1,aa .i64 (s.2.2.2+1)))
 else
  alX (.done (-1))
noncomputable def gR (p0:List (Int×Int×Int)) (p1:(List (Int×Int))):Option Int:=
 ay bK (p0,p1,NE (alt p0),0)
noncomputable def gf (p0:List (Int×Int×Int)) (p1:(List (Int×Int))):Option Bool:=
 (gR p0 p1).bind fun n0=>
 alX (am2 (0<=n0))
noncomputable def yF (p0:aM) (p1:List (Int×Int)):Option Bool:=
 bif (NE (alt p1))==(NE (alt p0.af.ce)) then
  (gf p0.af.ce p1).bind fun b0=>
  alX (!b0)
 else
  alX am1
noncomputable def fo (s:(Bool×Int×(List (Int×Int×Int))×Int×Int×Int×(List (Int×Int×Int)))):Option (Step (Bool×Int×(List (Int×Int×Int))×Int×Int×Int×(List (Int×Int×Int))) (Field×Int)):=
 match s with
 |(a,b,d,e,f,g,h)=>
  bif am2 (b<(NE (alt d))) then
   bif !a then
    (aJ d b).bind fun a0=>
    bif am2 (e<a0.1) then
     (bo h [(e,f,g)]).bind fun l1=>
     (aJ d b).bind fun a2=>
     (bo l1 [a2]).bind fun l3=>
     alX (.next (am0,aa .i64 (b+1),d,e,f,g,l3))
    else
     (aJ d b).bind fun a4=>
     (bo h [a4]).bind fun l5=>
     alX (.next (a,aa .i64 (b+1),d,e,f,g,l5))
   else
    (aJ d b).bind fun a6=>
    (bo h [a6]).bind fun l7=>
    alX (.next (a,aa .i64 (b+1),d,e,f,g,l7))
  else
   bif !a then
    (bo h [(e,f,g)]).bind fun l8=>
    alX (.done (Field.mk l8,0))
   else
    alX (.done (Field.mk h,0))
noncomputable def sx (p0:Field) (p1:Int×Int×Int):Option (Field×Int):=
 (gm p0).bind fun n0=>
 bif n0 !=0 then
  alX (Field.mk [],n0)
 else
  (qE p1).bind fun n1=>
  bif n1 !=0 then
   alX (Field.mk [],8)
  else
   (fL p0 p1.1).bind fun n2=>
   bif am2 (0<=n2) then
    alX (Field.mk [],14)
   else
    bif (NE (alt p0.am))==64 then
     alX (Field.mk [],18)
    else
     ay fo (am1,0,p0.am,p1.1,p1.2.1,p1.2.2,[])
noncomputable def mL (s:((List Int)×(List Int))):Option (Step ((List Int)×(List Int)) (Step ((List Int)×Int×Int×(List Int)) (List Int))):=
 bif am2 ((NE (alt s.2))<(aa .i64 (2*(NE (alt s.1))))) then
  (bo s.2 [-1]).bind fun l0=>
  alX (.next (s.1,l0))
 else
  alX (.done (.done s.2))
noncomputable def p8 (s:((List Int)×Int×Int×(List Int))):Option (Step ((List Int)×Int×Int×(List Int)) (List Int)):=
 bif am2 (s.2.2.1<(NE (alt s.2.2.2))) then
  (aJ s.2.2.2 s.2.2.1).bind fun n0=>
  bif am2 (n0<0) then
   (aJ s.2.2.2 s.2.2.1).bind fun n1=>
   alX (.done (cj s.2.2.2 s.2.2.1 s.2.1))
  else
   alX (.next (s.1,s.2.1,aa .i64 (s.2.2.1+1),s.2.2.2))
 else
  (bo s.2.2.2 [s.2.1]).bind fun l2=>
  ay mL (s.1,l2)
noncomputable def Gj (p0:List Int) (p1:Int):Option (List Int):=
 (bP p0).bind fun l0=>
 ay p8 (p0,p1,0,l0)
abbrev xf (n:Int):Prop:= -9223372036854775808<=n/\n<9223372036854775808
abbrev VY (n:Int):Prop:=0<=n/\n<18446744073709551616
theorem wi (n:Int):aa .i64 n=(n+9223372036854775808)%18446744073709551616-9223372036854775808:=by
 rw [sB];simp only [IntKind.wrap,IntKind.bits,IntKind.signed,Bool.true_and];have e1:(2:Int)^64=18446744073709551616:=by decide
 have e2:(2:Int)^(64-1)=9223372036854775808:=by decide
 simp only [e1,e2,decide_eq_true_eq];split<;>omega
theorem wu (n:Int):aa .u64 n=n%18446744073709551616:=by
 rw [sB];simp only [IntKind.wrap,IntKind.bits,IntKind.signed,Bool.false_and];have e1:(2:Int)^64=18446744073709551616:=by decide
 simp only [e1];simp
theorem jq {n:Int} (h:xf n):aa .i64 n=n:=by rw [wi];omega
theorem cz {a b:Int} (h:a≠b):(a !=b)=am0:=by simpa using h
theorem bu {a b:Int} (h:a=b):(a !=b)=am1:=by simpa using h
theorem eI {a b:Int} (h:a=b):(a==b)=am0:=by simpa using h
theorem dX {a b:Int} (h:a≠b):(a==b)=am1:=by simpa using h
theorem Rn (a b:Int):(a==b)=am2 (a=b):=by
 by_cases h:a=b
 · rw [eI h,decide_eq_true h]
 rw [dX h,decide_eq_false h]
theorem lt_or_ge (a b:Int):a<b\/b<=a:=by omega
theorem amj (a:Int):nS .u64 a 32=a / 4294967296:=by
 unfold nS;rw [show (min (32:Int).toNat (IntKind.bits .u64))=32 from by decide,show (2:Int)^32=4294967296 from by decide]
 exact af5 _ (by decide)
theorem Ph {a:Int} (h:VY a):AJ .u64 a 4294967295=a%4294967296:=by
 obtain ⟨n,rfl⟩:=ae2 h.1;unfold AJ;have e:(BitVec.ofInt (IntKind.bits .u64) (n:Int)&&&BitVec.ofInt (IntKind.bits .u64) 4294967295).toNat=n%4294967296:=by
  rw [BitVec.toNat_and];have e1:(BitVec.ofInt (IntKind.bits .u64) (n:Int)).toNat=n:=by
   rw [BitVec.toNat_ofInt]
   have:((2^(IntKind.bits .u64):Nat):Int)=18446744073709551616:=by decide
   rw [this];omega
  have e2:(BitVec.ofInt (IntKind.bits .u64) (4294967295:Int)).toNat=2^32-1:=by decide
  rw [e1,e2,Nat.and_two_pow_sub_one_eq_mod]
 rw [e]
 have:=wu ((n%4294967296:Nat):Int)
 rw [sB] at this;rw [this];omega
theorem aex {a b:Nat} (ha:a<1000000000) (hb:b<1000000000):aa .i64 (nS .u64 (aa .u64 (aa .i64 ((a:Int)+(b:Int)))) 1)=(((a+b) / 2:Nat):Int):=by
 unfold nS;rw [show (min (1:Int).toNat (IntKind.bits .u64))=1 from by decide,show (2:Int)^1=2 from by decide,af5 _ (by decide),wi (_+_),wu,wi]
 omega
section
variable {σ ρ : Type} {body : σ -> Option (Step σ ρ)}
theorem bS (st:Nat->σ) (n:Nat) (h: ∀i,i<n->body (st i)=alX (.next (st (i+1)))):ay body (st 0)=ay body (st n):=by
 induction n with
 |zero=>rfl
 |succ n ih=>
  rw [ih fun i hi=>h i (by omega)]
  exact aV (h n (by omega))
theorem di (st:Nat->σ) (n:Nat) (c:Nat->Prop) {r e:ρ} (h: ∀i,i<n->(c i->body (st i)=alX (.done r))/\(¬c i->body (st i)=alX (.next (st (i+1)))))
 (VZ:body (st n)=alX (.done e)):((∃i,i<n/\c i)->ay body (st 0)=alX r)/\((∀i,i<n-> ¬c i)->ay body (st 0)=alX e):=by
 constructor
 · rintro ⟨i,hi,hc⟩
   have key: ∀k,k<=n->(∃i,i<n/\n-k<=i/\c i)->ay body (st (n-k))=alX r:=by
    intro k
    induction k with
    |zero=>rintro _ ⟨i,h1,h2,_⟩;omega
    |succ k ih=>
     rintro hk ⟨i,h1,h2,h3⟩
     by_cases hc:c (n- (k+1))
     · exact aH ((h _ (by omega)).1 hc)
     rw [aV ((h _ (by omega)).2 hc),show n- (k+1)+1=n-k by omega]
     refine ih (by omega) ⟨i,h1,?_,h3⟩
     by_cases he:i=n- (k+1)
     · subst he;exact absurd h3 hc
     omega
   have:=key n (afJ n) ⟨i,hi,by omega,hc⟩
   rwa [Nat.sub_self] at this
 intro hn
 rw [bS st n fun i hi=>(h i hi).2 (hn i hi)]
 exact aH VZ
theorem least {c:Nat->Prop}: ∀{n:Nat},(∃i,i<n/\c i)-> ∃k,k<n/\c k/\ ∀j,j<k-> ¬c j
 |0,h=>by obtain ⟨i,hi,_⟩:=h;omega
 |n+1,h=>by
  by_cases hx: ∃i,i<n/\c i
  · obtain ⟨k,h1,h2,h3⟩:=least hx
    exact ⟨k,by omega,h2,h3⟩
  obtain ⟨i,hi,hc⟩:=h
  refine ⟨i,hi,hc,fun j hj hcj=>hx ⟨j,by omega,hcj⟩⟩
theorem hO (st:Nat->σ) (n:Nat) (c:Nat->Prop) (r:Nat->ρ) {e:ρ} (h: ∀i,i<n->(c i->body (st i)=alX (.done (r i)))/\(¬c i->body (st i)=alX (.next (st (i+1)))))
 (VZ:body (st n)=alX (.done e)):(∀k,k<n->c k->(∀j,j<k-> ¬c j)->ay body (st 0)=alX (r k))/\((∀i,i<n-> ¬c i)->ay body (st 0)=alX e):=by
 constructor
 · intro k hk hc hj
   rw [bS st k fun i hi=>(h i (by omega)).2 (hj i hi)]
   exact aH ((h k hk).1 hc)
 intro hn
 rw [bS st n fun i hi=>(h i hi).2 (hn i hi)]
 exact aH VZ
theorem Dj (st:Nat->Nat->σ) (n m:Nat) (c:Nat->Prop)
 (h: ∀lo hi,lo<hi->hi<=n->(c ((lo+hi) / 2)->body (st lo hi)=alX (.next (st ((lo+hi) / 2+1) hi)))/\(¬c ((lo+hi) / 2)->body (st lo hi)=alX (.next (st lo ((lo+hi) / 2)))))
 (h1: ∀i,i<m->c i) (h2: ∀i,m<=i->i<n-> ¬c i): ∀d lo hi,hi-lo<=d->lo<=m->m<=hi->hi<=n->ay body (st lo hi)=ay body (st m m)
 |0,lo,hi,hd,a,b,_=>by
  have e1:lo=m:=by omega
  have e2:hi=m:=by omega
  rw [e1,e2]
 |d+1,lo,hi,hd,a,b,e=>by
  by_cases hl:lo<hi
  · by_cases hc:c ((lo+hi) / 2)
    · rw [aV ((h lo hi hl e).1 hc)]
      refine Dj st n m c h h1 h2 d _ _ (by omega) ?_ b e
      refine IR fun hx=>?_
      exact h2 ((lo+hi) / 2) (by omega) (by omega) hc
    rw [aV ((h lo hi hl e).2 hc)]
    refine Dj st n m c h h1 h2 d _ _ (by omega) a ?_ (by omega)
    refine IR fun hx=>?_
    exact hc (h1 ((lo+hi) / 2) (by omega))
  have e1:lo=m:=by omega
  have e2:hi=m:=by omega
  rw [e1,e2]
end
section
variable {α : Type} [Inhabited α]
theorem ar (l:List α) (n:Nat) (h:n<alt l):aJ l (n:Int)=alX l[n]!:=by
 show l[n]? =alX l[n]!;rw [afx h,getElem!_pos l n h]
theorem dJ {l:List α} {i:Int} (h0:0<=i) (h:i<alt l):aJ l i=alX l[i.toNat]!:=by
 obtain ⟨n,rfl⟩:=ae2 h0;exact ar l n (by omega)
theorem lV {β:Type} (l:List β) (n:Nat) (a:β):cj l (n:Int) a=l.set n a:=rfl
theorem aX (l:List α) (n m:Nat) (a:α):(l.set n a)[m]! =if m=n/\n<(alt l) then a else l[m]!:=by
 by_cases hm:m<alt l
 · rw [getElem!_pos (l.set n a) m (by simpa using hm),getElem!_pos l m hm,List.getElem_set]
   split
   · rw [pp (by omega)]
   rw [rc (by omega)]
 rw [getElem!_neg (l.set n a) m (by simpa using hm),getElem!_neg l m hm]
 split
 · omega
 rfl
theorem aS {l:List α} {x:α}:x∈l↔ ∃i,i<alt l/\l[i]! =x:=by
 rw [List.mem_iff_getElem];constructor
 · rintro ⟨i,h,rfl⟩;exact ⟨i,h,getElem!_pos l i h⟩
 rintro ⟨i,h,rfl⟩;exact ⟨i,h,(getElem!_pos l i h).symm⟩
theorem aW {l:List α} {i:Nat} (h:i<alt l):l[i]!∈l:=aS.2 ⟨i,h,rfl⟩
theorem ck {l m:List α} {i:Nat} (h:i<alt l):(l++m)[i]! =l[i]!:=by
 rw [getElem!_pos (l++m) i (by simp;omega),getElem!_pos l i h,List.getElem_append_left h]
theorem dB {l m:List α} {i:Nat} (h:(alt l)<=i):(l++m)[i]! =m[i-(alt l)]!:=by
 by_cases hi:i<alt l+alt m
 · rw [getElem!_pos (l++m) i (by simp;omega),getElem!_pos m (i-(alt l)) (by omega),List.getElem_append_right h]
 rw [getElem!_neg (l++m) i (by simp;omega),getElem!_neg m (i-(alt l)) (by omega)]
theorem iO {l:List α} {n i:Nat} (h:i<n):(l.take n)[i]! =l[i]!:=by
 by_cases hi:i<alt l
 · rw [getElem!_pos (l.take n) i (by simp;omega),getElem!_pos l i hi,List.getElem_take]
 rw [getElem!_neg (l.take n) i (by simp;omega),getElem!_neg l i hi]
theorem kZ {l:List α} {n i:Nat}:(l.drop n)[i]! =l[n+i]!:=by
 by_cases hi:n+i<alt l
 · rw [getElem!_pos (l.drop n) i (by simp;omega),getElem!_pos l (n+i) hi,List.getElem_drop]
 rw [getElem!_neg (l.drop n) i (by simp;omega),getElem!_neg l (n+i) hi]
theorem qO {l m:List α} (hl:(alt l)=alt m) (h: ∀i,i<alt l->l[i]! =m[i]!):l=m:=by
 apply List.ext_getElem hl;intro i h1 h2
 have:=h i h1
 rwa [getElem!_pos l i h1,getElem!_pos m i h2] at this
theorem MS {l:List α} {i:Nat} (h:i<alt l):l=l.take i++l[i]!::l.drop (i+1):=by
 rw [getElem!_pos l i h,List.getElem_cons_drop,List.take_append_drop]
end
theorem ba {α:Type} {l:List α} (h:(alt l)<=1048576):bP l=alX l:=by unfold bP;rw [pp h]
theorem bR {α:Type} {l m:List α} (h:(alt l)+alt m<=1048576):bo l m=alX (l++m):=by unfold bo;rw [pp h]
@[simp] theorem aj {α β:Type} (a:α) (f:α->Option β):(alX a).bind f=f a:=rfl
end Go.Proofs.YtbgoiokedpjgbaaGreat
namespace Go.Proofs.YtbgoiokedpjgbaaGreat
open Go.Vm Classical
theorem jk {n:Int} (h:xf n):gK n=alX (n.natAbs:Int):=by
 unfold gK;simp only [wi,wu]
 by_cases hn:n<0
 · simp only [hn,decide_true,lw,AC];omega
 simp only [hn,decide_false,ol,AC];omega
theorem oQ {n:Int} (h:xf n):kX n=alX (n.natAbs:Int):=by
 unfold kX;simp only [wu]
 by_cases hn:n<0
 · simp only [hn,decide_true,lw,AC];omega
 simp only [hn,decide_false,ol,AC];omega
theorem pB (m n:Nat):oq m n=alX (Do m n:Int):=by
 unfold oq
 induction n using agy generalizing m with
 |ind n ih=>
  by_cases h0:n=0
  · subst h0
    rw [afZ];exact aH (by simp [mR])
  have e:mR ((m:Int),(n:Int))=alX (.next ((n:Int),((m%n:Nat):Int))):=by
   have h1:((n:Int) !=0)=am0:=by simp;omega
   have h2:((n:Int)==0)=am1:=by simp;omega
   simp only [mR,h1,h2,lw,ol,agG]
  rw [aV e,ih (m%n) (Nat.mod_lt _ (by omega)) n,ae3 m n,Nat.gcd_rec n m,ae3]
theorem Aj (m n:Nat):vS m n=alX (Do m n:Int):=by
 unfold vS
 induction n using agy generalizing m with
 |ind n ih=>
  by_cases h0:n=0
  · subst h0
    rw [afZ];exact aH (by simp [rS])
  have e:rS ((m:Int),(n:Int))=alX (.next ((n:Int),((m%n:Nat):Int))):=by
   have h1:am2 (0<(n:Int))=am0:=by simp;omega
   have h2:((n:Int)==0)=am1:=by simp;omega
   simp only [rS,h1,h2,lw,ol,agG]
  rw [aV e,ih (m%n) (Nat.mod_lt _ (by omega)) n,ae3 m n,Nat.gcd_rec n m,ae3]
def bX (r:Int×Int):Prop:=1<=r.2/\r.1≠ -9223372036854775808/\Do r.2.natAbs r.1.natAbs=1
abbrev nm (r:Int×Int):Prop:=xf r.1/\xf r.2
theorem ff {r:Int×Int} (h:nm r):fS r=alX (if bX r then 0 else 8):=by
 obtain ⟨a,b⟩:=r;obtain ⟨ha,hb⟩:=h;unfold fS bX;dsimp only at ha hb ⊢
 by_cases h1:b<1
 · rw [rc (by omega)];simp [h1]
 by_cases h2:a= -9223372036854775808
 · rw [rc (by omega)];simp [h1,h2]
 have e2:(a== -9223372036854775808)=am1:=by simpa using h2
 have e3:aa .u64 b=(b.natAbs:Int):=by rw [wu];omega
 simp only [h1,decide_false,ol,e2,oQ ha,aj,e3,Aj];have hp:0<Do b.natAbs a.natAbs:=Nat.gcd_pos_of_pos_left _ (by omega)
 by_cases h3:Do b.natAbs a.natAbs=1
 · rw [pp ⟨by omega,h2,h3⟩,h3];rfl
 rw [rc (fun h=>h3 h.2.2)]
 have:am2 (1<(Do b.natAbs a.natAbs:Int))=am0:=by simp;omega
 rw [this];rfl
theorem lW {r:Int×Int} (h:nm r):nH r=alX (if bX r then 0 else 8):=by
 obtain ⟨a,b⟩:=r;obtain ⟨ha,hb⟩:=h;unfold nH bX;dsimp only at ha hb ⊢
 by_cases h1:b<1
 · rw [rc (by omega)];simp [h1]
 by_cases h2:a= -9223372036854775808
 · rw [rc (by omega)];simp [h1,h2]
 have e2:(a== -9223372036854775808)=am1:=by simpa using h2
 have e3:aa .u64 b=(b.natAbs:Int):=by rw [wu];omega
 simp only [h1,decide_false,ol,e2,jk ha,aj,e3,pB];rw [ae3]
 by_cases h3:Do b.natAbs a.natAbs=1
 · rw [pp ⟨by omega,h2,h3⟩,h3];rfl
 rw [rc (fun h=>h3 h.2.2)]
 have:((Do b.natAbs a.natAbs:Int) !=1)=am0:=by simp;omega
 rw [this];rfl
theorem V0 (x y:Int) (hx:VY x) (hy:VY y): ∃p q r s:Int,0<=p/\p<=18446744065119617025/\0<=q/\q<=18446744065119617025/\0<=r/\r<=18446744065119617025/\0<=s/\s<=18446744065119617025/\
 x / 4294967296*(y / 4294967296)=p/\x / 4294967296*(y%4294967296)=q/\x%4294967296*(y / 4294967296)=r/\x%4294967296*(y%4294967296)=s/\
 x*y=p*18446744073709551616+(q+r)*4294967296+s:=by
 have Hy:0<=x / 4294967296/\x / 4294967296<=4294967295:=by omega
 have JC:0<=x%4294967296/\x%4294967296<=4294967295:=by omega
 have Xz:0<=y / 4294967296/\y / 4294967296<=4294967295:=by omega
 have Ss:0<=y%4294967296/\y%4294967296<=4294967295:=by omega
 have ex:x=x / 4294967296*4294967296+x%4294967296:=by omega
 have ey:y=y / 4294967296*4294967296+y%4294967296:=by omega
 generalize x / 4294967296=a at*;generalize x%4294967296=b at*;generalize y / 4294967296=c at*;generalize y%4294967296=d at*;have bd: ∀{u v:Int},0<=u/\u<=4294967295->0<=v/\v<=4294967295->0<=u*v/\u*v<=18446744065119617025:=by
  intro u v hu hv;refine ⟨afK hu.1 hv.1,?_⟩
  calc u*v<=4294967295*4294967295:=afa hu.2 hv.2 hv.1 (by decide)
   _=_:=by decide
 refine ⟨a*c,a*d,b*c,b*d,(bd Hy Xz).1,(bd Hy Xz).2,(bd Hy Ss).1,(bd Hy Ss).2,(bd JC Xz).1,(bd JC Xz).2,(bd JC Ss).1,(bd JC Ss).2,rfl,rfl,rfl,rfl,?_⟩;rw [ex,ey]
 grind
theorem vT {x y:Int} (hx:VY x) (hy:VY y):eF x y=alX (x*y / 18446744073709551616,x*y%18446744073709551616):=by
 unfold eF;obtain ⟨p,q,r,s,p0,p1,q0,q1,r0,r1,s0,s1,ep,eq,er,es,exy⟩:=V0 x y hx hy;have key: ∀z:Int,AJ .u64 (z%18446744073709551616) 4294967295=z%18446744073709551616%4294967296:=fun z=>Ph (by constructor<;>omega)
 simp only [amj,Ph hx,Ph hy,wu,key,ep,eq,er,es,exy,AC,WF,and_true];clear ep eq er es exy key hx hy;have e1:s%18446744073709551616=s:=by omega
 have e2:(q+s / 4294967296)%18446744073709551616=q+s / 4294967296:=by omega
 have ep:p%18446744073709551616=p:=by omega
 have eq:q%18446744073709551616=q:=by omega
 have er:r%18446744073709551616=r:=by omega
 rw [e1,ep,eq,er,e2];have e3:s=s / 4294967296*4294967296+s%4294967296:=by omega
 have e4:q+s / 4294967296=(q+s / 4294967296) / 4294967296*4294967296+(q+s / 4294967296)%4294967296:=by omega
 have b1:0<=s%4294967296/\s%4294967296<4294967296:=by omega
 have b2:0<=(q+s / 4294967296)%4294967296/\(q+s / 4294967296)%4294967296<4294967296:=by omega
 have b3:0<=(q+s / 4294967296) / 4294967296/\(q+s / 4294967296) / 4294967296<=4294967295:=by omega
 have b4:0<=s / 4294967296/\s / 4294967296<=4294967295:=by omega
 generalize (q+s / 4294967296) / 4294967296=t1 at*;generalize (q+s / 4294967296)%4294967296=t0 at*;generalize s / 4294967296=c1 at*;generalize s%4294967296=c0 at*;clear e1 e2;have e5:(t0+r)%18446744073709551616=t0+r:=by omega
 rw [e5];have e6:t0+r=(t0+r) / 4294967296*4294967296+(t0+r)%4294967296:=by omega
 have b5:0<=(t0+r)%4294967296/\(t0+r)%4294967296<4294967296:=by omega
 have b6:0<=(t0+r) / 4294967296/\(t0+r) / 4294967296<=4294967295:=by omega
 generalize (t0+r) / 4294967296=u1 at*;generalize (t0+r)%4294967296=u0 at*;omega
theorem Pj {x y:Int} (hx:VY x) (hy:VY y):pR x y=alX (am1,x*y / 18446744073709551616,x*y%18446744073709551616):=by
 unfold pR;obtain ⟨p,q,r,s,p0,p1,q0,q1,r0,r1,s0,s1,ep,eq,er,es,exy⟩:=V0 x y hx hy;have t1: ∀a:Int,0<=a->afM a 4294967296=a / 4294967296:=fun a h=>afb h
 have t2: ∀a:Int,0<=a->Int.tmod a 4294967296=a%4294967296:=fun a h=>Int.tmod_eq_emod_of_nonneg h
 simp only [wu];rw [t1 x hx.1,t1 y hy.1,t2 x hx.1,t2 y hy.1];have f1:x / 4294967296%18446744073709551616=x / 4294967296:=by omega
 have f2:y / 4294967296%18446744073709551616=y / 4294967296:=by omega
 simp only [f1,f2,ep,eq,er,es];have g: ∀a:Int,afM (a%18446744073709551616) 4294967296=a%18446744073709551616 / 4294967296:=fun a=>t1 _ (by omega)
 have g2: ∀a:Int,Int.tmod (a%18446744073709551616) 4294967296=a%18446744073709551616%4294967296:=fun a=>t2 _ (by omega)
 simp only [g,g2,exy,AC,WF,true_and];constructor<;>omega
abbrev B64 (a:Bool×Int×Int):Prop:=VY a.2.1/\VY a.2.2
theorem zz {n:Int} (h:xf n):VY (n.natAbs:Int):=by constructor<;>omega
theorem zA {n:Int} (h:xf n):(n.natAbs:Int)<=9223372036854775808:=by omega
theorem B9 (a b:Int):((a.natAbs:Int)*(b.natAbs:Int))=((a*b).natAbs:Int):=by rw [Int.natAbs_mul];rfl
theorem s8 {a b:Int} (ha:xf a) (hb:xf b):((a*b).natAbs:Int)<=85070591730234615865843651857942052864:=by
 rw [<- B9]
 calc (a.natAbs:Int)*(b.natAbs:Int)<=9223372036854775808*9223372036854775808:=afa (zA ha) (zA hb) (by omega) (by decide)
  _=_:=by decide
theorem xg {a b:Int} (ha:xf a) (hb:xf b):
 je a b=alX (am2 (a*b<0),((a*b).natAbs:Int) / 18446744073709551616,((a*b).natAbs:Int)%18446744073709551616):=by
 unfold je;simp only [jk ha,jk hb,aj,Pj (zz ha) (zz hb),B9];have hs:(a*b<0)↔((a<0/\0<b)\/(0<a/\b<0)):=by
  constructor
  · intro h
    rcases afg a 0 with h1|h1|h1
    · rcases afg b 0 with h2|h2|h2
      · have:=Int.mul_pos_of_neg_of_neg h1 h2;omega
      · subst h2;simp at h
      exact .inl ⟨h1,h2⟩
    · subst h1;simp at h
    rcases afg b 0 with h2|h2|h2
    · exact .inr ⟨h1,h2⟩
    · subst h2;simp at h
    have:=Int.mul_pos h1 h2;omega
  rintro (⟨h1,h2⟩|⟨h1,h2⟩)
  · exact ae1 h1 h2
  exact Int.mul_neg_of_pos_of_neg h1 h2
 have hd:am2 (a*b<0)=am2 ((a<0/\0<b)\/(0<a/\b<0)):=by simp only [hs]
 rw [hd];clear hd hs;generalize ((a*b).natAbs:Int)=z
 by_cases h1:a<0
 · have NR: ¬0<a:=by omega
   have aqG:(a !=0)=am0:=cz (by omega)
   by_cases h2:b<0
   · have Sh: ¬0<b:=by omega
     simp [h1,h2,NR,Sh]
   by_cases h3:b=0
   · simp [h1,h3,aqG]
   have h3':0<b:=by omega
   simp [h1,h2,h3',aqG,cz h3]
 by_cases h0:a=0
 · subst h0
   by_cases h2:b<0<;>simp [h2]
 have NR:0<a:=by omega
 by_cases h2:b<0
 · have Sh:(b !=0)=am0:=cz (by omega)
   simp [h1,h2,NR,cz h0,Sh]
 simp [h1,h2,NR]
theorem MT {a b:Int} (ha:xf a) (hb:xf b):
 qJ a b=alX (!(am2 (a<0)==am2 (b<0)),((a*b).natAbs:Int) / 18446744073709551616,((a*b).natAbs:Int)%18446744073709551616):=by
 unfold qJ;simp only [oQ ha,oQ hb,aj,vT (zz ha) (zz hb),B9]
def js (a b:Int):Int:=if a<b then -1 else if b<a then 1 else 0
theorem Ak (a b:Int):iW a b=alX (js a b):=by
 unfold iW mS js
 by_cases h1:a<b<;>by_cases h2:b<a<;>simp [h1,h2]
theorem HH (a b:Int):iz a b=alX (js a b):=by
 unfold iz mi js
 by_cases h1:a<b<;>by_cases h2:b<a<;>simp [h1,h2]
theorem jQ (a b:Int):eG a b=alX (js a b):=by
 unfold eG cmp_isNaN_int js
 by_cases h1:a<b<;>by_cases h2:b<a<;>simp [h1,h2]
theorem fw (a b:Int):(a<b/\js a b= -1)\/(a=b/\js a b=0)\/(b<a/\js a b=1):=by
 unfold js
 by_cases h1:a<b
 · exact .inl ⟨h1,by rw [pp h1]⟩
 by_cases h2:b<a
 · exact .inr (.inr ⟨h2,by rw [rc h1,pp h2]⟩)
 exact .inr (.inl ⟨by omega,by rw [rc h1,rc h2]⟩)
theorem Kr (a b:Bool×Int×Int) (ha:B64 a) (hb:B64 b):ph a b=alX (js (a.2.1*18446744073709551616+a.2.2) (b.2.1*18446744073709551616+b.2.2)):=by
 obtain ⟨s,ah,al⟩:=a;obtain ⟨t,bh,bl⟩:=b;obtain ⟨⟨a1,a2⟩,a3,a4⟩:=ha;obtain ⟨⟨b1,b2⟩,b3,b4⟩:=hb;dsimp only at*;unfold ph js;dsimp only
 by_cases h1:ah=bh
 · subst h1
   by_cases h2:al=bl
   · subst h2;simp
   by_cases h3:al<bl
   · simp [cz h2,h3]
   rw [rc (by omega),pp (by omega)];simp [cz h2,h3]
 by_cases h3:ah<bh
 · rw [pp (by omega)];simp [cz h1,h3]
 rw [rc (by omega),pp (by omega)];simp [cz h1,h3]
theorem Pk (a b:Bool×Int×Int) (ha:B64 a) (hb:B64 b):pZ a b=alX (js (a.2.1*18446744073709551616+a.2.2) (b.2.1*18446744073709551616+b.2.2)):=by
 obtain ⟨s,ah,al⟩:=a;obtain ⟨t,bh,bl⟩:=b;obtain ⟨⟨a1,a2⟩,a3,a4⟩:=ha;obtain ⟨⟨b1,b2⟩,b3,b4⟩:=hb;dsimp only at*;unfold pZ;simp only [HH,aj];unfold js
 by_cases h1:ah=bh
 · subst h1
   by_cases h3:al<bl
   · simp [h3]
   by_cases h2:bl<al
   · rw [rc (show¬(ah*18446744073709551616+al<ah*18446744073709551616+bl) by omega),pp (show ah*18446744073709551616+bl<ah*18446744073709551616+al by omega)];simp [h2,h3]
   have:al=bl:=by omega
   subst this;simp
 by_cases h3:ah<bh
 · rw [pp (show ah*18446744073709551616+al<bh*18446744073709551616+bl by omega)];simp [h3]
 rw [rc (show¬(ah*18446744073709551616+al<bh*18446744073709551616+bl) by omega),pp (show bh*18446744073709551616+bl<ah*18446744073709551616+al by omega)];simp [h3,show bh<ah by omega]
theorem uB (a:Bool) {n:Int} (h0:0<=n) (h:n<=85070591730234615865843651857942052864):B64 (a,n / 18446744073709551616,n%18446744073709551616):=by
 constructor<;>constructor<;>dsimp only<;>omega
theorem Kt {n:Int} (h:(n.natAbs:Int)<=85070591730234615865843651857942052864):ky (am2 (n<0),(n.natAbs:Int) / 18446744073709551616,(n.natAbs:Int)%18446744073709551616)=alX (js n 0):=by
 unfold ky js;dsimp only
 by_cases h0:n=0
 · subst h0;simp
 by_cases h1:n<0
 · rw [pp h1]
   by_cases h2:(n.natAbs:Int) / 18446744073709551616=0
   · have h3: ¬((n.natAbs:Int)%18446744073709551616=0):=by omega
     simp [h1,h2,dX h3]
   simp [h1,dX h2]
 rw [rc h1,pp (by omega)]
 by_cases h2:(n.natAbs:Int) / 18446744073709551616=0
 · have h3: ¬((n.natAbs:Int)%18446744073709551616=0):=by omega
   simp [h1,h2,dX h3]
 simp [h1,dX h2]
def vU (a b:Int×Int):Int:=js (a.1*b.2) (b.1*a.2)
theorem Gk {a b:Int×Int} (ha:nm a) (hb:nm b):pT a b=alX (vU a b):=by
 unfold pT vU;have n1:=s8 ha.1 hb.2;have n2:=s8 hb.1 ha.2;simp only [xg ha.1 hb.2,xg hb.1 ha.2,aj,Kt n1,Kt n2];generalize a.1*b.2=x at*;generalize b.1*a.2=y at*;rw [Kr _ _ (uB _ (by omega) n1) (uB _ (by omega) n2),Kr _ _ (uB _ (by omega) n2) (uB _ (by omega) n1)]
 have ex:((x.natAbs:Int) / 18446744073709551616)*18446744073709551616+(x.natAbs:Int)%18446744073709551616=(x.natAbs:Int):=by omega
 have ey:((y.natAbs:Int) / 18446744073709551616)*18446744073709551616+(y.natAbs:Int)%18446744073709551616=(y.natAbs:Int):=by omega
 simp only [ex,ey,aj];rcases fw x 0 with ⟨h1,e1⟩|⟨h1,e1⟩|⟨h1,e1⟩<;>rcases fw y 0 with ⟨h2,e2⟩|⟨h2,e2⟩|⟨h2,e2⟩<;>rw [e1,e2]<;>simp<;>
  unfold js<;>(repeat' split)<;>first|rfl|omega
theorem aey {a b:Int×Int} (ha:nm a) (hb:nm b):wY a b=alX (if bX a/\bX b then 0 else 8):=by
 unfold wY;simp only [ff ha,ff hb,aj]
 by_cases h1:bX a<;>by_cases h2:bX b<;>simp [h1,h2]
theorem V1 {a b:Int×Int} (ha:nm a) (hb:nm b):zt a b=alX (if bX a/\bX b then (vU a b,0) else (0,8)):=by
 unfold zt;rw [aey ha hb]
 by_cases h:bX a/\bX b
 · rw [pp h,pp h]
   obtain ⟨⟨a1,a2,a3⟩,b1,b2,b3⟩:=h;have n1:=s8 ha.1 hb.2;have n2:=s8 hb.1 ha.2;simp only [aj,Ak,MT ha.1 hb.2,MT hb.1 ha.2];rw [Pk _ _ (uB _ (by omega) n1) (uB _ (by omega) n2)]
   have ex:((a.1*b.2).natAbs:Int) / 18446744073709551616*18446744073709551616+((a.1*b.2).natAbs:Int)%18446744073709551616=((a.1*b.2).natAbs:Int):=by omega
   have ey:((b.1*a.2).natAbs:Int) / 18446744073709551616*18446744073709551616+((b.1*a.2).natAbs:Int)%18446744073709551616=((b.1*a.2).natAbs:Int):=by omega
   simp only [ex,ey,aj];unfold vU;have s1:(a.1<0↔a.1*b.2<0):=by
    constructor
    · intro h;exact ae1 h (by omega)
    intro h;rcases lt_or_ge a.1 0 with h1|h1
    · exact h1
    have:=afK h1 (show 0<=b.2 by omega);omega
   have s2:(b.1<0↔b.1*a.2<0):=by
    constructor
    · intro h;exact ae1 h (by omega)
    intro h;rcases lt_or_ge b.1 0 with h1|h1
    · exact h1
    have:=afK h1 (show 0<=a.2 by omega);omega
   generalize a.1*b.2=x at*;generalize b.1*a.2=y at*
   by_cases h1:a.1<0<;>by_cases h2:b.1<0
   · have h3:=s1.1 h1;have h4:=s2.1 h2
     have:aa .i64 (-js (x.natAbs:Int) (y.natAbs:Int))=js x y:=by
      rw [wi];unfold js;(repeat' split)<;>omega
     simp [h1,h2,this]
   · have h3:=s1.1 h1;have h4: ¬y<0:=fun h=>h2 (s2.2 h)
     have:js a.1 b.1=js x y:=by unfold js;(repeat' split)<;>omega
     simp [h1,h2,this]
   · have h3: ¬x<0:=fun h=>h1 (s1.2 h);have h4:=s2.1 h2
     have:js a.1 b.1=js x y:=by unfold js;(repeat' split)<;>omega
     simp [h1,h2,this]
   have h3: ¬x<0:=fun h=>h1 (s1.2 h);have h4: ¬y<0:=fun h=>h2 (s2.2 h)
   have:js (x.natAbs:Int) (y.natAbs:Int)=js x y:=by unfold js;(repeat' split)<;>omega
   simp [h1,h2,this]
 rw [rc h,rc h];rfl
abbrev Pt:=Int×Int×Int
def fq (p:Pt):Prop:=0<=p.1/\p.1<=65535/\ -1048576<=p.2.1/\p.2.1<=1048576/\ -1048576<=p.2.2/\p.2.2<=1048576
theorem gL (p:Pt):kz p=alX (if fq p then 0 else 8):=by
 obtain ⟨i,a,b⟩:=p;unfold kz oA fq;dsimp only
 by_cases h1:i<0
 · rw [rc (by omega)];simp [h1]
 by_cases h2:65535<i
 · rw [rc (by omega)];simp [h1,h2]
 by_cases h3:a< -1048576
 · rw [rc (by omega)];simp [h1,h2,h3]
 by_cases h4:1048576<a
 · rw [rc (by omega)];simp [h1,h2,h3,h4]
 by_cases h5:b< -1048576
 · rw [rc (by omega)];simp [h1,h2,h3,h4,h5]
 by_cases h6:1048576<b
 · rw [rc (by omega)];simp [h1,h2,h3,h4,h5,h6]
 rw [pp (by omega)];simp [h1,h2,h3,h4,h5,h6]
theorem lX (p:Pt):qE p=alX (if fq p then 0 else 8):=by
 obtain ⟨i,a,b⟩:=p;unfold qE fq;dsimp only
 by_cases h1:i<0
 · rw [rc (by omega)];simp [h1]
 by_cases h2:65535<i
 · rw [rc (by omega)];simp [h1,h2]
 by_cases h3:a< -1048576
 · rw [rc (by omega)];simp [h1,h2,h3]
 by_cases h4:1048576<a
 · rw [rc (by omega)];simp [h1,h2,h3,h4]
 by_cases h5:b< -1048576
 · rw [rc (by omega)];simp [h1,h2,h3,h4,h5]
 by_cases h6:1048576<b
 · rw [rc (by omega)];simp [h1,h2,h3,h4,h5,h6]
 rw [pp (by omega)];simp [h1,h2,h3,h4,h5,h6]
theorem vV {x y:Int} (hx:xf x) (hy:xf y): -85070591730234615865843651857942052864<=x*y/\x*y<=85070591730234615865843651857942052864:=by
 have:=s8 hx hy;omega
theorem afR {x y:Int} (hx:xf x) (hy:xf y):(x%18446744073709551616)*(y%18446744073709551616)=x*y+(if x<0 then y else 0)*18446744073709551616+(if y<0 then x else 0)*18446744073709551616+(if x<0/\y<0 then 340282366920938463463374607431768211456 else 0):=by
 by_cases h1:x<0<;>by_cases h2:y<0
 · have e1:x%18446744073709551616=x+18446744073709551616:=by omega
   have e2:y%18446744073709551616=y+18446744073709551616:=by omega
   rw [e1,e2,pp h1,pp h2,pp ⟨h1,h2⟩];grind
 · have e1:x%18446744073709551616=x+18446744073709551616:=by omega
   have e2:y%18446744073709551616=y:=by omega
   rw [e1,e2,pp h1,rc h2,rc (fun h=>h2 h.2)];grind
 · have e1:x%18446744073709551616=x:=by omega
   have e2:y%18446744073709551616=y+18446744073709551616:=by omega
   rw [e1,e2,rc h1,pp h2,rc (fun h=>h1 h.1)];grind
 have e1:x%18446744073709551616=x:=by omega
 have e2:y%18446744073709551616=y:=by omega
 rw [e1,e2,rc h1,rc h2,rc (fun h=>h1 h.1)];grind
theorem MU {a b:Int} (ha:0<=a) (hb:0<=b):pg a b 0=alX ((a+b)%18446744073709551616,(a+b) / 18446744073709551616):=by
 unfold pg;simp [ha,hb]
theorem V2 {a b c d u v:Int} (ha:xf a) (hb:xf b):mI (a,b,c,d,0,u,v,0,0)=alX (.next (a,b,c,d,1,u,v,a*b / 18446744073709551616,a*b%18446744073709551616)):=by
 unfold mI;have hm:=vT (x:=aa .u64 a) (y:=aa .u64 b) (by rw [wu];constructor<;>omega) (by rw [wu];constructor<;>omega)
 have hb2:=vV ha hb;have hu:=afR ha hb;simp only [hm,aj];simp only [wu,hu];generalize a*b=x at*
 by_cases h1:a<0<;>by_cases h2:b<0
 all_goals
  simp only [h1,h2,decide_true,decide_false,lw,ol,if_true,if_false,and_self,and_false,false_and];rw [MU (by omega) (by omega)]
  simp only [wi,aj,show am2 ((0:Int)<2)=am0 from rfl,lw,show ((0:Int)==0)=am0 from rfl,AC,Step.next.injEq,WF,true_and]
  refine ⟨by omega,?_,?_⟩<;>omega
theorem V3 {a b c d u v h l:Int} (hc:xf c) (hd:xf d) (hl:VY l)
 (_hh: -9223372036854775808<=h/\h<9223372036854775808) (hs: -170141183460469231731687303715884105728<=h*18446744073709551616+l+c*d/\h*18446744073709551616+l+c*d<170141183460469231731687303715884105728):
 mI (a,b,c,d,1,u,v,h,l)=alX (.next (a,b,c,d,2,u,v,(h*18446744073709551616+l+c*d) / 18446744073709551616,(h*18446744073709551616+l+c*d)%18446744073709551616)):=by
 unfold mI;have hm:=vT (x:=aa .u64 c) (y:=aa .u64 d) (by rw [wu];constructor<;>omega) (by rw [wu];constructor<;>omega)
 have hb2:=vV hc hd;have hu:=afR hc hd;simp only [hm,aj];simp only [wu,hu];generalize c*d=x at*
 by_cases h1:c<0<;>by_cases h2:d<0
 all_goals
  simp only [h1,h2,decide_true,decide_false,lw,ol,if_true,if_false,and_self,and_false,false_and];rw [MU (by omega) (by omega)]
  simp only [wi,aj,show am2 ((1:Int)<2)=am0 from rfl,lw,ol,show ((1:Int)==0)=am1 from rfl,show ((1:Int)==1)=am0 from rfl,AC,Step.next.injEq,WF,true_and]
  refine ⟨by omega,?_,?_⟩<;>omega
theorem HI {a b c d:Int} (ha:xf a) (hb:xf b) (hc:xf c) (hd:xf d) (hs: -170141183460469231731687303715884105728<=a*b+c*d/\a*b+c*d<170141183460469231731687303715884105728):
 w3 (a,b,c,d)=alX ((a*b+c*d) / 18446744073709551616,(a*b+c*d)%18446744073709551616):=by
 unfold w3;dsimp only;have hb2:=vV ha hb;have e:a*b / 18446744073709551616*18446744073709551616+a*b%18446744073709551616+c*d=a*b+c*d:=by omega
 rw [aV (V2 ha hb),aV (V3 hc hd (by constructor<;>omega) (by constructor<;>omega) (by rw [e];exact hs)),e]
 exact aH rfl
def IH (p q:Pt) (t:Int×Int):Int:=(p.2.1-q.2.1)*t.2+(p.2.2-q.2.2)*t.1
def leads (p q:Pt) (t:Int×Int):Prop:=0<IH p q t\/(IH p q t=0/\(q.2.2<p.2.2\/(p.2.2=q.2.2/\p.1<q.1)))
def Pm (p q:Pt) (t:Int×Int):Int:=if IH p q t<0 then -1 else if 0<IH p q t then 1 else if p.2.2<q.2.2 then -1 else if q.2.2<p.2.2 then 1 else js q.1 p.1
theorem Gl (p q:Pt) (t:Int×Int):0<Pm p q t↔leads p q t:=by
 unfold Pm leads
 by_cases h1:IH p q t<0
 · rw [pp h1];omega
 by_cases h2:0<IH p q t
 · rw [rc h1,pp h2];simp [h2]
 rw [rc h1,rc h2]
 by_cases h3:p.2.2<q.2.2
 · rw [pp h3];omega
 by_cases h4:q.2.2<p.2.2
 · rw [rc h3,pp h4];omega
 rw [rc h3,rc h4]
 rcases fw q.1 p.1 with ⟨h,e⟩|⟨h,e⟩|⟨h,e⟩<;>rw [e]<;>omega
theorem zB (a b:Int):sR [a,b]=alX (if a≠0 then a else b):=by
 unfold sR
 by_cases h1:a=0
 · subst h1
   rw [aV (y:=(0,[0,b],2,1)) (by rfl)]
   by_cases h2:b=0
   · subst h2
     rw [aV (y:=(0,[0,0],2,2)) (by rfl)]
     exact aH rfl
   refine (aH (r:=b) ?_).trans (by simp)
   have e:uU (0,[0,b],2,1)=(bif b !=0 then alX (.done b) else alX (.next (0,[0,b],2,aa .i64 (1+1)))):=rfl
   rw [e,cz h2];rfl
 refine (aH (r:=a) ?_).trans (by simp [h1])
 have e:uU (0,[a,b],NE [a,b].length,0)=(bif a !=0 then alX (.done a) else alX (.next (0,[a,b],NE [a,b].length,aa .i64 (0+1)))):=rfl
 rw [e,cz h1];rfl
theorem V4 {p q:Pt} {t:Int×Int} (hp:fq p) (hq:fq q) (ht:nm t):xf (p.2.1-q.2.1)/\xf (p.2.2-q.2.2)/\ -170141183460469231731687303715884105728<=IH p q t/\IH p q t<170141183460469231731687303715884105728:=by
 obtain ⟨a1,a2,a3,a4,a5,a6⟩:=hp;obtain ⟨b1,b2,b3,b4,b5,b6⟩:=hq;have h1:xf (p.2.1-q.2.1):=by constructor<;>omega
 have h2:xf (p.2.2-q.2.2):=by constructor<;>omega
 refine ⟨h1,h2,?_⟩;have k: ∀{x y:Int},-2097152<=x/\x<=2097152->xf y-> -19342813113834066795298816<=x*y/\x*y<=19342813113834066795298816:=by
  intro x y hx hy
  have:((x*y).natAbs:Int)<=2097152*9223372036854775808:=by
   rw [<- B9];exact afa (by omega) (zA hy) (by omega) (by decide)
  omega
 have k1:=k (x:=p.2.1-q.2.1) (by omega) ht.2
 have k2:=k (x:=p.2.2-q.2.2) (by omega) ht.1
 unfold IH;omega
theorem uC {p q:Pt} {t:Int×Int} (hp:fq p) (hq:fq q) (ht:nm t):lO p q t=alX (Pm p q t):=by
 obtain ⟨g1,g2,g3⟩:=V4 hp hq ht;unfold lO;rw [jq g1,jq g2,HI g1 ht.2 g2 ht.1 g3];simp only [aj,Ak,jQ,zB];rw [show (p.2.1-q.2.1)*t.2+(p.2.2-q.2.2)*t.1=IH p q t from rfl];unfold Pm;generalize IH p q t=n at*
 by_cases h1:n<0
 · have e1:(n / 18446744073709551616==0)=am1:=by simp;omega
   have e2:am2 (n / 18446744073709551616<0)=am0:=by simp;omega
   rw [pp h1];simp [e1,e2]
 by_cases h2:0<n
 · have e1:((n / 18446744073709551616==0)&&(n%18446744073709551616==0))=am1:=by simp;omega
   have e2:am2 (n / 18446744073709551616<0)=am1:=by simp;omega
   rw [rc h1,pp h2];simp only [e1,e2,EQ,lw,ol]
 have:n=0:=by omega
 subst this;rw [rc h1,rc h2];unfold js
 by_cases h3:p.2.2<q.2.2
 · simp [h3]
 by_cases h4:q.2.2<p.2.2
 · simp [h3,h4]
 simp [h3,h4]
theorem aez {x y:Int} (hx: -85070591730234615865843651857942052864<=x/\x<=85070591730234615865843651857942052864) (hy: -85070591730234615865843651857942052864<=y/\y<=85070591730234615865843651857942052864):
 wV (am2 (x<0),(x.natAbs:Int) / 18446744073709551616,(x.natAbs:Int)%18446744073709551616) (am2 (y<0),(y.natAbs:Int) / 18446744073709551616,(y.natAbs:Int)%18446744073709551616)=
  alX (am2 (x+y<0),((x+y).natAbs:Int) / 18446744073709551616,((x+y).natAbs:Int)%18446744073709551616):=by
 have n1:(x.natAbs:Int)<=85070591730234615865843651857942052864:=by omega
 have n2:(y.natAbs:Int)<=85070591730234615865843651857942052864:=by omega
 unfold wV;rw [Kr _ _ (uB _ (by omega) n1) (uB _ (by omega) n2)]
 have ex:((x.natAbs:Int) / 18446744073709551616)*18446744073709551616+(x.natAbs:Int)%18446744073709551616=(x.natAbs:Int):=by omega
 have ey:((y.natAbs:Int) / 18446744073709551616)*18446744073709551616+(y.natAbs:Int)%18446744073709551616=(y.natAbs:Int):=by omega
 simp only [ex,ey,aj];have same: ∀{X Y Z:Int},0<=X->0<=Y->X<=85070591730234615865843651857942052864->Y<=85070591730234615865843651857942052864->Z=X+Y-> ∀b:Bool,
  (bif am2 (aa .u64 (X%18446744073709551616+Y%18446744073709551616)<X%18446744073709551616) then alX (b,aa .u64 (aa .u64 (X / 18446744073709551616+Y / 18446744073709551616)+1),aa .u64 (X%18446744073709551616+Y%18446744073709551616))
   else alX (b,aa .u64 (X / 18446744073709551616+Y / 18446744073709551616),aa .u64 (X%18446744073709551616+Y%18446744073709551616)))=alX (b,Z / 18446744073709551616,Z%18446744073709551616):=by
  intro X Y Z h1 h2 h3 h4 h5 b;subst h5;simp only [wu]
  by_cases h:(X%18446744073709551616+Y%18446744073709551616)%18446744073709551616<X%18446744073709551616
  · simp only [h,decide_true,lw,AC,WF,true_and];constructor<;>omega
  simp only [h,decide_false,ol,AC,WF,true_and];constructor<;>omega
 have minus: ∀{X Y Z:Int} (b c:Bool),0<=X->0<=Y->X<=85070591730234615865843651857942052864->Y<=X->Z=X-Y->qH (b,X / 18446744073709551616,X%18446744073709551616) (c,Y / 18446744073709551616,Y%18446744073709551616)=alX (am1,Z / 18446744073709551616,Z%18446744073709551616):=by
  intro X Y Z b c h1 h2 h3 h4 h5;subst h5;unfold qH;simp only [wu]
  by_cases h:X%18446744073709551616<Y%18446744073709551616
  · simp only [h,decide_true,lw,AC,WF,true_and];constructor<;>omega
  simp only [h,decide_false,ol,AC,WF,true_and];constructor<;>omega
 by_cases h1:x<0<;>by_cases h2:y<0
 · have h3:x+y<0:=by omega
   simp only [h1,h2,h3,decide_true,beq_self_eq_true,lw];exact same (by omega) (by omega) n1 n2 (by omega) am0
 · simp only [h1,h2,decide_true,decide_false,show (am0==am1)=am1 from rfl,ol,lw]
   by_cases h3:(y.natAbs:Int)<=(x.natAbs:Int)
   · have e:am2 (0<=js (x.natAbs:Int) (y.natAbs:Int))=am0:=by
      rcases fw (x.natAbs:Int) (y.natAbs:Int) with ⟨h,e⟩|⟨h,e⟩|⟨h,e⟩<;>rw [e]<;>first|rfl|omega
     rw [e,minus (Z:=((x+y).natAbs:Int)) _ _ (by omega) (by omega) n1 h3 (by omega)]
     simp only [lw,aj]
     by_cases h4:x+y=0
     · rw [h4];rfl
     have h5:x+y<0:=by omega
     by_cases h6:0<((x+y).natAbs:Int) / 18446744073709551616
     · simp [h5,h6]
     have h7:0<((x+y).natAbs:Int)%18446744073709551616:=by omega
     simp only [h5,h6,h7,decide_true,decide_false,ol]
   have e:am2 (0<=js (x.natAbs:Int) (y.natAbs:Int))=am1:=by
    rcases fw (x.natAbs:Int) (y.natAbs:Int) with ⟨h,e⟩|⟨h,e⟩|⟨h,e⟩<;>rw [e]<;>first|rfl|omega
   rw [e,minus (Z:=((x+y).natAbs:Int)) _ _ (by omega) (by omega) n2 (by omega) (by omega)]
   have h5: ¬(x+y<0):=by omega
   simp [h5]
 · simp only [h1,h2,decide_true,decide_false,show (am1==am0)=am1 from rfl,ol]
   by_cases h3:(y.natAbs:Int)<=(x.natAbs:Int)
   · have e:am2 (0<=js (x.natAbs:Int) (y.natAbs:Int))=am0:=by
      rcases fw (x.natAbs:Int) (y.natAbs:Int) with ⟨h,e⟩|⟨h,e⟩|⟨h,e⟩<;>rw [e]<;>first|rfl|omega
     rw [e,minus (Z:=((x+y).natAbs:Int)) _ _ (by omega) (by omega) n1 h3 (by omega)]
     have h5: ¬(x+y<0):=by omega
     simp [h5]
   have e:am2 (0<=js (x.natAbs:Int) (y.natAbs:Int))=am1:=by
    rcases fw (x.natAbs:Int) (y.natAbs:Int) with ⟨h,e⟩|⟨h,e⟩|⟨h,e⟩<;>rw [e]<;>first|rfl|omega
   rw [e,minus (Z:=((x+y).natAbs:Int)) _ _ (by omega) (by omega) n2 (by omega) (by omega)]
   have h5:x+y<0:=by omega
   simp [h5]
 have h3: ¬(x+y<0):=by omega
 simp only [h1,h2,h3,decide_false,beq_self_eq_true,lw];exact same (by omega) (by omega) n1 n2 (by omega) am1
theorem amk {p q:Pt} {t:Int×Int} (hp:fq p) (hq:fq q) (ht:nm t):zm p q t=alX (js (IH p q t) 0):=by
 obtain ⟨g1,g2,g3⟩:=V4 hp hq ht;unfold zm;rw [jq g1,jq g2,xg g1 ht.2,xg g2 ht.1];simp only [aj];rw [aez (vV g1 ht.2) (vV g2 ht.1)];simp only [aj];rw [show (p.2.1-q.2.1)*t.2+(p.2.2-q.2.2)*t.1=IH p q t from rfl];obtain ⟨a1,a2,a3,a4,a5,a6⟩:=hp;obtain ⟨b1,b2,b3,b4,b5,b6⟩:=hq
 have k: ∀{x y:Int},-2097152<=x/\x<=2097152->xf y-> -19342813113834066795298816<=x*y/\x*y<=19342813113834066795298816:=by
  intro x y hx hy
  have:((x*y).natAbs:Int)<=2097152*9223372036854775808:=by
   rw [<- B9];exact afa (by omega) (zA hy) (by omega) (by decide)
  omega
 have k1:=k (x:=p.2.1-q.2.1) (by omega) ht.2
 have k2:=k (x:=p.2.2-q.2.2) (by omega) ht.1
 have:((IH p q t).natAbs:Int)<=85070591730234615865843651857942052864:=by unfold IH;omega
 rw [Kt this];rfl
theorem Gm {p q:Pt} {t:Int×Int} (hp:fq p) (hq:fq q) (ht:nm t):nI p q t=alX (am2 (leads p q t)):=by
 unfold nI leads;rw [amk hp hq ht];simp only [aj];rcases fw (IH p q t) 0 with ⟨h,e⟩|⟨h,e⟩|⟨h,e⟩<;>rw [e]
 · have h1: ¬(0<IH p q t):=by omega
   have h2: ¬(IH p q t=0):=by omega
   simp [h1,h2]
 · rw [h]
   by_cases h3:p.2.2=q.2.2
   · simp [h3]
   simp [h3,cz h3]
 simp [h]
theorem u5 {p q:Pt} {t:Int×Int} (ht:nm t):pz p q t=alX (if fq p/\fq q/\bX t then (if p.1=q.1 then 2 else 0) else 8):=by
 unfold pz;simp only [gL,ff ht,aj]
 by_cases h4:p.1=q.1
 · by_cases h1:fq p<;>by_cases h2:fq q<;>by_cases h3:bX t<;>simp [h1,h2,h3,h4]
 have h5:=dX h4
 by_cases h1:fq p<;>by_cases h2:fq q<;>by_cases h3:bX t<;>simp [h1,h2,h3,h4,h5]
theorem aeA {n d:Int} (hn:xf n) (hd:xf d):w5 n d=lM n d:=by
 unfold w5 lM
 by_cases h0:d=0
 · subst h0;rfl
 have e0:(d==0)=am1:=by simpa using h0
 simp only [e0,ol,oQ hn,oQ hd,jk hn,jk hd,aj,Aj,pB];have hp:0<Do n.natAbs d.natAbs:=afy _ (by omega)
 have e1:((Do n.natAbs d.natAbs:Int)==0)=am1:=by simp;omega
 simp only [e1,ol];unfold yA pk;simp only [show am2 ((0:Int)<0)=am1 from rfl,ol]
 by_cases h3:n=0
 · subst h3
   have z: ∀k:Int,aa .u64 (afM (((0:Int).natAbs:Nat):Int) k)=0:=fun k=>by
    rw [show (((0:Int).natAbs:Nat):Int)=0 from rfl,Int.zero_tdiv];rfl
   have z2:aa .i64 0=0:=rfl;have z3:aa .i64 (0-0)=0:=rfl;simp only [z,z2,z3,show ((0:Int) !=0)=am1 from rfl,ol,show am2 ((0:Int)<0)=am1 from rfl];cases (!(am1==am2 (d<0)))<;>simp
 simp only [cz h3]
 cases (!(am2 (n<0)==am2 (d<0)))<;>rfl
noncomputable def met (p q:Pt):Int×Int:=((lM (p.2.1-q.2.1) (q.2.2-p.2.2)).getD ((0,0),0)).1
theorem Pn {n d:Int} (hn: -2097152<=n/\n<=2097152) (hd: -2097152<=d/\d<=2097152) (h0:d≠0): ∃r,lM n d=alX (r,0)/\bX r/\nm r/\r.1*d=n*r.2:=by
 have hn':xf n:=by constructor<;>omega
 have hd':xf d:=by constructor<;>omega
 unfold lM;have e0:(d==0)=am1:=by simpa using h0
 have hp:0<Do n.natAbs d.natAbs:=afy _ (by omega)
 have e1:((Do n.natAbs d.natAbs:Int)==0)=am1:=by simp;omega
 simp only [e0,ol,jk hn',jk hd',aj,pB,e1];have q1:afM (n.natAbs:Int) (Do n.natAbs d.natAbs:Int)=((n.natAbs / Do n.natAbs d.natAbs:Nat):Int):=by
  rw [agK]
 have q2:afM (d.natAbs:Int) (Do n.natAbs d.natAbs:Int)=((d.natAbs / Do n.natAbs d.natAbs:Nat):Int):=by
  rw [agK]
 rw [q1,q2];have l1:n.natAbs / Do n.natAbs d.natAbs<=2097152:=akc (agz _ _) (by omega)
 have l2:d.natAbs / Do n.natAbs d.natAbs<=2097152:=akc (agz _ _) (by omega)
 have l3:1<=d.natAbs / Do n.natAbs d.natAbs:=Nat.div_pos (Nat.le_of_dvd (by omega) (afj _ _)) hp
 have co:Do (d.natAbs / Do n.natAbs d.natAbs) (n.natAbs / Do n.natAbs d.natAbs)=1:=by
  rw [ae3,Nat.gcd_div (agj _ _) (afj _ _)];exact Nat.div_self hp
 have v1:n.natAbs=Do n.natAbs d.natAbs*(n.natAbs / Do n.natAbs d.natAbs):=(afW (agj _ _)).symm;have v2:d.natAbs=Do n.natAbs d.natAbs*(d.natAbs / Do n.natAbs d.natAbs):=(afW (afj _ _)).symm
 have val:(n.natAbs:Int)*((d.natAbs / Do n.natAbs d.natAbs:Nat):Int)=(d.natAbs:Int)*((n.natAbs / Do n.natAbs d.natAbs:Nat):Int):=by
  generalize n.natAbs / Do n.natAbs d.natAbs=a at*;generalize d.natAbs / Do n.natAbs d.natAbs=b at*;generalize Do n.natAbs d.natAbs=g at*;rw [v1,v2,agB,agB,aig,aig,af3 (a:Int) (b:Int)]
 clear v1 v2;generalize n.natAbs / Do n.natAbs d.natAbs=a at*;generalize d.natAbs / Do n.natAbs d.natAbs=b at*;have w1:aa .u64 (a:Int)=a:=by rw [wu];omega
 have w2:aa .u64 (b:Int)=b:=by rw [wu];omega
 have made: ∀s:Bool,pk s (am1,0,(a:Int)) (am1,0,(b:Int))=alX ((if s=am0 then -(a:Int) else a,(b:Int)),0):=by
  intro s;unfold pk;have d1:am2 (9223372036854775807<(a:Int))=am1:=by simp;omega
  have d2:am2 (9223372036854775807<(b:Int))=am1:=by simp;omega
  have v1:aa .i64 (a:Int)=a:=by rw [wi];omega
  have v2:aa .i64 (b:Int)=b:=by rw [wi];omega
  have v3:aa .i64 (0- (a:Int))= -(a:Int):=by rw [wi];omega
  simp only [show am2 ((0:Int)<0)=am1 from rfl,ol,d1,d2,v1,v2,v3];cases s<;>simp
 have fin: ∀s:Bool,(if s=am0 then -(a:Int) else a)*d=n*b-> ∃r,(alX ((if s=am0 then -(a:Int) else a,(b:Int)),(0:Int)):Option ((Int×Int)×Int))=alX (r,0)/\bX r/\nm r/\r.1*d=n*r.2:=by
  intro s hv;refine ⟨_,rfl,?_,?_,hv⟩
  · unfold bX
    dsimp only;refine ⟨by omega,?_,?_⟩
    · cases s
      · simp only [agd,if_false];omega
      simp only [if_true];omega
    rw [show (if s=am0 then -(a:Int) else (a:Int)).natAbs=a by cases s<;>simp,show ((b:Int)).natAbs=b by omega];exact co
  constructor
  · dsimp only;cases s
    · simp only [agd,if_false];constructor<;>omega
    simp only [if_true];constructor<;>omega
  dsimp only;constructor<;>omega
 simp only [w1,w2,made,aj]
 by_cases h1:(!(am2 (n<0)==am2 (d<0)))=am0
 · rw [h1]
   refine fin (n !=0) ?_
   by_cases Xb:n=0
   · subst Xb
     have a0:(a:Int)=0:=by
      have:((d.natAbs:Nat):Int)*(a:Int)=0:=by rw [<- val];simp
      rcases Int.mul_eq_zero.1 this with h|h
      · omega
      exact h
     simp [a0]
   have e:(n !=0)=am0:=by simpa using Xb
   rw [e,pp rfl]
   by_cases V5:n<0
   · have hd0: ¬d<0:=fun k=>by simp [V5,k] at h1
     have x1:(n.natAbs:Int)= -n:=by omega
     have x2:(d.natAbs:Int)=d:=by omega
     rw [x1,x2,ae5] at val;rw [ae5,af3];omega
   have hd0:d<0:=by
    by_cases k:d<0
    · exact k
    simp [V5,k] at h1
   have x1:(n.natAbs:Int)=n:=by omega
   have x2:(d.natAbs:Int)= -d:=by omega
   rw [x1,x2,ae5] at val;rw [ae5,af3];omega
 rw [afB] at h1;rw [h1]
 refine fin am1 ?_;rw [rc (by simp)]
 by_cases V5:n<0
 · have hd0:d<0:=by
    by_cases k:d<0
    · exact k
    simp [V5,k] at h1
   have x1:(n.natAbs:Int)= -n:=by omega
   have x2:(d.natAbs:Int)= -d:=by omega
   rw [x1,x2,ae5,ae5] at val;rw [af3];omega
 have hd0: ¬d<0:=fun k=>by simp [V5,k] at h1
 have x1:(n.natAbs:Int)=n:=by omega
 have x2:(d.natAbs:Int)=d:=by omega
 rw [x1,x2] at val;rw [af3];omega
theorem Po {p q:Pt} (hp:fq p) (hq:fq q) (h:p.2.2≠q.2.2):lM (p.2.1-q.2.1) (q.2.2-p.2.2)=alX (met p q,0)/\bX (met p q)/\nm (met p q)/\(met p q).1*(q.2.2-p.2.2)=(p.2.1-q.2.1)*(met p q).2:=by
 obtain ⟨a1,a2,a3,a4,a5,a6⟩:=hp;obtain ⟨b1,b2,b3,b4,b5,b6⟩:=hq;obtain ⟨r,h1,h2,h3⟩:=Pn (n:=p.2.1-q.2.1) (d:=q.2.2-p.2.2) (by omega) (by omega) (by omega)
 have:met p q=r:=by unfold met;rw [h1];rfl
 rw [this];exact ⟨h1,h2,h3⟩
theorem II {p q:Pt} (hp:fq p) (hq:fq q):aa .i64 (p.2.1-q.2.1)=p.2.1-q.2.1/\aa .i64 (q.2.2-p.2.2)=q.2.2-p.2.2/\xf (p.2.1-q.2.1)/\xf (q.2.2-p.2.2):=by
 obtain ⟨a1,a2,a3,a4,a5,a6⟩:=hp;obtain ⟨b1,b2,b3,b4,b5,b6⟩:=hq;have h1:xf (p.2.1-q.2.1):=by constructor<;>omega
 have h2:xf (q.2.2-p.2.2):=by constructor<;>omega
 exact ⟨jq h1,jq h2,h1,h2⟩
noncomputable def yG (h l:Pt) (t:Int×Int):(Int×Int)×Bool:=if leads l h t then (t,am0) else if h.2.2<l.2.2 then (met h l,am0) else ((0,0),am1)
theorem aml {p q:Pt} (hp:fq p) (hq:fq q) (h:p.2.2≠q.2.2):zp p q=alX (met p q):=by
 obtain ⟨w1,w2,_,_⟩:=II hp hq;unfold zp;rw [w1,w2,(Po hp hq h).1];rfl
theorem Pp {h l:Pt} {t:Int×Int} (hh:fq h) (hl:fq l) (ht:nm t):pV h l t=alX (yG h l t):=by
 unfold pV yG;rw [Gm hl hh ht];simp only [aj]
 by_cases h1:leads l h t
 · simp [h1]
 simp only [h1,decide_false,ol,if_false]
 by_cases h2:h.2.2<l.2.2
 · simp [h2,aml hh hl (by omega)]
 simp [h2]
theorem V6:bX (0,1):=by unfold bX;decide
theorem Eh {h l:Pt} {t:Int×Int} (ht:nm t):
 rT h l t=alX (if fq h/\fq l/\bX t/\h.1≠l.1 then ((yG h l t).1,(yG h l t).2,0) else ((0,0),am1,if fq h/\fq l/\bX t then 2 else 8)):=by
 unfold rT;rw [u5 ht]
 by_cases h1:fq h/\fq l/\bX t
 · rw [pp h1]
   by_cases h2:h.1=l.1
   · simp [h1,h2]
   obtain ⟨hh,hl,hr⟩:=h1
   rw [rc h2,pp ⟨hh,hl,hr,h2⟩];simp only [aj,show ((0:Int) !=0)=am1 from rfl,ol,uC hl hh ht];unfold yG
   by_cases h3:leads l h t
   · have:am2 (0<Pm l h t)=am0:=by simpa using (Gl l h t).2 h3
     rw [this];simp [h3]
   have:am2 (0<Pm l h t)=am1:=decide_eq_false fun k=>h3 ((Gl l h t).1 k)
   rw [this,rc h3];simp only [ol]
   by_cases h4:h.2.2<l.2.2
   · have e:am2 (l.2.2<=h.2.2)=am1:=by simp;omega
     rw [e,pp h4];unfold yB;obtain ⟨w1,w2,i1,i2⟩:=II hh hl;have e2:(h.2.2==l.2.2)=am1:=by simp;omega
     rw [u5 (by constructor<;>constructor<;>decide),pp ⟨hh,hl,V6⟩,rc h2]
     simp only [aj,show ((0:Int) !=0)=am1 from rfl,ol,e2,w1,w2,aeA i1 i2,(Po hh hl (by omega)).1]
     rfl
   have e:am2 (l.2.2<=h.2.2)=am0:=by simp;omega
   rw [e,rc h4];rfl
 rw [rc h1,rc (fun h=>h1 ⟨h.1,h.2.1,h.2.2.1⟩),rc h1];rfl
theorem Gn {h l:Pt} {t:Int×Int} (hh:fq h) (hl:fq l) (ht:nm t) (hr:bX t) (h2:(yG h l t).2=am0):bX (yG h l t).1/\nm (yG h l t).1:=by
 unfold yG at*
 by_cases h3:leads l h t
 · rw [pp h3];exact ⟨hr,ht⟩
 rw [rc h3] at h2 ⊢
 by_cases h4:h.2.2<l.2.2
 · rw [pp h4];have:=(Po hh hl (by omega)).2;exact ⟨this.1,this.2.1⟩
 rw [rc h4] at h2;cases h2
theorem Pq: ∀(n:Nat) (l:List Nat),l.Nodup->(∀x∈l,x<n)->alt l<=n
 |0,l,_,h=>by
  cases l with
  |nil=>simp
  |cons a l=>exact absurd (h a (by simp)) (by omega)
 |n+1,l,hd,h=>by
  have h1:=Pq n (l.filter (fun x=>x≠n)) (hd.filter _) (by
   intro x hx;rw [agE] at hx
   have:=h x hx.1
   have h2:x≠n:=by simpa using hx.2
   omega)
  have h2:(alt l)<=(l.filter (fun x=>x≠n)).length+1:=by
   clear h1 h
   induction l with
   |nil=>simp
   |cons a l ih=>
    rw [ae8] at hd
    have:=ih hd.2
    by_cases ha:a=n
    · subst ha
      have e:l.filter (fun x=>decide (x≠a))=l:=by
       rw [List.filter_eq_self];intro x hx;simp only [ne_eq,decide_eq_true_eq];rintro rfl;exact hd.1 hx
      rw [List.filter_cons_of_neg (by simp),e];simp
    rw [List.filter_cons_of_pos (by simpa using ha)]
    simp only [agl];omega
  omega
theorem DY {n:Nat} {l:List Nat} (hd:l.Nodup) (h: ∀x∈l,x<n) (hn:n<=alt l): ∀x,x<n->x∈l:=by
 intro x hx;refine IR fun hc=>?_
 have:=Pq n (x::l) (by rw [ae8];exact ⟨hc,hd⟩) (by
  intro y hy;rcases aka.1 hy with rfl|hy
  · exact hx
  exact h y hy)
 simp only [agl] at this;omega
def fx (l:List Pt):Prop:= ∀i,i+1<alt l->(l[i]!).1<(l[i+1]!).1
def bm (l:List Pt):Prop:=alt l<=64/\(∀p∈l,fq p)/\fx l
noncomputable def iC (l:List Pt):Int:=if 64<(alt l) then 4 else if¬(∀p∈l,fq p) then 8 else if¬fx l then 32 else 0
theorem dp {l:List Pt}:iC l=0↔bm l:=by
 unfold iC bm
 by_cases h1:64<alt l
 · rw [pp h1];simp;omega
 rw [rc h1]
 by_cases h2: ∀p∈l,fq p
 · rw [rc (v6.2 h2)]
   by_cases h3:fx l
   · rw [rc (v6.2 h3)]
     exact ⟨fun _=>⟨by omega,h2,h3⟩,fun _=>rfl⟩
   rw [pp h3]
   exact ⟨fun h=>(by cases h),fun h=>absurd h.2.2 h3⟩
 rw [pp h2]
 constructor
 · intro h;cases h
 intro h;exact absurd h.2.1 h2
theorem aT {n:Nat} (h:n<1000000000):aa .i64 ((n:Int)+1)=((n+1:Nat):Int):=by rw [wi];omega
theorem mV {n:Nat} (h:n<1000000000) (h1:1<=n):aa .i64 ((n:Int) -1)=((n-1:Nat):Int):=by rw [wi];omega
theorem az (n:Nat):NE n=(n:Int):=rfl
theorem MV (l:List Pt) (h:(alt l)<=64):ay iv (1,l)=alX (.done (if fx l then 0 else 32)):=by
 by_cases hl:(alt l)<=1
 · have:fx l:=fun i hi=>by omega
   rw [pp this];refine aH ?_;unfold iv;rw [az]
   have:am2 ((1:Int)<((alt l):Int))=am1:=by simp;omega
   simp [this]
 have key:=di (body:=iv) (fun i=>(((i+1:Nat):Int),l)) (alt l-1) (fun i=>(l[i+1]!).1<=(l[i]!).1) (r:= .done 32) (e:= .done 0) (by
  intro i hi;have e1:am2 (((i+1:Nat):Int)<((alt l):Int))=am0:=by simp;omega
  have e2:aa .i64 (((i+1:Nat):Int) -1)=(i:Int):=by rw [wi];omega
  have hb:iv (((i+1:Nat):Int),l)=bif am2 ((l[i+1]!).1<=(l[i]!).1) then alX (.done (.done 32)) else alX (.next (((i+1+1:Nat):Int),l)):=by
   unfold iv;simp only [az,e1,lw,e2,ar l i (by omega),ar l (i+1) (by omega),aj,aT (show i+1<1000000000 by omega)]
  constructor
  · intro hc;rw [hb,decide_eq_true hc];rfl
  · intro hc;rw [hb,decide_eq_false hc];rfl) (by
  unfold iv
  have:am2 (((alt l-1+1:Nat):Int)<NE (alt l))=am1:=by rw [az];simp;omega
  simp only [this,ol])
 by_cases hs:fx l
 · rw [pp hs]
   refine key.2 fun i hi=>?_
   have:=hs i (by omega)
   omega
 rw [rc hs]
 refine key.1 ?_;unfold fx at hs;simp only [F0s] at hs;obtain ⟨i,hi,h2⟩:=hs;exact ⟨i,by omega,by omega⟩
theorem gp (f:Field):gm f=alX (iC f.am):=by
 unfold gm iC;rw [az]
 by_cases h:64<alt f.am
 · have:am2 ((64:Int)<((alt f.am):Int))=am0:=by simp;omega
   rw [this,pp h];rfl
 have:am2 ((64:Int)<((alt f.am):Int))=am1:=by simp;omega
 rw [this,rc h];simp only [ol];generalize f.am=l at*;have key:=di (body:=lG) (fun i=>((i:Int),l)) (alt l) (fun i=> ¬fq l[i]!) (r:=8) (e:=if fx l then 0 else 32) (by
  intro i hi;have e1:am2 ((i:Int)<((alt l):Int))=am0:=by simp;omega
  have hb:lG ((i:Int),l)=bif (if fq l[i]! then (0:Int) else 8) !=0 then alX (.done 8) else alX (.next (((i+1:Nat):Int),l)):=by
   unfold lG;simp only [az,e1,lw,ar l i (by omega),aj,lX,aT (show i<1000000000 by omega)]
  constructor
  · intro hc;rw [hb,rc hc];rfl
  · intro hc;rw [hb,pp (v6.1 hc)];rfl) (by
  unfold lG
  have:am2 (((alt l):Int)<NE (alt l))=am1:=by rw [az];simp
  simp only [this,ol];exact MV l (by omega))
 by_cases hp: ∀p∈l,fq p
 · rw [rc (v6.2 hp)]
   refine (key.2 fun i hi=>?_).trans ?_
   · exact v6.2 (hp _ (aW hi))
   by_cases hs:fx l
   · simp [hs]
   simp [hs]
 rw [pp hp]
 refine key.1 ?_;obtain ⟨p,hp⟩:=F0s.1 hp;obtain ⟨hm,h2⟩:=ae4.1 hp;obtain ⟨i,hi,rfl⟩:=aS.1 hm;exact ⟨i,hi,h2⟩
theorem MW (l:List Pt) (h:(alt l)<=64):ay iy (l,((alt l):Int),0,l)=alX (.done (if fx l then 0 else 32)):=by
 have key:=di (body:=iy) (fun i=>(l,((alt l):Int),(i:Int),l)) (alt l) (fun i=>0<i/\(l[i]!).1<=(l[i-1]!).1) (r:= .done 32) (e:= .done 0) (by
  intro i hi;have e1:am2 ((i:Int)<((alt l):Int))=am0:=by simp;omega
  by_cases h0:0<i
  · have e3:am2 ((0:Int)<(i:Int))=am0:=by simp;omega
    have hb:iy (l,((alt l):Int),(i:Int),l)=bif am2 ((l[i]!).1<=(l[i-1]!).1) then alX (.done (.done 32)) else alX (.next (l,((alt l):Int),((i+1:Nat):Int),l)):=by
     unfold iy;simp only [e1,e3,lw,ar l i (by omega),mV (show i<1000000000 by omega) h0,ar l (i-1) (by omega),aj,aT (show i<1000000000 by omega)]
    constructor
    · intro hc;rw [hb,decide_eq_true hc.2];rfl
    intro hc
    have: ¬(l[i]!).1<=(l[i-1]!).1:=fun h=>hc ⟨h0,h⟩
    rw [hb,decide_eq_false this];rfl
  · have e3:am2 ((0:Int)<(i:Int))=am1:=by simp;omega
    constructor
    · intro hc;exact absurd hc.1 h0
    intro _
    unfold iy;simp only [e1,e3,lw,ol,ar l i (by omega),aj,aT (show i<1000000000 by omega)]) (by
  unfold iy
  have:am2 (((alt l):Int)<((alt l):Int))=am1:=by simp
  simp only [this,ol])
 by_cases hs:fx l
 · rw [pp hs]
   refine key.2 fun i hi=>?_
   rintro ⟨h0,h1⟩
   have:=hs (i-1) (by omega)
   rw [show i-1+1=i by omega] at this
   omega
 rw [rc hs]
 refine key.1 ?_;unfold fx at hs;simp only [F0s] at hs;obtain ⟨i,hi,h2⟩:=hs;exact ⟨i+1,by omega,by omega,by rw [show i+1-1=i by omega];omega⟩
theorem eE (f:Field):db f=alX (iC f.am):=by
 unfold db iC;rw [az]
 by_cases h:64<alt f.am
 · have:am2 ((64:Int)<((alt f.am):Int))=am0:=by simp;omega
   rw [this,pp h];rfl
 have:am2 ((64:Int)<((alt f.am):Int))=am1:=by simp;omega
 rw [this,rc h];simp only [ol];generalize f.am=l at*;have key:=di (body:=lN) (fun i=>(l,((alt l):Int),(i:Int),l)) (alt l) (fun i=> ¬fq l[i]!) (r:=8) (e:=if fx l then 0 else 32) (by
  intro i hi;have e1:am2 ((i:Int)<((alt l):Int))=am0:=by simp;omega
  have hb:lN (l,((alt l):Int),(i:Int),l)=bif (if fq l[i]! then (0:Int) else 8) !=0 then alX (.done (if fq l[i]! then (0:Int) else 8)) else alX (.next (l,((alt l):Int),((i+1:Nat):Int),l)):=by
   unfold lN;simp only [e1,lw,ar l i (by omega),aj,gL,aT (show i<1000000000 by omega)]
  constructor
  · intro hc;rw [hb,rc hc];rfl
  · intro hc;rw [hb,pp (v6.1 hc)];rfl) (by
  unfold lN
  have:am2 (((alt l):Int)<((alt l):Int))=am1:=by simp
  simp only [this,ol];exact MW l (by omega))
 by_cases hp: ∀p∈l,fq p
 · rw [rc (v6.2 hp)]
   refine (key.2 fun i hi=>?_).trans ?_
   · exact v6.2 (hp _ (aW hi))
   by_cases hs:fx l
   · simp [hs]
   simp [hs]
 rw [pp hp]
 refine key.1 ?_;obtain ⟨p,hp⟩:=F0s.1 hp;obtain ⟨hm,h2⟩:=ae4.1 hp;obtain ⟨i,hi,rfl⟩:=aS.1 hm;exact ⟨i,hi,h2⟩
theorem ej {l:List Pt} (h:fx l) {i j:Nat} (lq:i<j) (hj:j<alt l):(l[i]!).1<(l[j]!).1:=by
 induction j with
 |zero=>omega
 |succ j ih=>
  have h1:=h j hj
  by_cases he:i=j
  · subst he;exact h1
  have:=ih (by omega) (by omega);omega
theorem xh {l:List Pt} (h:fx l) {i j:Nat} (hi:i<alt l) (hj:j<alt l) (he:(l[i]!).1=(l[j]!).1):i=j:=by
 rcases Nat.lt_trichotomy i j with h1|h1|h1
 · have:=ej h h1 hj;omega
 · exact h1
 have:=ej h h1 hi;omega
theorem DZ (l:List Pt) (id:Int) (hl:(alt l)<=1000000):(∀k,k<alt l->(l[k]!).1=id->(∀j,j<k->(l[j]!).1≠id)->fL ⟨l⟩ id=alX (k:Int))/\((∀k,k<alt l->(l[k]!).1≠id)->fL ⟨l⟩ id=alX (-1)):=by
 unfold fL;refine hO (body:=qG) (fun i=>(id,(i:Int),l)) (alt l) (fun i=>(l[i]!).1=id) (fun i=>(i:Int)) (fun i hi=>?_) ?_
 · have e1:am2 ((i:Int)<((alt l):Int))=am0:=by simp;omega
   have hb:qG (id,(i:Int),l)=bif (l[i]!).1==id then alX (.done (i:Int)) else alX (.next (id,((i+1:Nat):Int),l)):=by
    unfold qG;simp only [az,e1,lw,ar l i hi,aj,aT (show i<1000000000 by omega)]
   constructor
   · intro hc;rw [hb,eI hc];rfl
   intro hc;rw [hb,dX hc];rfl
 unfold qG
 have:am2 (((alt l):Int)<((alt l):Int))=am1:=by simp
 simp only [az,this,ol]
theorem Dk {l:List Pt} (hs:fx l) (hl:(alt l)<=1000000) {k:Nat} (hk:k<alt l) {id:Int} (he:(l[k]!).1=id):fL ⟨l⟩ id=alX (k:Int):=by
 refine (DZ l id hl).1 k hk he fun j hj hc=>?_
 have:=ej hs hj hk
 omega
theorem aeB {l:List Pt} (hl:(alt l)<=1000000) {id:Int} (h: ∀k,k<alt l->(l[k]!).1≠id):fL ⟨l⟩ id=alX (-1):=(DZ l id hl).2 h
theorem MX (f:Nat->Int) (id:Int): ∀(n:Nat),(∀i j,i<j->j<n->f i<f j)-> ∃m,m<=n/\(∀i,i<m->f i<id)/\(∀i,m<=i->i<n->id<=f i)
 |0,_=>⟨0,afJ _,fun i h=>by omega,fun i _ h=>by omega⟩
 |n+1,h=>by
  obtain ⟨m,h1,h2,h3⟩:=MX f id n fun i j a b=>h i j a (by omega)
  by_cases hm:m=n
  · by_cases hf:f n<id
    · refine ⟨n+1,afJ _,fun i hi=>?_,fun i a b=>by omega⟩
      by_cases he:i=n
      · subst he;exact hf
      exact h2 i (by omega)
    refine ⟨n,by omega,fun i hi=>h2 i (by omega),fun i a b=>?_⟩
    have:i=n:=by omega
    subst this;omega
  refine ⟨m,by omega,h2,fun i a b=>?_⟩
  by_cases he:i=n
  · subst he
    have:=h m i (by omega) (by omega)
    have:=h3 m (afJ _) (by omega)
    omega
  exact h3 i a (by omega)
theorem gM {α:Type} [Inhabited α] {l:List α}:l.Nodup↔ ∀i j,i<j->j<alt l->l[i]!≠l[j]!:=by
 unfold List.Nodup;rw [List.pairwise_iff_getElem];constructor
 · intro h i j lq hj
   rw [getElem!_pos l i (by omega),getElem!_pos l j hj]
   exact h i j (by omega) hj lq
 intro h i j hi hj lq
 have:=h i j lq hj
 rwa [getElem!_pos l i hi,getElem!_pos l j hj] at this
theorem cm {α:Type} [Inhabited α] {l:List α} {k:Nat} {x:α}:x∈l.take k↔ ∃i,i<k/\i<alt l/\l[i]! =x:=by
 rw [aS];constructor
 · rintro ⟨i,hi,rfl⟩
   rw [adm] at hi;exact ⟨i,by omega,by omega,(iO (by omega)).symm⟩
 rintro ⟨i,h1,h2,rfl⟩
 exact ⟨i,by rw [adm];omega,iO h1⟩
theorem dC {α:Type} [Inhabited α] {l:List α} {k:Nat} (h:k<alt l):l.take (k+1)=l.take k++[l[k]!]:=by
 rw [List.take_add_one,afx h,getElem!_pos l k h];rfl
def marks (l:List Bool):List Int->List Bool
 | []=>l
 |x::r=>marks (cj l x am0) r
theorem mv: ∀(r:List Int) (l:List Bool),(marks l r).length=alt l
 | [],_=>rfl
 |x::r,l=>by rw [marks,mv r,yk]
theorem A4: ∀(r:List Int) (l:List Bool) (x:Int),marks l (r++[x])=cj (marks l r) x am0
 | [],_,_=>rfl
 |y::r,l,x=>by
  show marks (cj l y am0) (r++[x])=_;rw [A4 r];rfl
theorem nN : ∀ (r : List Int) (l : List Bool) (i : Nat), (∀ x ∈ r, 0 <= x) -> i < (alt l) -> (marks l r)[i]! = (l[i]! || am2 ((i : Int) ∈ r))
  | [], l, i, _, _ => by simp [marks]
  | x :: r, l, i, h, hi => by
    rw [marks, nN r _ i (fun y hy => h y (by simp [hy])) (by rw [yk]; exact hi)]
    obtain ⟨k, rfl⟩ := ae2 (h x (by simp))
    rw [lV, aX]
    by_cases e : i = k
    · subst e; rw [pp ⟨rfl, hi⟩]; simp
    rw [rc (fun h => e h.1)]
    have : ((i : Int) ∈ (k : Int) :: r) ↔ (i : Int) ∈ r := by
      rw [aka]
      constructor
      · rintro (h | h)
        · omega
        exact h
      exact .inr
    simp only [this]
theorem Gp (l:List Bool) (h:(alt l)<=1000000):ez l am1=alX (am2 (am1∈l)):=by
 unfold ez oB;have key:=hO (body:=gn) (fun i=>(l,am1,((alt l):Int),(i:Int))) (alt l) (fun i=>l[i]! =am1) (fun i=>(i:Int)) (e:= -1) (fun i hi=>by
  have e1:am2 ((i:Int)<((alt l):Int))=am0:=by simp;omega
  have hb:gn (l,am1,((alt l):Int),(i:Int))=bif am1==l[i]! then alX (.done (i:Int)) else alX (.next (l,am1,((alt l):Int),((i+1:Nat):Int))):=by
   unfold gn;simp only [e1,lw,ar l i hi,aj,aT (show i<1000000000 by omega)]
  constructor
  · intro hc;rw [hb,hc];rfl
  · intro hc
    have:l[i]! =am0:=by simpa using hc
    rw [hb,this];rfl) (by
  unfold gn
  have:am2 (((alt l):Int)<((alt l):Int))=am1:=by simp
  simp only [this,ol])
 rw [az]
 by_cases hx:am1∈l
 · obtain ⟨i,hi,he⟩:=aS.1 hx
   obtain ⟨k,h1,h2,h3⟩:=least (c:=fun i=>l[i]! =am1) ⟨i,hi,he⟩
   have:=key.1 k h1 h2 h3
   rw [show ((0:Nat):Int)=0 from rfl] at this;rw [this];have e:am2 ((0:Int)<=(k:Int))=am0:=by simp
   simp [hx]
 have:=key.2 fun i hi he=>hx (aS.2 ⟨i,hi,he⟩)
 rw [show ((0:Nat):Int)=0 from rfl] at this;rw [this];simp [hx]
structure eO (s:bg):Prop where
 n1:1<=alt s.aA
 n2:(alt s.aA)<=200
 ul:(alt s.be)=alt s.aA
 fr: ∀x∈s.bi,0<=x/\x<alt s.aA
 fd:s.bi.Nodup
 uf: ∀i,i<alt s.aA->(s.be[i]! =am0↔(i:Int)∉s.bi)
 us: ∀i,i<alt s.aA->0<=s.aA[i]!/\s.aA[i]!<=1000000/\(s.be[i]! =am0->1<=s.aA[i]!)
theorem Pr (aA:List Int) (be:List Bool) (fr:List Int) (h1:(alt aA)<=200) (h2:(alt be)=alt aA):
 ay gi (aA,((alt aA):Int),0,aA,be,fr)=alX (.done (if∀i,i<alt aA->0<=aA[i]!/\aA[i]!<=1000000/\(be[i]! =am0->1<=aA[i]!) then 0 else 8)):=by
 have key:=di (body:=gi) (fun i=>(aA,((alt aA):Int),(i:Int),aA,be,fr)) (alt aA) (fun i=> ¬(0<=aA[i]!/\aA[i]!<=1000000/\(be[i]! =am0->1<=aA[i]!))) (r:= .done 8) (e:= .done 0) (fun i hi=>by
  have e1:am2 ((i:Int)<((alt aA):Int))=am0:=by simp;omega
  have hb:gi (aA,((alt aA):Int),(i:Int),aA,be,fr)=bif am2 (aA[i]!<0) then alX (.done (.done 8)) else bif am2 (1000000<aA[i]!) then alX (.done (.done 8)) else bif aA[i]! ==0 then (bif be[i]! then alX (.done (.done 8)) else alX (.next (aA,((alt aA):Int),((i+1:Nat):Int),aA,be,fr))) else alX (.next (aA,((alt aA):Int),((i+1:Nat):Int),aA,be,fr)):=by
   unfold gi;simp only [e1,lw,ar aA i hi,ar be i (by omega),aj,aT (show i<1000000000 by omega)]
  rw [hb];generalize aA[i]! =u at*
  by_cases a1:u<0
  · simp [a1];omega
  · by_cases a2:1000000<u
    · simp [a1,a2];omega
    by_cases a3:u=0
    · subst a3
      cases be[i]!<;>simp
    have a4:1<=u:=by omega
    have a5:0<=u:=by omega
    have a6:u<=1000000:=by omega
    simp [a1,a2,dX a3,a4,a5,a6]) (by
  unfold gi
  have:am2 (((alt aA):Int)<((alt aA):Int))=am1:=by simp
  simp only [this,ol])
 by_cases hc: ∀i,i<alt aA->0<=aA[i]!/\aA[i]!<=1000000/\(be[i]! =am0->1<=aA[i]!)
 · rw [pp hc]
   exact key.2 fun i hi=>v6.2 (hc i hi)
 rw [rc hc]
 simp only [F0s] at hc;obtain ⟨i,hi,hx⟩:=hc;exact key.1 ⟨i,hi,by simpa only [F0s] using hx⟩
theorem u6 (s:bg) (hf:(alt s.bi)<=1000000):py s=alX (if eO s then 0 else 8):=by
 obtain ⟨aA,be,fr⟩:=s;dsimp only at hf;unfold py;simp only [az]
 by_cases a1:(alt aA)<1
 · have e:am2 (((alt aA):Int)<1)=am0:=by simp;omega
   rw [e,rc (fun h=>by have:=h.n1;dsimp only at this;omega)];rfl
 have e1:am2 (((alt aA):Int)<1)=am1:=by simp;omega
 by_cases a2:200<alt aA
 · have e:am2 (200<((alt aA):Int))=am0:=by simp;omega
   rw [e1,e,rc (fun h=>by have:=h.n2;dsimp only at this;omega)];rfl
 have e2:am2 (200<((alt aA):Int))=am1:=by simp;omega
 by_cases a3:(alt be)=alt aA
 case neg=>
  have e:(((alt be):Int) !=((alt aA):Int))=am0:=by simp;omega
  rw [e1,e2,e,rc (fun h=>a3 h.ul)];rfl
 have e3:(((alt be):Int) !=((alt aA):Int))=am1:=by simp;omega
 simp only [e1,e2,e3,ol,ba (show (alt be)<=1048576 by omega),aj]
 have Gq:=Pr aA be fr (by omega) a3
 have key:=di (body:=pY be) (fun k=>(fr,((alt fr):Int),(k:Int),aA,be,fr,((alt aA):Int),marks be (fr.take k))) (alt fr)
  (fun k=>fr[k]!<0\/((alt aA):Int)<=fr[k]!\/(marks be (fr.take k))[(fr[k]!).toNat]! =am0) (r:=8)
  (e:=if am1∈marks be fr then 8 else if∀i,i<alt aA->0<=aA[i]!/\aA[i]!<=1000000/\(be[i]! =am0->1<=aA[i]!) then 0 else 8) (fun k hk=>by
   have f1:am2 ((k:Int)<((alt fr):Int))=am0:=by simp;omega
   have f2:((marks be (fr.take k)).length==alt be)=am0:=by rw [mv];simp
   have f3:am2 ((0:Int)<=(k:Int))=am0:=by simp
   have f4: ∀x:Int,((cj (marks be (fr.take k)) x am0).length==(marks be (fr.take k)).length)=am0:=by intro x;rw [yk];simp
   have f5:marks be (fr.take (k+1))=cj (marks be (fr.take k)) fr[k]! am0:=by rw [dC hk,A4]
   unfold pY;simp only [f1,f2,f3,f4,lw,beq_self_eq_true,ar fr k hk,aj,aT (show k<1000000000 by omega),f5]
   clear f5;generalize fr[k]! =x
   by_cases b1:x<0
   · simp [b1]
   · by_cases b2:((alt aA):Int)<=x
     · simp [b1,b2]
     simp only [b1,b2,decide_false,ol,false_or]
     rw [dJ (l:=marks be (fr.take k)) (i:=x) (by omega) (by rw [mv];omega)]
     simp only [aj];cases (marks be (fr.take k))[x.toNat]!<;>simp) (by
   have f1:am2 (((alt fr):Int)<((alt fr):Int))=am1:=by simp
   unfold pY;simp only [f1,ol,agp];rw [Gp _ (by rw [mv];omega)]
   have f2:((marks be fr).length==alt be)=am0:=by rw [mv];simp
   simp only [f2,lw,aj,az,Gq]
   by_cases hx:am1∈marks be fr
   · simp [hx]
   simp [hx])
 have h0:marks be (fr.take 0)=be:=rfl;rw [show ((0:Nat):Int)=0 from rfl,h0] at key
 by_cases bad: ∃k,k<alt fr/\(fr[k]!<0\/((alt aA):Int)<=fr[k]!\/(marks be (fr.take k))[(fr[k]!).toNat]! =am0)
 · rw [key.1 bad,rc]
   intro ok;obtain ⟨k,hk,hb⟩:=bad;have hr:=ok.fr fr[k]! (aW hk);dsimp only at hr;rcases hb with hb|hb|hb
   · omega
   · omega
   rw [nN _ _ _ (fun x hx=>(ok.fr x (adc hx)).1) (by omega)] at hb
   have hi:((fr[k]!).toNat:Int)=fr[k]!:=by omega
   rw [hi,Bool.or_eq_true] at hb;rcases hb with hb|hb
   · have:=(ok.uf (fr[k]!).toNat (by show _<alt aA;omega)).1 hb
     rw [hi] at this;exact this (aW hk)
   have hm:fr[k]!∈fr.take k:=by simpa using hb
   obtain ⟨j,h1,h2,h3⟩:=cm.1 hm;exact gM.1 ok.fd j k h1 hk h3
 have Ps: ∀k,k<alt fr->0<=fr[k]!/\fr[k]!<alt aA/\(marks be (fr.take k))[(fr[k]!).toNat]! =am1:=by
  intro k hk;refine ⟨?_,?_,?_⟩
  · exact Int.not_lt.1 fun h=>bad ⟨k,hk,.inl h⟩
  · exact Int.not_le.1 fun h=>bad ⟨k,hk,.inr (.inl h)⟩
  exact afB _▸fun h=>bad ⟨k,hk,.inr (.inr h)⟩
 rw [key.2 fun k hk hb=>bad ⟨k,hk,hb⟩]
 have NU: ∀x∈fr,0<=x/\x<((alt aA):Int):=by
  intro x hx;obtain ⟨k,hk,rfl⟩:=aS.1 hx;exact ⟨(Ps k hk).1,(Ps k hk).2.1⟩
 have g2: ∀k,k<alt fr->be[(fr[k]!).toNat]! =am1/\fr[k]!∉fr.take k:=by
  intro k hk;obtain ⟨c1,c2,c3⟩:=Ps k hk;rw [nN _ _ _ (fun x hx=>(NU x (adc hx)).1) (by omega),show ((fr[k]!).toNat:Int)=fr[k]! by omega,afN] at c3
  exact ⟨c3.1,by simpa using c3.2⟩
 have nd:fr.Nodup:=gM.2 fun i j lq hj he=>(g2 j hj).2 (cm.2 ⟨i,lq,by omega,he⟩)
 by_cases hx:am1∈marks be fr
 · rw [pp hx,rc]
   intro ok;obtain ⟨i,hi,he⟩:=aS.1 hx;rw [mv] at hi;rw [nN _ _ _ (fun x hx=>(NU x hx).1) hi,afN] at he
   have h3:(i:Int)∉fr:=by simpa using he.2
   have:=(ok.uf i (by show _<alt aA;omega)).2 h3
   rw [show be[i]! =am1 from he.1] at this;cases this
 rw [rc hx]
 by_cases hu: ∀i,i<alt aA->0<=aA[i]!/\aA[i]!<=1000000/\(be[i]! =am0->1<=aA[i]!)
 · rw [pp hu,pp]
   refine ⟨by show 1<=alt aA;omega,by show (alt aA)<=200;omega,a3,NU,nd,fun i hi=>?_,hu⟩
   dsimp only at hi ⊢;constructor
   · intro h1 h2
     obtain ⟨k,hk,he⟩:=aS.1 h2
     have:=(g2 k hk).1
     rw [he,show ((i:Int)).toNat=i by omega,h1] at this
     cases this
   intro h1
   refine IR fun h2=>hx ?_
   refine aS.2 ⟨i,by rw [mv];omega,?_⟩
   rw [nN _ _ _ (fun x hx=>(NU x hx).1) (by omega)]
   have:be[i]! =am1:=by simpa using h2
   rw [this];simpa using h1
 rw [rc hu,rc]
 intro ok;exact hu ok.us
theorem eO.fl {s:bg} (ok:eO s):(alt s.bi)<=(alt s.aA):=by
 have h:=Pq (alt s.aA) (s.bi.map akb) (by
  rw [gM];intro i j lq hj he;rw [ae9] at hj;have e: ∀k,k<alt s.bi->(s.bi.map akb)[k]! =(s.bi[k]!).toNat:=by
   intro k hk;rw [getElem!_pos _ k (by simpa using hk),List.getElem_map,getElem!_pos s.bi k hk]
  rw [e i (by omega),e j hj] at he
  have h1:=(ok.fr _ (aW (show i<(alt s.bi) by omega))).1
  have h2:=(ok.fr _ (aW hj)).1;exact gM.1 ok.fd i j lq hj (by omega)) (by
  intro x hx;obtain ⟨y,hy,rfl⟩:=acl.1 hx
  have:=ok.fr y hy
  omega)
 rwa [ae9] at h
def uD (s:bg) (h:Int×Int):Prop:=0<=h.1/\h.1<alt s.aA/\s.be[h.1.toNat]! =am0/\s.aA[h.1.toNat]! =h.2
def fy (s:bg) (h:Int×Int):bg:=⟨s.aA,s.be.set h.1.toNat am1,s.bi++[h.1]⟩
def cW (s:bg):Nat:=(s.bi[alt s.bi-1]!).toNat
def vW (s:bg):Prop:=0<alt s.bi/\s.aA[cW s]!<1000000
def ga (s:bg):bg:=⟨s.aA.set (cW s) (s.aA[cW s]!+1),s.be.set (cW s) am0,s.bi.take (alt s.bi-1)⟩
def kG (s:bg):Int×Int:=((cW s:Int),s.aA[cW s]!+1)
theorem D0 {s:bg} (ok:eO s) (h:Int×Int):yD s h=alX (am2 (uD s h),0):=by
 have hl:=ok.fl;have hn:=ok.n2;have hu:=ok.ul;unfold yD uD;rw [u6 s (by omega),pp ok]
 simp only [aj,show ((0:Int) !=0)=am1 from rfl,ol,az]
 by_cases a1:0<=h.1
 · by_cases a2:h.1<alt s.aA
   · have e2:am2 (h.1<((alt s.be):Int))=am0:=by simp;omega
     simp only [a1,a2,e2,decide_true,lw,dJ (l:=s.be) a1 (by omega),dJ (l:=s.aA) a1 a2,aj,true_and]
     generalize s.aA[h.1.toNat]! =u;cases s.be[h.1.toNat]!<;>simp [Rn]
   have e2:am2 (h.1<((alt s.be):Int))=am1:=by simp;omega
   simp [a1,a2,e2]
 simp [a1]
theorem Ku {s:bg} (ok:eO s) {h:Int×Int} (lv:uD s h):zu s h=alX (fy s h,0):=by
 have hl:=ok.fl;have hn:=ok.n2;have hu:=ok.ul;unfold zu;rw [D0 ok,decide_eq_true lv];unfold rl;obtain ⟨l1,l2,l3,l4⟩:=lv;have e1:cj s.be h.1 am1=s.be.set h.1.toNat am1:=rfl
 simp only [aj,show ((0:Int) !=0)=am1 from rfl,ol,If,ba (show (alt s.aA)<=1048576 by omega),ba (show (alt s.be)<=1048576 by omega),ba (show (alt s.bi)<=1048576 by omega),
  bR (show (alt s.bi)+[h.1].length<=1048576 by simp;omega),dJ (l:=s.be) l1 (by omega),e1,fy]
theorem u7 {s:bg} (ok:eO s):nj s=alX s:=by
 have hl:=ok.fl;have hn:=ok.n2;have hu:=ok.ul;unfold nj;simp only [aj,ba (show (alt s.aA)<=1048576 by omega),ba (show (alt s.be)<=1048576 by omega),ba (show (alt s.bi)<=1048576 by omega)]
theorem Gr {s:bg} (ok:eO s) {h:Int×Int} (lv:uD s h):nK s h=alX (fy s h):=by
 have hl:=ok.fl;have hn:=ok.n2;have hu:=ok.ul;obtain ⟨l1,l2,l3,l4⟩:=lv;unfold nK;rw [u7 ok];have e1:cj s.be h.1 am1=s.be.set h.1.toNat am1:=rfl;simp only [aj,bR (show (alt s.bi)+[h.1].length<=1048576 by simp;omega),dJ (l:=s.be) l1 (by omega),e1,fy]
theorem V7 {s:bg} (ok:eO s) {h:Int×Int} (lv:uD s h):eO (fy s h):=by
 have hl:=ok.fl;have hn:=ok.n2;have hu:=ok.ul;obtain ⟨l1,l2,l3,l4⟩:=lv;have nf:h.1∉s.bi:=by
  have:=(ok.uf h.1.toNat (by omega)).1 l3
  rwa [show (h.1.toNat:Int)=h.1 by omega] at this
 refine ⟨ok.n1,ok.n2,?_,?_,?_,?_,?_⟩
 · show (s.be.set _ _).length=_;rw [ut];exact hu
 · intro x hx
   rcases afI.1 hx with hx|hx
   · exact ok.fr x hx
   rw [afc] at hx;subst hx;exact ⟨l1,l2⟩
 · show (s.bi++[h.1]).Nodup
   rw [List.nodup_append];refine ⟨ok.fd,by simp,?_⟩
   intro x hx y hy he;rw [afc] at hy;subst hy;subst he;exact nf hx
 · intro i hi
   change i<(alt s.aA) at hi;show (s.be.set h.1.toNat am1)[i]! =am0↔(i:Int)∉s.bi++[h.1];rw [aX,afI,afc]
   by_cases e:i=h.1.toNat
   · rw [pp ⟨e,by omega⟩]
     have:(i:Int)=h.1:=by omega
     simp [this]
   rw [rc (fun k=>e k.1),ok.uf i hi]
   have: ¬(i:Int)=h.1:=by omega
   simp [this]
 intro i hi
 change i<(alt s.aA) at hi;obtain ⟨u1,u2,u3⟩:=ok.us i hi;refine ⟨u1,u2,?_⟩;show (s.be.set h.1.toNat am1)[i]! =am0->_;rw [aX];split
 · intro h;cases h
 exact u3
theorem xi {s:bg} (ok:eO s) (h:0<alt s.bi):cW s<alt s.aA/\(cW s:Int)=s.bi[alt s.bi-1]!/\(cW s:Int)∈s.bi:=by
 have hm:=aW (l:=s.bi) (i:=alt s.bi-1) (by omega)
 have:=ok.fr _ hm
 have e:(cW s:Int)=s.bi[alt s.bi-1]!:=by unfold cW;omega
 refine ⟨by omega,e,by rw [e];exact hm⟩
theorem jR {α:Type} (l:List α) (n:Nat) (h:n<=alt l):fW l 0 (n:Int)=alX (l.take n):=by
 unfold fW;rw [pp ⟨by omega,by omega,by omega⟩]
 simp
theorem B' {s:bg} (ok:eO s):zw s=alX (if vW s then (ga s,kG s,0) else (⟨[],[],[]⟩,(0,0),18)):=by
 have hl:=ok.fl;have hn:=ok.n2;have hu:=ok.ul;unfold zw vW;rw [u6 s (by omega),pp ok]
 simp only [aj,show ((0:Int) !=0)=am1 from rfl,ol,az]
 by_cases a1:0<alt s.bi
 · obtain ⟨n1,n2,n3⟩:=xi ok a1
   have e1:(((alt s.bi):Int)==0)=am1:=dX (by omega)
   have e2:aa .i64 (((alt s.bi):Int) -1)=((alt s.bi-1:Nat):Int):=mV (by omega) (by omega)
   unfold sX;simp only [e1,ol,az,e2,jR s.bi (alt s.bi-1) (by omega),aj,ba (show (s.bi.take (alt s.bi-1)).length<=1048576 by rw [adm];omega),
    ar s.bi (alt s.bi-1) (by omega),<- n2,ar s.aA (cW s) n1]
   obtain ⟨u1,u2,u3⟩:=ok.us (cW s) n1
   by_cases a2:s.aA[cW s]! =1000000
   · have e3:(s.aA[cW s]! ==1000000)=am0:=by simpa using a2
     rw [e3,rc (by omega)];rfl
   have e3:(s.aA[cW s]! ==1000000)=am1:=by simpa using a2
   have e4:aa .i64 (s.aA[cW s]!+1)=s.aA[cW s]!+1:=by rw [wi];omega
   rw [e3,pp (by omega)]
   simp only [ol,ba (show (alt s.aA)<=1048576 by omega),ba (show (alt s.be)<=1048576 by omega),aj,ar s.be (cW s) (by omega),ar s.aA (cW s) n1,e4,lV,
    ar (s.aA.set (cW s) (s.aA[cW s]!+1)) (cW s) (by rw [ut];exact n1),aX,n1,and_self,if_true,ga,kG]
 have e1:(((alt s.bi):Int)==0)=am0:=eI (by omega)
 rw [e1,rc (fun h=>a1 h.1)];rfl
theorem p9 {s:bg} (ok:eO s):fZ s=alX (am2 (vW s)):=by
 have hl:=ok.fl;have hn:=ok.n2;have hu:=ok.ul;unfold fZ vW;simp only [az]
 by_cases a1:0<alt s.bi
 · obtain ⟨n1,n2,n3⟩:=xi ok a1
   have e1:am2 ((0:Int)<((alt s.bi):Int))=am0:=by simp;omega
   have e2:aa .i64 (((alt s.bi):Int) -1)=((alt s.bi-1:Nat):Int):=mV (by omega) (by omega)
   simp only [e1,e2,lw,ar s.bi (alt s.bi-1) (by omega),aj,<- n2,ar s.aA (cW s) n1,a1,true_and]
 have e1:am2 ((0:Int)<((alt s.bi):Int))=am1:=decide_eq_false (by omega)
 rw [e1];simp [a1]
theorem Gs {s:bg} (ok:eO s) (h:vW s):uo s=alX (ga s,kG s):=by
 have hl:=ok.fl;have hn:=ok.n2;have hu:=ok.ul;obtain ⟨a1,a2⟩:=h;obtain ⟨n1,n2,n3⟩:=xi ok a1;obtain ⟨u1,u2,u3⟩:=ok.us (cW s) n1;unfold uo;rw [u7 ok];have e2:aa .i64 (((alt s.bi):Int) -1)=((alt s.bi-1:Nat):Int):=mV (by omega) (by omega)
 have e4:aa .i64 (s.aA[cW s]!+1)=s.aA[cW s]!+1:=by rw [wi];omega
 simp only [aj,az,e2,ar s.bi (alt s.bi-1) (by omega),jR s.bi (alt s.bi-1) (by omega),<- n2,ar s.aA (cW s) n1,ar s.be (cW s) (by omega),e4,lV,
  ar (s.aA.set (cW s) (s.aA[cW s]!+1)) (cW s) (by rw [ut];exact n1),aX,n1,and_self,if_true,ga,kG,Int.toNat_natCast]
theorem V8 {s:bg} (ok:eO s) (h:vW s):eO (ga s):=by
 have hl:=ok.fl;have hn:=ok.n2;have hu:=ok.ul;obtain ⟨a1,a2⟩:=h;obtain ⟨n1,n2,n3⟩:=xi ok a1;have mt: ∀x:Int,x∈s.bi.take (alt s.bi-1)↔(x∈s.bi/\x≠(cW s:Int)):=by
  intro x;rw [cm];constructor
  · rintro ⟨i,h1,h2,rfl⟩
    refine ⟨aW h2,?_⟩;rw [n2];exact gM.1 ok.fd i (alt s.bi-1) h1 (by omega)
  rintro ⟨h1,h2⟩
  obtain ⟨i,hi,rfl⟩:=aS.1 h1;refine ⟨i,?_,hi,rfl⟩;refine IR fun hc=>h2 ?_
  rw [n2,show i=alt s.bi-1 by omega]
 refine ⟨?_,?_,?_,?_,?_,?_,?_⟩
 · show 1<=(s.aA.set _ _).length;rw [ut];exact ok.n1
 · show (s.aA.set _ _).length<=200;rw [ut];exact ok.n2
 · show (s.be.set _ _).length=(s.aA.set _ _).length;rw [ut,ut];exact hu
 · intro x hx
   show 0<=x/\x<((s.aA.set _ _).length:Int);rw [ut];exact ok.fr x ((mt x).1 hx).1
 · exact ok.fd.sublist (List.take_sublist _ _)
 · intro i hi
   change i<(s.aA.set _ _).length at hi;rw [ut] at hi;show (s.be.set (cW s) am0)[i]! =am0↔(i:Int)∉s.bi.take (alt s.bi-1);rw [aX,mt]
   by_cases e:i=cW s
   · rw [pp ⟨e,by omega⟩]
     simp [e]
   rw [rc (fun k=>e k.1),ok.uf i hi]
   have:(i:Int)≠(cW s:Int):=by omega
   simp [this]
 intro i hi
 change i<(s.aA.set _ _).length at hi;rw [ut] at hi;obtain ⟨u1,u2,u3⟩:=ok.us i hi;show 0<=(s.aA.set (cW s) (s.aA[cW s]!+1))[i]!/\(s.aA.set (cW s) (s.aA[cW s]!+1))[i]!<=1000000/\((s.be.set (cW s) am0)[i]! =am0->1<=(s.aA.set (cW s) (s.aA[cW s]!+1))[i]!);rw [aX,aX]
 by_cases e:i=cW s
 · subst e
   rw [pp ⟨rfl,n1⟩];refine ⟨by omega,by omega,fun _=>by omega⟩
 rw [rc (fun k=>e k.1),rc (fun k=>e k.1)]
 exact ⟨u1,u2,u3⟩
abbrev Ev:=Int×Int×Int×Int×Int
abbrev Ev.at (x:Ev):Int×Int:=(x.1,x.2.1)
abbrev Ev.num (x:Ev):Int:=x.2.2.1
abbrev Ev.ix (x:Ev):Int:=x.2.2.2.1
abbrev Ev.n (x:Ev):Nat:=x.2.2.2.1.toNat
theorem aqI {x:Ev} {k:Nat} (h:x.ix<(k:Int)) (h0:0<=x.ix):x.n<k:=by
 show x.ix.toNat<k;omega
theorem aqJ {x y:Ev} (h0:0<=x.ix) (h1:0<=y.ix) (h:x.ix≠y.ix):x.n≠y.n:=by
 show x.ix.toNat≠y.ix.toNat
 omega
def less (x y:Ev):Prop:=vU (x.1,x.2.1) (y.1,y.2.1)<0\/(vU (x.1,x.2.1) (y.1,y.2.1)=0/\x.2.2.1<y.2.2.1)
theorem Kv {a b:Int×Int}:vU a b<0↔a.1*b.2<b.1*a.2:=by
 unfold vU;rcases fw (a.1*b.2) (b.1*a.2) with ⟨h,e⟩|⟨h,e⟩|⟨h,e⟩<;>rw [e]<;>constructor<;>intro<;>omega
theorem Ro {a b:Int×Int}:vU a b=0↔a.1*b.2=b.1*a.2:=by
 unfold vU;rcases fw (a.1*b.2) (b.1*a.2) with ⟨h,e⟩|⟨h,e⟩|⟨h,e⟩<;>rw [e]<;>constructor<;>intro<;>omega
theorem pC {x y:Ev} (h:less x y): ¬less y x:=by
 unfold less at*;rw [Kv,Ro] at*;dsimp only at*;rintro (k|k)<;>rcases h with h|h<;>omega
theorem Gt {a1 a2 b1 b2 c1 c2:Int} (ha:1<=a2) (hb:1<=b2) (hc:1<=c2) (h1:a1*b2<=b1*a2) (h2:b1*c2<=c1*b2):a1*c2<=c1*a2:=by
 have e1:a1*b2*c2<=b1*a2*c2:=M2 h1 (by omega)
 have e2:b1*c2*a2<=c1*b2*a2:=M2 h2 (by omega)
 have e3:(a1*c2)*b2<=(c1*a2)*b2:=by
  have r1:(a1*c2)*b2=a1*b2*c2:=by grind
  have r2:b1*a2*c2=b1*c2*a2:=by grind
  have r3:c1*b2*a2=(c1*a2)*b2:=by grind
  omega
 exact Int.le_of_mul_le_mul_right e3 (by omega)
theorem HJ {a1 a2 b1 b2 c1 c2:Int} (ha:1<=a2) (hb:1<=b2) (hc:1<=c2) (h1:a1*b2<b1*a2) (h2:b1*c2<=c1*b2):a1*c2<c1*a2:=by
 have e1:a1*b2*c2<b1*a2*c2:=af4 h1 (by omega)
 have e2:b1*c2*a2<=c1*b2*a2:=M2 h2 (by omega)
 have e3:(a1*c2)*b2<(c1*a2)*b2:=by
  have r1:(a1*c2)*b2=a1*b2*c2:=by grind
  have r2:b1*a2*c2=b1*c2*a2:=by grind
  have r3:c1*b2*a2=(c1*a2)*b2:=by grind
  omega
 exact afe e3 (by omega)
theorem Gu {a1 a2 b1 b2 c1 c2:Int} (ha:1<=a2) (hb:1<=b2) (hc:1<=c2) (h1:a1*b2<=b1*a2) (h2:b1*c2<c1*b2):a1*c2<c1*a2:=by
 have e1:a1*b2*c2<=b1*a2*c2:=M2 h1 (by omega)
 have e2:b1*c2*a2<c1*b2*a2:=af4 h2 (by omega)
 have e3:(a1*c2)*b2<(c1*a2)*b2:=by
  have r1:(a1*c2)*b2=a1*b2*c2:=by grind
  have r2:b1*a2*c2=b1*c2*a2:=by grind
  have r3:c1*b2*a2=(c1*a2)*b2:=by grind
  omega
 exact afe e3 (by omega)
theorem zC {x y z:Ev} (hx:1<=x.2.1) (hy:1<=y.2.1) (hz:1<=z.2.1) (h1: ¬less y x) (h2: ¬less z y): ¬less z x:=by
 unfold less at*;rw [Kv,Ro] at*;dsimp only at*;have t1:= @Gt x.1 x.2.1 y.1 y.2.1 z.1 z.2.1 hx hy hz;have t2:= @HJ x.1 x.2.1 y.1 y.2.1 z.1 z.2.1 hx hy hz;have t3:= @Gu x.1 x.2.1 y.1 y.2.1 z.1 z.2.1 hx hy hz;generalize x.1*y.2.1=p at*;generalize y.1*x.2.1=q at*;generalize y.1*z.2.1=r at*;generalize z.1*y.2.1=s at*;generalize x.1*z.2.1=u at*
 generalize z.1*x.2.1=v at*;have a1:p<=q:=by omega
 have a2:r<=s:=by omega
 have a3:=t1 a1 a2;rintro (k|k)
 · omega
 by_cases b1:p<q
 · have:=t2 b1 a2;omega
 by_cases b2:r<s
 · have:=t3 a1 b2;omega
 omega
structure A5 (n:Nat) (x:Ev) (M:Ev->Prop) (H:List Ev) (W:List Int) (i:Nat):Prop where
 lt:i<n
 hn:n<=alt H
 ix: ∀w,w<n->w≠i->0<=(H[w]!).ix/\(H[w]!).ix<alt W/\W[(H[w]!).n]! =(w:Int)/\(H[w]!).ix≠x.ix
 x0:0<=x.ix
 x1:x.ix<alt W
 mem: ∀e,(∃w,w<n/\w≠i/\H[w]! =e)↔M e
theorem A5.move {n:Nat} {x:Ev} {M:Ev->Prop} {H:List Ev} {W:List Int} {i j:Nat} (h:A5 n x M H W i) (hj:j<n) (lq:j≠i):A5 n x M (H.set i H[j]!) (W.set (H[j]!).n (i:Int)) j:=by
 have hn:=h.hn;have hi:=h.lt;obtain ⟨j1,j2,j3,j4⟩:=h.ix j hj lq;have cell: ∀w,(H.set i H[j]!)[w]! =if w=i then H[j]! else H[w]!:=by
  intro w;rw [aX]
  by_cases e:w=i
  · rw [pp ⟨e,by omega⟩,pp e]
  rw [rc (fun k=>e k.1),rc e]
 refine ⟨hj,by rw [ut];exact hn,?_,h.x0,by rw [ut];exact h.x1,?_⟩
 · intro w hw hwj
   rw [cell,ut]
   by_cases e:w=i
   · rw [pp e,aX,pp ⟨rfl,aqI j2 j1⟩]
     exact ⟨j1,j2,by rw [e],j4⟩
   rw [rc e,aX]
   obtain ⟨k1,k2,k3,k4⟩:=h.ix w hw e;refine ⟨k1,k2,?_,k4⟩;rw [rc,k3];rintro ⟨c,_⟩;rw [c,j3] at k3;omega
 intro e
 rw [<- h.mem e];constructor
 · rintro ⟨w,hw,hwj,he⟩
   rw [cell] at he
   by_cases c:w=i
   · rw [pp c] at he;exact ⟨j,hj,lq,he⟩
   rw [rc c] at he;exact ⟨w,hw,c,he⟩
 rintro ⟨w,hw,Kw,he⟩
 by_cases c:w=j
 · refine ⟨i,hi,fun h=>lq h.symm,?_⟩
   rw [cell,pp rfl,<- c];exact he
 exact ⟨w,hw,c,by rw [cell,rc Kw];exact he⟩
theorem A5.fill {n:Nat} {x:Ev} {M:Ev->Prop} {H:List Ev} {W:List Int} {i:Nat} (h:A5 n x M H W i):
 (∀w,w<n->0<=((H.set i x)[w]!).ix/\((H.set i x)[w]!).ix<alt W/\(W.set x.n (i:Int))[((H.set i x)[w]!).n]! =(w:Int))/\
  (∀e,(∃w,w<n/\(H.set i x)[w]! =e)↔(e=x\/M e)):=by
 have hn:=h.hn;have hi:=h.lt;have x0:=h.x0;have x1:=h.x1;have cell: ∀w,(H.set i x)[w]! =if w=i then x else H[w]!:=by
  intro w;rw [aX]
  by_cases e:w=i
  · rw [pp ⟨e,by omega⟩,pp e]
  rw [rc (fun k=>e k.1),rc e]
 constructor
 · intro w hw
   rw [cell]
   by_cases e:w=i
   · rw [pp e,aX,pp ⟨rfl,aqI x1 x0⟩]
     exact ⟨x0,x1,by rw [e]⟩
   rw [rc e,aX]
   obtain ⟨k1,k2,k3,k4⟩:=h.ix w hw e;exact ⟨k1,k2,by rw [rc (fun c=>aqJ k1 x0 k4 c.1),k3]⟩
 intro e
 rw [<- h.mem e];constructor
 · rintro ⟨w,hw,he⟩
   rw [cell] at he
   by_cases c:w=i
   · rw [pp c] at he;exact .inl he.symm
   rw [rc c] at he;exact .inr ⟨w,hw,c,he⟩
 rintro (he|⟨w,hw,Kw,he⟩)
 · exact ⟨i,hi,by rw [cell,pp rfl,he]⟩
 exact ⟨w,hw,by rw [cell,rc Kw];exact he⟩
noncomputable def iD (x:Ev):Nat->List Ev->List Int->Nat×List Ev×List Int
 |0,H,W=>(0,H,W)
 |i+1,H,W=>if less x H[i / 2]! then iD x (i / 2) (H.set (i+1) H[i / 2]!) (W.set (H[i / 2]!).n ((i+1:Nat):Int)) else (i+1,H,W)
termination_by i=>i
decreasing_by omega
noncomputable def gN (n:Nat) (H:List Ev) (i:Nat):Nat:=if 2*i+2<n/\less H[2*i+2]! H[2*i+1]! then 2*i+2 else 2*i+1
theorem nO (n:Nat) (H:List Ev) (i:Nat):gN n H i=2*i+1\/(gN n H i=2*i+2/\2*i+2<n):=by
 unfold gN;split
 · rename_i h;exact .inr ⟨rfl,h.1⟩
 exact .inl rfl
noncomputable def dP (n:Nat) (x:Ev) (i:Nat) (H:List Ev) (W:List Int):Nat×List Ev×List Int:=
 if _h:2*i+1<n then
  if less H[gN n H i]! x then dP n x (gN n H i) (H.set i H[gN n H i]!) (W.set (H[gN n H i]!).n (i:Int)) else (i,H,W)
 else (i,H,W)
termination_by n-i
decreasing_by
 rcases nO n H i with h|h<;>omega
structure Ord (n:Nat) (H:List Ev) (i:Nat):Prop where
 den: ∀w,w<n->1<=(H[w]!).2.1
 ord: ∀k,0<k->k<n->k≠i->(k-1) / 2≠i-> ¬less H[k]! H[(k-1) / 2]!
 MY:0<i-> ∀k,0<k->k<n->(k-1) / 2=i-> ¬less H[k]! H[(i-1) / 2]!
theorem EH {n : Nat} {x : Ev} {M : Ev -> Prop} (dx : 1 <= x.2.1) : ∀ (i : Nat) (H : List Ev) (W : List Int), A5 n x M H W i -> Ord n H i ->
    ∃ j H1 W1, iD x i H W = (j, H1, W1) /\ A5 n x M H1 W1 j /\ Ord n H1 j /\ (alt H1) = (alt H) /\ (alt W1) = (alt W) /\ (0 < j -> ¬ less x H1[(j - 1) / 2]!) /\
      (∀ k, n <= k -> H1[k]! = H[k]!) /\ (∀ k, (∀ w, w < n -> w ≠ i -> (H[w]!).n ≠ k) -> W1[k]! = W[k]!) /\
      ((∀ k, 0 < k -> k < n -> (k - 1) / 2 = i -> ¬ less H[k]! x) -> ∀ k, 0 < k -> k < n -> (k - 1) / 2 = j -> ¬ less H1[k]! x)
  | 0, H, W, h, o => ⟨0, H, W, by rw [iD], h, o, rfl, rfl, fun h => by omega, fun _ _ => rfl, fun _ _ => rfl, fun h => h⟩
  | i + 1, H, W, h, o => by
    rw [iD]
    by_cases hl : less x H[i / 2]!
    · rw [pp hl]
      have hi := h.lt
      have hn := h.hn
      have hp : i / 2 < n := by omega
      have ec : i / 2 ≠ i + 1 := by omega
      have hm := h.move hp ec
      have cell : ∀ w, (H.set (i + 1) H[i / 2]!)[w]! = if w = i + 1 then H[i / 2]! else H[w]! := by
        intro w
        rw [aX]
        by_cases e : w = i + 1
        · rw [pp ⟨e, by omega⟩, pp e]
        rw [rc (fun k => e k.1), rc e]
      have o' : Ord n (H.set (i + 1) H[i / 2]!) (i / 2) := by
        refine ⟨?_, ?_, ?_⟩
        · intro w hw
          rw [cell]
          split
          · exact o.den _ hp
          exact o.den _ hw
        · intro k k0 kn k1 k2
          rw [cell, cell]
          by_cases e : k = i + 1
          · subst e; exact absurd (by omega) k2
          rw [rc e]
          by_cases e2 : (k - 1) / 2 = i + 1
          · rw [pp e2]
            have := o.MY (by omega) k k0 kn e2
            rwa [show (i + 1 - 1) / 2 = i / 2 by omega] at this
          rw [rc e2]
          exact o.ord k k0 kn e e2
        intro p0 k k0 kn k1
        rw [cell, cell, rc (show (i / 2 - 1) / 2 ≠ i + 1 by omega)]
        have up1 : ¬ less H[i / 2]! H[(i / 2 - 1) / 2]! := o.ord (i / 2) p0 hp ec (by omega)
        by_cases e : k = i + 1
        · rw [pp e]; exact up1
        rw [rc e]
        have up2 : ¬ less H[k]! H[i / 2]! := by
          have := o.ord k k0 kn e (by omega)
          rwa [k1] at this
        exact zC (o.den _ (by omega)) (o.den _ hp) (o.den _ kn) up1 up2
      obtain ⟨j, H1, W1, e1, e3, e4, e5, e6, e7, e8, e9, e10⟩ := EH dx (i / 2) _ _ hm o'
      rw [ut] at e5 e6
      refine ⟨j, H1, W1, e1, e3, e4, e5, e6, e7, ?_, ?_, ?_⟩
      · intro k hk
        rw [e8 k hk, cell, rc (by omega)]
      · intro k hk
        rw [e9 k ?_, aX, rc (fun c => hk (i / 2) hp ec c.1.symm)]
        intro w hw OX
        rw [cell]
        split
        · exact hk (i / 2) hp ec
        rename_i e; exact hk w hw e
      intro _
      refine e10 fun k k0 kn k1 => ?_
      rw [cell]
      by_cases e : k = i + 1
      · rw [pp e]; exact pC hl
      rw [rc e]
      have up2 : ¬ less H[k]! H[i / 2]! := by
        have := o.ord k k0 kn e (by omega)
        rwa [k1] at this
      exact zC dx (o.den _ hp) (o.den _ kn) (pC hl) up2
    rw [rc hl]
    refine ⟨i + 1, H, W, rfl, h, o, rfl, rfl, fun _ => ?_, fun _ _ => rfl, fun _ _ => rfl, fun h => h⟩
    rwa [show (i + 1 - 1) / 2 = i / 2 by omega]
termination_by i=>i
decreasing_by omega
theorem SZ {n:Nat} {x:Ev} {i:Nat} {H:List Ev} {W:List Int} (h: ∀k,0<k->k<n->(k-1) / 2=i-> ¬less H[k]! x):dP n x i H W=(i,H,W):=by
 rw [dP];split
 · rename_i hk
   rw [rc];rcases nO n H i with e|⟨e,e2⟩
   · rw [e];exact h _ (by omega) hk (by omega)
   rw [e];exact h _ (by omega) e2 (by omega)
 rfl
theorem IJ {n : Nat} {x : Ev} {M : Ev -> Prop} (dx : 1 <= x.2.1) : ∀ (d i : Nat) (H : List Ev) (W : List Int), n - i <= d -> A5 n x M H W i -> Ord n H i -> (0 < i -> ¬ less x H[(i - 1) / 2]!) ->
    ∃ j H1 W1, dP n x i H W = (j, H1, W1) /\ A5 n x M H1 W1 j /\ Ord n H1 j /\ (alt H1) = (alt H) /\ (alt W1) = (alt W) /\ (0 < j -> ¬ less x H1[(j - 1) / 2]!) /\
      (∀ k, n <= k -> H1[k]! = H[k]!) /\ (∀ k, (∀ w, w < n -> w ≠ i -> (H[w]!).n ≠ k) -> W1[k]! = W[k]!) /\ (∀ k, 0 < k -> k < n -> (k - 1) / 2 = j -> ¬ less H1[k]! x)
  | 0, i, H, W, hd, h, o, u => by have := h.lt; omega
  | d + 1, i, H, W, hd, h, o, u => by
    have hi := h.lt
    have hn := h.hn
    rw [dP]
    by_cases hk : 2 * i + 1 < n
    · rw [dif_pos hk]
      have kc := nO n H i
      have kn : gN n H i < n := by omega
      have kne : gN n H i ≠ i := by omega
      have kp : (gN n H i - 1) / 2 = i := by omega
      have kb : ∀ k, 0 < k -> k < n -> (k - 1) / 2 = i -> ¬ less H[k]! H[gN n H i]! := by
        intro k k0 k1 k2
        have kk : k = 2 * i + 1 \/ k = 2 * i + 2 := by omega
        unfold gN
        split
        · rename_i hc
          rcases kk with e | e
          · rw [e]; exact pC hc.2
          rw [e]; exact fun h => pC h h
        rename_i hc
        rcases kk with e | e
        · rw [e]; exact fun h => pC h h
        rw [e] at k1 ⊢; exact fun h => hc ⟨k1, h⟩
      by_cases hl : less H[gN n H i]! x
      · rw [pp hl]
        have hm := h.move kn kne
        have cell : ∀ w, (H.set i H[gN n H i]!)[w]! = if w = i then H[gN n H i]! else H[w]! := by
          intro w
          rw [aX]
          by_cases e : w = i
          · rw [pp ⟨e, by omega⟩, pp e]
          rw [rc (fun k => e k.1), rc e]
        have o' : Ord n (H.set i H[gN n H i]!) (gN n H i) := by
          refine ⟨?_, ?_, ?_⟩
          · intro w hw
            rw [cell]
            split
            · exact o.den _ kn
            exact o.den _ hw
          · intro k k0 k1 k2 k3
            rw [cell, cell]
            by_cases e : k = i
            · rw [pp e, rc (by omega)]
              have := o.MY (by omega) (gN n H i) (by omega) kn kp
              rwa [e]
            rw [rc e]
            by_cases e2 : (k - 1) / 2 = i
            · rw [pp e2]; exact kb k k0 k1 e2
            rw [rc e2]; exact o.ord k k0 k1 e e2
          intro _ k k0 k1 k2
          rw [cell, cell, pp kp, rc (by omega)]
          have := o.ord k k0 k1 (by omega) (by omega)
          rwa [k2] at this
        obtain ⟨j, H1, W1, e1, e3, e4, e5, e6, e7, e8, e9, e10⟩ := IJ dx d (gN n H i) _ _ (by omega) hm o' (by
          intro _
          rw [cell, pp kp]
          exact pC hl)
        rw [ut] at e5 e6
        refine ⟨j, H1, W1, e1, e3, e4, e5, e6, e7, ?_, ?_, e10⟩
        · intro k hk
          rw [e8 k hk, cell, rc (by omega)]
        intro k hk
        rw [e9 k ?_, aX, rc (fun c => hk (gN n H i) kn kne c.1.symm)]
        intro w hw OX
        rw [cell]
        split
        · exact hk (gN n H i) kn kne
        rename_i e; exact hk w hw e
      rw [rc hl]
      refine ⟨i, H, W, rfl, h, o, rfl, rfl, u, fun _ _ => rfl, fun _ _ => rfl, ?_⟩
      intro k k0 k1 k2
      exact zC dx (o.den _ kn) (o.den _ k1) hl (kb k k0 k1 k2)
    rw [dif_neg hk]
    refine ⟨i, H, W, rfl, h, o, rfl, rfl, u, fun _ _ => rfl, fun _ _ => rfl, ?_⟩
    intro k k0 k1 k2
    omega
structure zD (n:Nat) (x:Ev) (M:Ev->Prop) (K:Nat->Prop) (H:List Ev) (W:List Int) (H1:List Ev) (W1:List Int):Prop where
 hl:(alt H1)=alt H
 wl:(alt W1)=alt W
 ix: ∀w,w<n->0<=(H1[w]!).ix/\(H1[w]!).ix<alt W/\W1[(H1[w]!).n]! =(w:Int)
 mem: ∀e,(∃w,w<n/\H1[w]! =e)↔(e=x\/M e)
 ord: ∀k,0<k->k<n-> ¬less H1[k]! H1[(k-1) / 2]!
 out: ∀k,K k->W1[k]! =W[k]!
theorem Kx {n:Nat} {x:Ev} {M:Ev->Prop} {H H1:List Ev} {W W1:List Int} {i j:Nat} (h1:A5 n x M H1 W1 j) (o1:Ord n H1 j) (hl:(alt H1)=alt H) (wl:(alt W1)=alt W)
 (u:0<j-> ¬less x H1[(j-1) / 2]!) (kd: ∀k,0<k->k<n->(k-1) / 2=j-> ¬less H1[k]! x) (out: ∀k,(∀w,w<n->w≠i->(H[w]!).n≠k)->W1[k]! =W[k]!):
 zD n x M (fun k=>k≠x.n/\ ∀w,w<n->w≠i->(H[w]!).n≠k) H W (H1.set j x) (W1.set x.n (j:Int)):=by
 have hn:=h1.hn;have hj:=h1.lt;have f:=h1.fill;have cell: ∀w,(H1.set j x)[w]! =if w=j then x else H1[w]!:=by
  intro w;rw [aX]
  by_cases e:w=j
  · rw [pp ⟨e,by omega⟩,pp e]
  rw [rc (fun k=>e k.1),rc e]
 refine ⟨by rw [ut];exact hl,by rw [ut];exact wl,?_,f.2,?_,?_⟩
 · rw [<- wl];exact f.1
 · intro k k0 kn
   rw [cell,cell]
   by_cases e:k=j
   · rw [pp e,rc (by omega),e];exact u (by omega)
   rw [rc e]
   by_cases e2:(k-1) / 2=j
   · rw [pp e2];exact kd k k0 kn e2
   rw [rc e2];exact o1.ord k k0 kn e e2
 rintro k ⟨k1,k2⟩
 rw [aX,rc (fun c=>k1 c.1)]
 exact out k k2
noncomputable def cK (n:Nat) (x:Ev) (i:Nat) (H:List Ev) (W:List Int):List Ev×List Int:=
 let u:=iD x i H W
 let d:=dP n x u.1 u.2.1 u.2.2
 (d.2.1.set d.1 x,d.2.2.set x.n (d.1:Int))
theorem yH {n:Nat} {x:Ev} {M:Ev->Prop} (dx:1<=x.2.1) {i:Nat} {H:List Ev} {W:List Int} (h:A5 n x M H W i) (o:Ord n H i):
 zD n x M (fun k=>k≠x.n/\ ∀w,w<n->w≠i->(H[w]!).n≠k) H W (cK n x i H W).1 (cK n x i H W).2:=by
 obtain ⟨j,H1,W1,e1,e3,e4,e5,e6,e7,e8,e9,e10⟩:=EH dx i H W h o;obtain ⟨k,H2,W2,f1,f3,f4,f5,f6,f7,f8,f9,f10⟩:=IJ dx n j H1 W1 (by omega) e3 e4 e7
 have e:cK n x i H W=(H2.set k x,W2.set x.n (k:Int)):=by
  unfold cK;rw [e1];dsimp only;rw [f1]
 rw [e];refine Kx f3 f4 (by omega) (by omega) f7 f10 ?_
 intro c hc;rw [f9 c ?_,e9 c hc];intro w hw hwj hcw;have hm:M H1[w]!:=(e3.mem _).1 ⟨w,hw,hwj,rfl⟩;obtain ⟨v,v1,v2,v3⟩:=(h.mem _).2 hm;exact hc v v1 v2 (by rw [v3];exact hcw)
theorem MZ {n:Nat} {x:Ev} {M:Ev->Prop} (dx:1<=x.2.1) {i:Nat} {H:List Ev} {W:List Int} (h:A5 n x M H W i) (o:Ord n H i) (hk: ∀k,0<k->k<n->(k-1) / 2=i-> ¬less H[k]! x):
 cK n x i H W=((iD x i H W).2.1.set (iD x i H W).1 x,(iD x i H W).2.2.set x.n ((iD x i H W).1:Int)):=by
 obtain ⟨j,H1,W1,e1,e3,e4,e5,e6,e7,e8,e9,e10⟩:=EH dx i H W h o;unfold cK;rw [e1];dsimp only;rw [SZ (e10 hk)]
def pD (x:Ev):Prop:=bX (x.1,x.2.1)/\nm (x.1,x.2.1)/\0<=x.2.2.1/\x.2.2.1<=1000000
theorem pD.den {x:Ev} (h:pD x):1<=x.2.1:=h.1.1
noncomputable def Gv (x y:Ev):Int:=if vU (x.1,x.2.1) (y.1,y.2.1)≠0 then vU (x.1,x.2.1) (y.1,y.2.1) else js x.2.2.1 y.2.2.1
theorem Ca (x y:Ev):Gv x y<0↔less x y:=by
 unfold Gv less
 by_cases h:vU (x.1,x.2.1) (y.1,y.2.1)=0
 · rw [rc (by simpa using h),h]
   rcases fw x.2.2.1 y.2.2.1 with ⟨h1,e⟩|⟨h1,e⟩|⟨h1,e⟩<;>rw [e]<;>constructor<;>intro<;>omega
 rw [pp h];constructor<;>intro<;>omega
theorem dF {x y:Ev} (hx:pD x) (hy:pD y):cD x y=alX (Gv x y):=by
 unfold cD Gv;rw [V1 hx.2.1 hy.2.1,pp ⟨hx.1,hy.1⟩];simp only [aj,jQ,zB]
theorem mW {x y:Ev} (hx:pD x) (hy:pD y):ew x y=alX (am2 (less x y)):=by
 unfold ew less;rw [Gk hx.2.1 hy.2.1];simp only [aj];generalize vU (x.1,x.2.1) (y.1,y.2.1)=c
 by_cases h1:c<0
 · simp [h1]
 by_cases h2:c=0
 · subst h2;simp
 simp only [h1,dX h2,h2,decide_false,ol,false_or,false_and]
theorem Dl {x y:Ev}:am2 (Gv x y<0)=am2 (less x y):=by simp only [Ca]
theorem Ky {x y:Ev}:am2 (0<=Gv x y)=!am2 (less x y):=by
 have:=Ca x y
 by_cases h:less x y
 · have h2:=this.2 h
   have: ¬0<=Gv x y:=by omega
   simp [h,this]
 have h2: ¬Gv x y<0:=fun k=>h (this.1 k)
 have:0<=Gv x y:=by omega
 simp [h,this]
structure lY (n:Nat) (H:List Ev) (W:List Int):Prop where
 hn:n<=alt H
 hb:(alt H)<=1000000
 ev: ∀w,w<n->pD H[w]!/\0<=(H[w]!).ix/\(H[w]!).ix<alt W
theorem lY.move {n:Nat} {H:List Ev} {W:List Int} (c:lY n H W) {i j:Nat} (_hi:i<n) (hj:j<n) (k:Nat) (v:Int):lY n (H.set i H[j]!) (W.set k v):=by
 have hn:=c.hn;refine ⟨by rw [ut];exact hn,by rw [ut];exact c.hb,?_⟩
 intro w hw;rw [aX,ut];split
 · exact c.ev j hj
 exact c.ev w hw
theorem EI {H:List Ev} {W:List Int} {x:Ev} {u fr:List Int} {us:List Bool} {i:Nat} (hi:i<alt H) (h0:0<=x.ix) (h1:x.ix<alt W):
 cd (u,us,fr,(i:Int),x.1,x.2.1,x.2.2.1,x.2.2.2.1,x.2.2.2.2,H,W)=alX (H.set i x,W.set x.n (i:Int)):=by
 unfold cd;have e1:=ar H i hi;have e2:=dJ (l:=W) h0 h1;simp only [e1,e2,aj,yk,beq_self_eq_true,lw];rfl
theorem EJ {n cap:Nat} {H:List Ev} {W:List Int} {x:Ev} {u fr:List Int} {us:List Bool} {i:Nat} (hi:i<n) (hn:n<=alt H) (h0:0<=x.ix) (h1:x.ix<alt W):
 bZ (u,us,fr,n,cap,(i:Int),x.1,x.2.1,x.2.2.1,x.2.2.2.1,x.2.2.2.2,H,W)=alX (H.set i x,W.set x.n (i:Int)):=by
 unfold bZ;have e1:=ar (H.take n) i (by rw [adm];omega)
 have e2:=dJ (l:=W) h0 h1;simp only [e1,e2,aj,yk,beq_self_eq_true,lw];rfl
theorem rq {i:Nat} (h:i<1000000000):aa .i64 (afM (aa .i64 (((i+1:Nat):Int) -1)) 2)=((i / 2:Nat):Int):=by
 have e:aa .i64 (((i+1:Nat):Int) -1)=(i:Int):=by rw [wi];omega
 rw [e,afb (by omega),wi];omega
theorem u9 {i:Nat} (h:i<1000000000):aa .i64 ((aa .i64 (2*(i:Int)))+1)=((2*i+1:Nat):Int):=by
 have e:aa .i64 (2*(i:Int))=((2*i:Nat):Int):=by rw [wi];omega
 rw [e,wi];omega
theorem yI {n:Nat} {x:Ev}: ∀{i:Nat} {H:List Ev} {W:List Int} {j:Nat} {H1:List Ev} {W1:List Int},lY n H W->i<n->iD x i H W=(j,H1,W1)-> ∀w,w<n->pD H1[w]!/\0<=(H1[w]!).ix/\(H1[w]!).ix<alt W
 |0,H,W,j,H1,W1,c,hi,e=>by
  rw [iD] at e;injection e with e1 e;injection e with e2 e3;subst e2;exact c.ev
 |i+1,H,W,j,H1,W1,c,hi,e=>by
  rw [iD] at e;split at e
  · have:=yI (c.move hi (show i / 2<n by omega) (H[i / 2]!).n ((i+1:Nat):Int)) (by omega) e
    rw [ut] at this;exact this
  injection e with e1 e;injection e with e2 e3
  subst e2;exact c.ev
termination_by i=>i
decreasing_by omega
theorem Pu {c0:List Int×List Bool×List Int×Int×Int×Int×Int×Int×Int×List Ev×List Int} {n i:Nat} {H:List Ev} {W:List Int} {u fr:List Int} {us:List Bool} {x:Ev}
 (c:lY n H W) (hn:(alt H)=n) (hi:i<n) (hx:pD x) (x0:0<=x.ix) (x1:x.ix<alt W) (l1:(alt c0.2.2.2.2.2.2.2.2.2.1)=n) (l2:(alt c0.2.2.2.2.2.2.2.2.2.2)=alt W):
 fO c0 ((i:Int),((2*i+1:Nat):Int),H,W,u,us,fr,x)=
  alX (if 2*i+1<n/\less H[gN n H i]! x then .next (((gN n H i:Nat):Int),((2*gN n H i+1:Nat):Int),H.set i H[gN n H i]!,W.set (H[gN n H i]!).n (i:Int),u,us,fr,x)
   else .done (.done (H.set i x,W.set x.n (i:Int)))):=by
 have hb:=c.hb;have fin:(cd (u,us,fr,(i:Int),x.1,x.2.1,x.2.2.1,x.2.2.2.1,x.2.2.2.2,H,W))=alX (H.set i x,W.set x.n (i:Int)):=EI (by omega) x0 x1
 have ln1:(H.set i x).length=(alt c0.2.2.2.2.2.2.2.2.2.1):=by rw [ut];omega
 have ln2:(W.set x.n (i:Int)).length=(alt c0.2.2.2.2.2.2.2.2.2.2):=by rw [ut];omega
 unfold fO;simp only [az,hn,fin,aj,ln1,ln2,beq_self_eq_true,lw]
 by_cases h1:2*i+1<n
 · have e1:am2 (((2*i+1:Nat):Int)<(n:Int))=am0:=by simp;omega
   have e2:aa .i64 (((2*i+1:Nat):Int)+1)=((2*i+2:Nat):Int):=aT (by omega)
   obtain ⟨D1,a1,a2⟩:=c.ev (2*i+1) h1;have g1:=ar H (2*i+1) (by omega)
   have s1:(cd (u,us,fr,(i:Int),(H[2*i+1]!).1,(H[2*i+1]!).2.1,(H[2*i+1]!).2.2.1,(H[2*i+1]!).2.2.2.1,(H[2*i+1]!).2.2.2.2,H,W))=alX (H.set i H[2*i+1]!,W.set (H[2*i+1]!).n (i:Int)):=EI (by omega) a1 a2
   simp only [e1,e2,lw,g1,aj,s1,dF D1 hx,Ky,u9 (show 2*i+1<1000000000 by omega)]
   by_cases h2:2*i+2<n
   · have e3:am2 (((2*i+2:Nat):Int)<(n:Int))=am0:=by simp;omega
     obtain ⟨V9,b1,b2⟩:=c.ev (2*i+2) h2;have g2:=ar H (2*i+2) (by omega)
     have s2:(cd (u,us,fr,(i:Int),(H[2*i+2]!).1,(H[2*i+2]!).2.1,(H[2*i+2]!).2.2.1,(H[2*i+2]!).2.2.2.1,(H[2*i+2]!).2.2.2.2,H,W))=alX (H.set i H[2*i+2]!,W.set (H[2*i+2]!).n (i:Int)):=EI (by omega) b1 b2
     simp only [e3,lw,g2,aj,s2,dF V9 hx,dF V9 D1,Dl,Ky,u9 (show 2*i+2<1000000000 by omega)]
     by_cases h3:less H[2*i+2]! H[2*i+1]!
     · have k:gN n H i=2*i+2:=by unfold gN;rw [pp ⟨h2,h3⟩]
       rw [k]
       by_cases h4:less H[2*i+2]! x
       · simp only [h1,h3,h4,decide_true,lw,ol,If,and_self,if_true]
       simp only [h1,h3,h4,decide_true,decide_false,lw,EQ,and_false,if_false]
     have k:gN n H i=2*i+1:=by unfold gN;rw [rc (fun h=>h3 h.2)]
     rw [k]
     by_cases h4:less H[2*i+1]! x
     · simp only [h1,h3,h4,decide_true,decide_false,ol,If,and_self,if_true]
     simp only [h1,h3,h4,decide_false,lw,ol,EQ,and_false,if_false]
   have e3:am2 (((2*i+2:Nat):Int)<(n:Int))=am1:=by simp;omega
   have k:gN n H i=2*i+1:=by unfold gN;rw [rc (fun h=>h2 h.1)]
   rw [k];simp only [e3,ol]
   by_cases h4:less H[2*i+1]! x
   · simp only [h1,h4,decide_true,ol,If,and_self,if_true]
   simp only [h1,h4,decide_false,lw,EQ,and_false,if_false]
 have e1:am2 (((2*i+1:Nat):Int)<(n:Int))=am1:=by simp;omega
 rw [rc (fun h=>h1 h.1),e1];rfl
theorem xj {c0 : List Int × List Bool × List Int × Int × Int × Int × Int × Int × Int × List Ev × List Int} {n : Nat} {u fr : List Int} {us : List Bool} {x : Ev} (hx : pD x) (x0 : 0 <= x.ix) (l1 : (alt c0.2.2.2.2.2.2.2.2.2.1) = n) :
    ∀ (d i : Nat) (H : List Ev) (W : List Int), n - i <= d -> lY n H W -> (alt H) = n -> i < n -> x.ix < (alt W) -> (alt c0.2.2.2.2.2.2.2.2.2.2) = (alt W) ->
      ay (fO c0) ((i : Int), ((2 * i + 1 : Nat) : Int), H, W, u, us, fr, x) = alX (.done ((dP n x i H W).2.1.set (dP n x i H W).1 x, (dP n x i H W).2.2.set x.n ((dP n x i H W).1 : Int)))
  | 0, i, H, W, hd, c, hn, hi, x1, l2 => by omega
  | d + 1, i, H, W, hd, c, hn, hi, x1, l2 => by
    have r := Pu (u := u) (us := us) (fr := fr) c hn hi hx x0 x1 l1 l2
    by_cases h : 2 * i + 1 < n /\ less H[gN n H i]! x
    · rw [pp h] at r
      have kc := nO n H i
      have kn : gN n H i < n := by omega
      rw [aV r, xj hx x0 l1 d (gN n H i) _ _ (by omega) (c.move hi kn _ _) (by rw [ut]; exact hn) kn (by rw [ut]; exact x1) (by rw [ut]; exact l2)]
      have e : dP n x i H W = dP n x (gN n H i) (H.set i H[gN n H i]!) (W.set (H[gN n H i]!).n (i : Int)) := by
        rw [dP, dif_pos h.1, pp h.2]
      rw [e]
    rw [rc h] at r
    rw [aH r]
    have e : dP n x i H W = (i, H, W) := by
      rw [dP]
      split
      · rename_i h1; rw [rc (fun k => h ⟨h1, k⟩)]
      rfl
    rw [e]
theorem Gw {c0 : List Int × List Bool × List Int × Int × Int × Int × Int × Int × Int × List Ev × List Int} {n : Nat} {u fr : List Int} {us : List Bool} {x : Ev} (hx : pD x) (x0 : 0 <= x.ix) (l1 : (alt c0.2.2.2.2.2.2.2.2.2.1) = n) :
    ∀ (i : Nat) (H : List Ev) (W : List Int), lY n H W -> (alt H) = n -> i < n -> x.ix < (alt W) -> (alt c0.2.2.2.2.2.2.2.2.2.2) = (alt W) ->
      ay (eM c0) ((i : Int), H, W, u, us, fr, x) = alX (cK n x i H W)
  | 0, H, W, c, hn, hi, x1, l2 => by
    have hb := c.hb
    have dn := xj (u := u) (us := us) (fr := fr) hx x0 l1 n 0 H W (by omega) c hn hi x1 l2
    refine (aH (r := cK n x 0 H W) ?_)
    unfold eM
    have e1 : am2 ((0 : Int) < ((0 : Nat) : Int)) = am1 := by simp
    simp only [e1, ol, u9 (show 0 < 1000000000 by omega)]
    rw [dn]
    unfold cK
    rw [iD]
  | i + 1, H, W, c, hn, hi, x1, l2 => by
    have hb := c.hb
    have e1 : am2 ((0 : Int) < ((i + 1 : Nat) : Int)) = am0 := decide_eq_true (by omega)
    have hp : i / 2 < n := by omega
    obtain ⟨D1, a1, a2⟩ := c.ev (i / 2) hp
    have g1 := ar H (i / 2) (by omega)
    have s1 : (cd (u, us, fr, ((i + 1 : Nat) : Int), (H[i / 2]!).1, (H[i / 2]!).2.1, (H[i / 2]!).2.2.1, (H[i / 2]!).2.2.2.1, (H[i / 2]!).2.2.2.2, H, W)) = alX (H.set (i + 1) H[i / 2]!, W.set (H[i / 2]!).n ((i + 1 : Nat) : Int)) := EI (by omega) a1 a2
    by_cases h : less x H[i / 2]!
    · have r : eM c0 (((i + 1 : Nat) : Int), H, W, u, us, fr, x) = alX (.next (((i / 2 : Nat) : Int), H.set (i + 1) H[i / 2]!, W.set (H[i / 2]!).n ((i + 1 : Nat) : Int), u, us, fr, x)) := by
        unfold eM
        simp only [e1, lw, rq (show i < 1000000000 by omega), g1, aj, dF hx D1, Dl, h, decide_true, s1]
      rw [aV r, Gw hx x0 l1 (i / 2) _ _ (c.move hi hp _ _) (by rw [ut]; exact hn) hp (by rw [ut]; exact x1) (by rw [ut]; exact l2)]
      have e : iD x (i + 1) H W = iD x (i / 2) (H.set (i + 1) H[i / 2]!) (W.set (H[i / 2]!).n ((i + 1 : Nat) : Int)) := by
        rw [iD, pp h]
      unfold cK
      rw [e]
    have dn := xj (u := u) (us := us) (fr := fr) hx x0 l1 n (i + 1) H W (by omega) c hn hi x1 l2
    refine (aH (r := cK n x (i + 1) H W) ?_)
    unfold eM
    simp only [e1, lw, rq (show i < 1000000000 by omega), g1, aj, dF hx D1, Dl, h, decide_false, ol, u9 (show i + 1 < 1000000000 by omega)]
    rw [dn]
    unfold cK
    rw [iD, rc h]
termination_by i=>i
decreasing_by omega
theorem Gx {n:Nat} {u fr:List Int} {us:List Bool} {x:Ev} (hx:pD x) (x0:0<=x.ix) {i:Nat} {H:List Ev} {W:List Int} (c:lY n H W) (hn:(alt H)=n) (hi:i<n) (x1:x.ix<alt W):
 eU (u,us,fr,(i:Int),x.1,x.2.1,x.2.2.1,x.2.2.2.1,x.2.2.2.2,H,W)=alX (cK n x i H W):=by
 unfold eU;exact Gw hx x0 hn i H W c hn hi x1 rfl
theorem fQ {l:List Ev} {n i:Nat} (h:i<n) (hn:n<=alt l):aJ (l.take n) (i:Int)=alX l[i]!:=by
 rw [ar (l.take n) i (by rw [adm];omega),iO h]
theorem Pv {c0:List Int×List Bool×List Int×Nat×Nat×Int×Int×Int×Int×Int×Int×List Ev×List Int} {n cap i:Nat} {H:List Ev} {W:List Int} {u fr:List Int} {us:List Bool} {x:Ev}
 (c:lY n H W) (hi:i<n) (hx:pD x) (x0:0<=x.ix) (x1:x.ix<alt W) (l1:(alt c0.2.2.2.2.2.2.2.2.2.2.2.1)=alt H) (l2:(alt c0.2.2.2.2.2.2.2.2.2.2.2.2)=alt W):
 fN c0 ((i:Int),((2*i+1:Nat):Int),H,W,u,us,fr,n,cap,x)=
  alX (if 2*i+1<n/\less H[gN n H i]! x then .next (((gN n H i:Nat):Int),((2*gN n H i+1:Nat):Int),H.set i H[gN n H i]!,W.set (H[gN n H i]!).n (i:Int),u,us,fr,n,cap,x)
   else .done (.done (H.set i x,W.set x.n (i:Int)))):=by
 have hb:=c.hb;have S0:=c.hn;have fin:(bZ (u,us,fr,n,cap,(i:Int),x.1,x.2.1,x.2.2.1,x.2.2.2.1,x.2.2.2.2,H,W))=alX (H.set i x,W.set x.n (i:Int)):=EJ (cap:=cap) (by omega) c.hn x0 x1
 have ln1:(H.set i x).length=(alt c0.2.2.2.2.2.2.2.2.2.2.2.1):=by rw [ut];omega
 have ln2:(W.set x.n (i:Int)).length=(alt c0.2.2.2.2.2.2.2.2.2.2.2.2):=by rw [ut];omega
 unfold fN;simp only [az,fin,aj,ln1,ln2,beq_self_eq_true,lw]
 by_cases h1:2*i+1<n
 · have e1:am2 (((2*i+1:Nat):Int)<(n:Int))=am0:=by simp;omega
   have e2:aa .i64 (((2*i+1:Nat):Int)+1)=((2*i+2:Nat):Int):=aT (by omega)
   obtain ⟨D1,a1,a2⟩:=c.ev (2*i+1) h1;have g1:=fQ (l:=H) (n:=n) (i:=2*i+1) (by omega) c.hn
   have s1:(bZ (u,us,fr,n,cap,(i:Int),(H[2*i+1]!).1,(H[2*i+1]!).2.1,(H[2*i+1]!).2.2.1,(H[2*i+1]!).2.2.2.1,(H[2*i+1]!).2.2.2.2,H,W))=alX (H.set i H[2*i+1]!,W.set (H[2*i+1]!).n (i:Int)):=EJ (cap:=cap) (by omega) c.hn a1 a2
   simp only [e1,e2,lw,g1,aj,s1,dF D1 hx,Ky,u9 (show 2*i+1<1000000000 by omega)]
   by_cases h2:2*i+2<n
   · have e3:am2 (((2*i+2:Nat):Int)<(n:Int))=am0:=by simp;omega
     obtain ⟨V9,b1,b2⟩:=c.ev (2*i+2) h2;have g2:=fQ (l:=H) (n:=n) (i:=2*i+2) (by omega) c.hn
     have s2:(bZ (u,us,fr,n,cap,(i:Int),(H[2*i+2]!).1,(H[2*i+2]!).2.1,(H[2*i+2]!).2.2.1,(H[2*i+2]!).2.2.2.1,(H[2*i+2]!).2.2.2.2,H,W))=alX (H.set i H[2*i+2]!,W.set (H[2*i+2]!).n (i:Int)):=EJ (cap:=cap) (by omega) c.hn b1 b2
     simp only [e3,lw,g2,aj,s2,dF V9 hx,dF V9 D1,Dl,Ky,u9 (show 2*i+2<1000000000 by omega)]
     by_cases h3:less H[2*i+2]! H[2*i+1]!
     · have k:gN n H i=2*i+2:=by unfold gN;rw [pp ⟨h2,h3⟩]
       rw [k]
       by_cases h4:less H[2*i+2]! x
       · simp only [h1,h3,h4,decide_true,lw,ol,If,and_self,if_true]
       simp only [h1,h3,h4,decide_true,decide_false,lw,EQ,and_false,if_false]
     have k:gN n H i=2*i+1:=by unfold gN;rw [rc (fun h=>h3 h.2)]
     rw [k]
     by_cases h4:less H[2*i+1]! x
     · simp only [h1,h3,h4,decide_true,decide_false,ol,If,and_self,if_true]
     simp only [h1,h3,h4,decide_false,lw,ol,EQ,and_false,if_false]
   have e3:am2 (((2*i+2:Nat):Int)<(n:Int))=am1:=by simp;omega
   have k:gN n H i=2*i+1:=by unfold gN;rw [rc (fun h=>h2 h.1)]
   rw [k];simp only [e3,ol]
   by_cases h4:less H[2*i+1]! x
   · simp only [h1,h4,decide_true,ol,If,and_self,if_true]
   simp only [h1,h4,decide_false,lw,EQ,and_false,if_false]
 have e1:am2 (((2*i+1:Nat):Int)<(n:Int))=am1:=by simp;omega
 rw [rc (fun h=>h1 h.1),e1];rfl
theorem xk {c0 : List Int × List Bool × List Int × Nat × Nat × Int × Int × Int × Int × Int × Int × List Ev × List Int} {n cap : Nat} {u fr : List Int} {us : List Bool} {x : Ev} (hx : pD x) (x0 : 0 <= x.ix) :
    ∀ (d i : Nat) (H : List Ev) (W : List Int), n - i <= d -> lY n H W -> (alt c0.2.2.2.2.2.2.2.2.2.2.2.1) = (alt H) -> i < n -> x.ix < (alt W) -> (alt c0.2.2.2.2.2.2.2.2.2.2.2.2) = (alt W) ->
      ay (fN c0) ((i : Int), ((2 * i + 1 : Nat) : Int), H, W, u, us, fr, n, cap, x) = alX (.done ((dP n x i H W).2.1.set (dP n x i H W).1 x, (dP n x i H W).2.2.set x.n ((dP n x i H W).1 : Int)))
  | 0, i, H, W, hd, c, hn, hi, x1, l2 => by omega
  | d + 1, i, H, W, hd, c, hn, hi, x1, l2 => by
    have r := Pv (u := u) (us := us) (fr := fr) (cap := cap) c hi hx x0 x1 hn l2
    by_cases h : 2 * i + 1 < n /\ less H[gN n H i]! x
    · rw [pp h] at r
      have kc := nO n H i
      have kn : gN n H i < n := by omega
      rw [aV r, xk hx x0 d (gN n H i) _ _ (by omega) (c.move hi kn _ _) (by rw [ut]; exact hn) kn (by rw [ut]; exact x1) (by rw [ut]; exact l2)]
      have e : dP n x i H W = dP n x (gN n H i) (H.set i H[gN n H i]!) (W.set (H[gN n H i]!).n (i : Int)) := by
        rw [dP, dif_pos h.1, pp h.2]
      rw [e]
    rw [rc h] at r
    rw [aH r]
    have e : dP n x i H W = (i, H, W) := by
      rw [dP]
      split
      · rename_i h1; rw [rc (fun k => h ⟨h1, k⟩)]
      rfl
    rw [e]
theorem Gy {c0 : List Int × List Bool × List Int × Nat × Nat × Int × Int × Int × Int × Int × Int × List Ev × List Int} {n cap : Nat} {u fr : List Int} {us : List Bool} {x : Ev} (hx : pD x) (x0 : 0 <= x.ix) :
    ∀ (i : Nat) (H : List Ev) (W : List Int), lY n H W -> (alt c0.2.2.2.2.2.2.2.2.2.2.2.1) = (alt H) -> i < n -> x.ix < (alt W) -> (alt c0.2.2.2.2.2.2.2.2.2.2.2.2) = (alt W) ->
      ay (eL c0) ((i : Int), H, W, u, us, fr, n, cap, x) = alX (cK n x i H W)
  | 0, H, W, c, hn, hi, x1, l2 => by
    have hb := c.hb
    have S0 := c.hn
    have dn := xk (u := u) (us := us) (fr := fr) (cap := cap) hx x0 n 0 H W (by omega) c hn hi x1 l2
    refine (aH (r := cK n x 0 H W) ?_)
    unfold eL
    have e1 : am2 ((0 : Int) < ((0 : Nat) : Int)) = am1 := by simp
    simp only [e1, ol, u9 (show 0 < 1000000000 by omega)]
    rw [dn]
    unfold cK
    rw [iD]
  | i + 1, H, W, c, hn, hi, x1, l2 => by
    have hb := c.hb
    have S0 := c.hn
    have e1 : am2 ((0 : Int) < ((i + 1 : Nat) : Int)) = am0 := decide_eq_true (by omega)
    have hp : i / 2 < n := by omega
    obtain ⟨D1, a1, a2⟩ := c.ev (i / 2) hp
    have g1 := fQ (l := H) (n := n) (i := i / 2) (by omega) c.hn
    have s1 : (bZ (u, us, fr, n, cap, ((i + 1 : Nat) : Int), (H[i / 2]!).1, (H[i / 2]!).2.1, (H[i / 2]!).2.2.1, (H[i / 2]!).2.2.2.1, (H[i / 2]!).2.2.2.2, H, W)) = alX (H.set (i + 1) H[i / 2]!, W.set (H[i / 2]!).n ((i + 1 : Nat) : Int)) := EJ (cap := cap) (by omega) c.hn a1 a2
    by_cases h : less x H[i / 2]!
    · have r : eL c0 (((i + 1 : Nat) : Int), H, W, u, us, fr, n, cap, x) = alX (.next (((i / 2 : Nat) : Int), H.set (i + 1) H[i / 2]!, W.set (H[i / 2]!).n ((i + 1 : Nat) : Int), u, us, fr, n, cap, x)) := by
        unfold eL
        simp only [e1, lw, rq (show i < 1000000000 by omega), g1, aj, dF hx D1, Dl, h, decide_true, s1]
      rw [aV r, Gy hx x0 (i / 2) _ _ (c.move hi hp _ _) (by rw [ut]; exact hn) hp (by rw [ut]; exact x1) (by rw [ut]; exact l2)]
      have e : iD x (i + 1) H W = iD x (i / 2) (H.set (i + 1) H[i / 2]!) (W.set (H[i / 2]!).n ((i + 1 : Nat) : Int)) := by
        rw [iD, pp h]
      unfold cK
      rw [e]
    have dn := xk (u := u) (us := us) (fr := fr) (cap := cap) hx x0 n (i + 1) H W (by omega) c hn hi x1 l2
    refine (aH (r := cK n x (i + 1) H W) ?_)
    unfold eL
    simp only [e1, lw, rq (show i < 1000000000 by omega), g1, aj, dF hx D1, Dl, h, decide_false, ol, u9 (show i + 1 < 1000000000 by omega)]
    rw [dn]
    unfold cK
    rw [iD, rc h]
termination_by i=>i
decreasing_by omega
theorem Pw {n cap:Nat} {u fr:List Int} {us:List Bool} {x:Ev} (hx:pD x) (x0:0<=x.ix) {i:Nat} {H:List Ev} {W:List Int} (c:lY n H W) (hi:i<n) (x1:x.ix<alt W):
 jy (u,us,fr,n,cap,(i:Int),x.1,x.2.1,x.2.2.1,x.2.2.2.1,x.2.2.2.2,H,W)=alX (cK n x i H W):=by
 unfold jy;exact Gy hx x0 i H W c rfl hi x1 rfl
theorem Gz {n cap:Nat} {H:List Ev} {W:List Int} {x:Ev} {u fr:List Int} {us:List Bool} {i k:Nat} (hi:i<n) (hk:k<n) (KV:k≠i) (hn:n<=alt H) (x0:0<=x.ix) (x1:x.ix<alt W) (k0:0<=(H[k]!).ix) (k1:(H[k]!).ix<alt W):
 fY (u,us,fr,n,cap,(i:Int),(k:Int),H.set i x,W.set x.n (i:Int))=alX ((H.set i H[k]!).set k x,(W.set (H[k]!).n (i:Int)).set x.n (k:Int)):=by
 have cell: ∀w,(H.set i x)[w]! =if w=i then x else H[w]!:=by
  intro w;rw [aX]
  by_cases e:w=i
  · rw [pp ⟨e,by omega⟩,pp e]
  rw [rc (fun k=>e k.1),rc e]
 have sh:((H.set i x).set i H[k]!).set k x=(H.set i H[k]!).set k x:=by rw [UV]
 have sw:((W.set x.n (i:Int)).set (H[k]!).n (i:Int)).set x.n (k:Int)=(W.set (H[k]!).n (i:Int)).set x.n (k:Int):=by
  by_cases e:x.n=(H[k]!).n
  · simp only [e,UV]
  rw [afX _ _ (fun h=>e h),UV]
 have g1:aJ ((H.set i x).take n) (k:Int)=alX H[k]!:=by rw [fQ (by omega) (by rw [ut];omega),cell,rc KV]
 have g2:aJ ((H.set i x).take n) (i:Int)=alX x:=by rw [fQ (by omega) (by rw [ut];omega),cell,pp rfl]
 have g3:aJ (((H.set i x).set i H[k]!).take n) (k:Int)=alX H[k]!:=by rw [fQ (by omega) (by rw [ut,ut];omega),aX,rc (fun h=>KV h.1),cell,rc KV]
 have g4:aJ (((H.set i H[k]!).set k x).take n) (i:Int)=alX H[k]!:=by rw [fQ (by omega) (by rw [ut,ut];omega),aX,rc (fun h=>KV h.1.symm),aX,pp ⟨rfl,by omega⟩]
 have g5:aJ (((H.set i H[k]!).set k x).take n) (k:Int)=alX x:=by rw [fQ (by omega) (by rw [ut,ut];omega),aX,pp ⟨rfl,by rw [ut];omega⟩]
 have w6:=dJ (l:=W.set x.n (i:Int)) k0 (by rw [ut];exact k1)
 have w7:=dJ (l:=(W.set x.n (i:Int)).set (H[k]!).n (i:Int)) x0 (by rw [ut,ut];exact x1)
 have q1: ∀(l:List Int) (a:Int) (y:Ev),cj l y.2.2.2.1 a=l.set y.n a:=fun _ _ _=>rfl
 unfold fY;simp only [lV,g1,g2,g3,aj,sh,g4,g5,q1,w6,w7,sw,ut,beq_self_eq_true,lw]
theorem V' {c0:List Int×List Bool×List Int×Nat×Nat×Int×List Ev×List Int} {n cap:Nat} {u fr:List Int} {us:List Bool} {x:Ev} (hx:pD x) (x0:0<=x.ix):
 ∀(i:Nat) (H:List Ev) (W:List Int),lY n H W->i<n->x.ix<alt W->alt c0.2.2.2.2.2.2.1=alt H->alt c0.2.2.2.2.2.2.2=alt W->
  ay (gD c0) ((i:Int),H.set i x,W.set x.n (i:Int),u,us,fr,n,cap)=alX (((iD x i H W).1:Int),(iD x i H W).2.1.set (iD x i H W).1 x,(iD x i H W).2.2.set x.n ((iD x i H W).1:Int))
 |0,H,W,c,hi,x1,l1,l2=>by
  have S0:=c.hn;refine aH ?_;unfold gD;have e1:am2 ((0:Int)<((0:Nat):Int))=am1:=by simp
  rw [iD];simp only [e1,ol,ut,l1,l2,beq_self_eq_true,lw]
 |i+1,H,W,c,hi,x1,l1,l2=>by
  have hb:=c.hb;have S0:=c.hn;have e1:am2 ((0:Int)<((i+1:Nat):Int))=am0:=decide_eq_true (by omega)
  have hp:i / 2<n:=by omega
  have ec:i / 2≠i+1:=by omega
  obtain ⟨D1,a1,a2⟩:=c.ev (i / 2) hp;have cell: ∀w,(H.set (i+1) x)[w]! =if w=i+1 then x else H[w]!:=by
   intro w;rw [aX]
   by_cases e:w=i+1
   · rw [pp ⟨e,by omega⟩,pp e]
   rw [rc (fun k=>e k.1),rc e]
  have g0:aJ ((H.set (i+1) x).take n) ((i+1:Nat):Int)=alX x:=by rw [fQ (by omega) (by rw [ut];omega),cell,pp rfl]
  have g1:aJ ((H.set (i+1) x).take n) ((i / 2:Nat):Int)=alX H[i / 2]!:=by rw [fQ (by omega) (by rw [ut];omega),cell,rc ec]
  by_cases h:less x H[i / 2]!
  · have sw:=Gz (cap:=cap) (u:=u) (us:=us) (fr:=fr) (x:=x) hi hp ec S0 x0 x1 a1 a2
    have r:gD c0 (((i+1:Nat):Int),H.set (i+1) x,W.set x.n ((i+1:Nat):Int),u,us,fr,n,cap)=alX (.next (((i / 2:Nat):Int),(H.set (i+1) H[i / 2]!).set (i / 2) x,(W.set (H[i / 2]!).n ((i+1:Nat):Int)).set x.n ((i / 2:Nat):Int),u,us,fr,n,cap)):=by
     unfold gD;simp only [e1,lw,rq (show i<1000000000 by omega),g0,g1,aj,mW hx D1,h,decide_true,sw]
    rw [aV r,V' hx x0 (i / 2) _ _ (c.move hi hp _ _) hp (by rw [ut];exact x1) (by rw [ut];exact l1) (by rw [ut];exact l2)]
    have e:iD x (i+1) H W=iD x (i / 2) (H.set (i+1) H[i / 2]!) (W.set (H[i / 2]!).n ((i+1:Nat):Int)):=by
     rw [iD,pp h]
    rw [e]
  refine aH ?_
  unfold gD;have e:iD x (i+1) H W=(i+1,H,W):=by rw [iD,rc h]
  rw [e];simp only [e1,lw,rq (show i<1000000000 by omega),g0,g1,aj,mW hx D1,h,decide_false,ol,ut,l1,l2,beq_self_eq_true]
termination_by i=>i
decreasing_by omega
theorem M0 {c0:List Int×List Bool×List Int×Nat×Nat×Int×List Ev×List Int} {n cap:Nat} {u fr:List Int} {us:List Bool} {x:Ev} (hx:pD x) (x0:0<=x.ix):
 ∀(d i:Nat) (H:List Ev) (W:List Int),n-i<=d->lY n H W->i<n->x.ix<alt W->alt c0.2.2.2.2.2.2.1=alt H->alt c0.2.2.2.2.2.2.2=alt W->
  ay (ju c0) ((i:Int),H.set i x,W.set x.n (i:Int),u,us,fr,n,cap)=alX (((dP n x i H W).2.1.set (dP n x i H W).1 x,(dP n x i H W).2.2.set x.n ((dP n x i H W).1:Int)))
 |0,i,H,W,hd,c,hi,x1,l1,l2=>by omega
 |d+1,i,H,W,hd,c,hi,x1,l1,l2=>by
  have hb:=c.hb;have S0:=c.hn;have cell: ∀w,(H.set i x)[w]! =if w=i then x else H[w]!:=by
   intro w;rw [aX]
   by_cases e:w=i
   · rw [pp ⟨e,by omega⟩,pp e]
   rw [rc (fun k=>e k.1),rc e]
  have Wa:(H.set i x).length=(alt H):=ut;have body:ju c0 ((i:Int),H.set i x,W.set x.n (i:Int),u,us,fr,n,cap)=alX (if 2*i+1<n/\less H[gN n H i]! x then .next (((gN n H i:Nat):Int),(H.set i H[gN n H i]!).set (gN n H i) x,(W.set (H[gN n H i]!).n (i:Int)).set x.n ((gN n H i:Nat):Int),u,us,fr,n,cap) else .done ((H.set i x,W.set x.n (i:Int)))):=by
   have k1:=u9 (show i<1000000000 by omega)
   unfold ju
   by_cases h1:2*i+1<n
   · have e1:am2 ((n:Int)<=((2*i+1:Nat):Int))=am1:=decide_eq_false (by omega)
     have e2:aa .i64 (((2*i+1:Nat):Int)+1)=((2*i+2:Nat):Int):=aT (by omega)
     obtain ⟨D1,a1,a2⟩:=c.ev (2*i+1) h1;have g0:aJ ((H.set i x).take n) (i:Int)=alX x:=by rw [fQ (by omega) (by rw [ut];omega),cell,pp rfl]
     have g1:aJ ((H.set i x).take n) ((2*i+1:Nat):Int)=alX H[2*i+1]!:=by rw [fQ (by omega) (by rw [ut];omega),cell,rc (by omega)]
     have s1:=Gz (cap:=cap) (u:=u) (us:=us) (fr:=fr) (x:=x) hi h1 (by omega) S0 x0 x1 a1 a2
     simp only [az,k1,Wa,e1,e2,ol,g0,g1,aj,mW D1 hx,s1,ut,l1,l2,beq_self_eq_true,lw]
     by_cases h2:2*i+2<n
     · have e3:am2 (((2*i+2:Nat):Int)<(n:Int))=am0:=decide_eq_true (by omega)
       obtain ⟨V9,b1,b2⟩:=c.ev (2*i+2) h2;have g2:aJ ((H.set i x).take n) ((2*i+2:Nat):Int)=alX H[2*i+2]!:=by rw [fQ (by omega) (by rw [ut];omega),cell,rc (by omega)]
       have s2:=Gz (cap:=cap) (u:=u) (us:=us) (fr:=fr) (x:=x) hi h2 (by omega) S0 x0 x1 b1 b2
       simp only [e3,lw,g2,aj,s2,mW V9 hx,mW V9 D1]
       by_cases h3:less H[2*i+2]! H[2*i+1]!
       · have k:gN n H i=2*i+2:=by unfold gN;rw [pp ⟨h2,h3⟩]
         rw [k]
         by_cases h4:less H[2*i+2]! x
         · simp only [h1,h3,h4,decide_true,lw,ol,If,and_self,if_true]
         simp only [h1,h3,h4,decide_true,decide_false,lw,EQ,and_false,if_false]
       have k:gN n H i=2*i+1:=by unfold gN;rw [rc (fun h=>h3 h.2)]
       rw [k]
       by_cases h4:less H[2*i+1]! x
       · simp only [h1,h3,h4,decide_true,decide_false,ol,If,and_self,if_true]
       simp only [h1,h3,h4,decide_false,lw,ol,EQ,and_false,if_false]
     have e3:am2 (((2*i+2:Nat):Int)<(n:Int))=am1:=decide_eq_false (by omega)
     have k:gN n H i=2*i+1:=by unfold gN;rw [rc (fun h=>h2 h.1)]
     rw [k];simp only [e3,ol]
     by_cases h4:less H[2*i+1]! x
     · simp only [h1,h4,decide_true,ol,If,and_self,if_true]
     simp only [h1,h4,decide_false,lw,EQ,and_false,if_false]
   have e1:am2 ((n:Int)<=((2*i+1:Nat):Int))=am0:=decide_eq_true (by omega)
   rw [rc (fun h=>h1 h.1)]
   simp only [az,k1,Wa,e1,lw,ut,l1,l2,beq_self_eq_true]
  by_cases h:2*i+1<n/\less H[gN n H i]! x
  · rw [pp h] at body
    have kc:=nO n H i;have kn:gN n H i<n:=by omega
    rw [aV body,M0 hx x0 d (gN n H i) _ _ (by omega) (c.move hi kn _ _) kn (by rw [ut];exact x1) (by rw [ut];exact l1) (by rw [ut];exact l2)]
    have e:dP n x i H W=dP n x (gN n H i) (H.set i H[gN n H i]!) (W.set (H[gN n H i]!).n (i:Int)):=by
     rw [dP,dif_pos h.1,pp h.2]
    rw [e]
  rw [rc h] at body
  rw [aH body];have e:dP n x i H W=(i,H,W):=by
   rw [dP];split
   · rename_i h1;rw [rc (fun k=>h ⟨h1,k⟩)]
   rfl
  rw [e]
theorem Cb {n:Nat} {H:List Ev} {W:List Int} {x:Ev} {u fr:List Int} {us:List Bool} {i k:Nat} (hi:i<n) (hk:k<n) (KV:k≠i) (hn:n=alt H) (x0:0<=x.ix) (x1:x.ix<alt W) (k0:0<=(H[k]!).ix) (k1:(H[k]!).ix<alt W):
 fB ((i:Int),(k:Int),u,us,fr,H.set i x,W.set x.n (i:Int))=alX (u,us,fr,(H.set i H[k]!).set k x,(W.set (H[k]!).n (i:Int)).set x.n (k:Int)):=by
 have cell: ∀w,(H.set i x)[w]! =if w=i then x else H[w]!:=by
  intro w;rw [aX]
  by_cases e:w=i
  · rw [pp ⟨e,by omega⟩,pp e]
  rw [rc (fun k=>e k.1),rc e]
 have sh:((H.set i x).set i H[k]!).set k x=(H.set i H[k]!).set k x:=by rw [UV]
 have sw:((W.set x.n (i:Int)).set (H[k]!).n (i:Int)).set x.n (k:Int)=(W.set (H[k]!).n (i:Int)).set x.n (k:Int):=by
  by_cases e:x.n=(H[k]!).n
  · simp only [e,UV]
  rw [afX _ _ (fun h=>e h),UV]
 have g1:aJ ((H.set i x)) (k:Int)=alX H[k]!:=by rw [ar _ _ (by rw [ut];omega),cell,rc KV]
 have g2:aJ ((H.set i x)) (i:Int)=alX x:=by rw [ar _ _ (by rw [ut];omega),cell,pp rfl]
 have g3:aJ (((H.set i x).set i H[k]!)) (k:Int)=alX H[k]!:=by rw [ar _ _ (by rw [ut,ut];omega),aX,rc (fun h=>KV h.1),cell,rc KV]
 have g4:aJ (((H.set i H[k]!).set k x)) (i:Int)=alX H[k]!:=by rw [ar _ _ (by rw [ut,ut];omega),aX,rc (fun h=>KV h.1.symm),aX,pp ⟨rfl,by omega⟩]
 have g5:aJ (((H.set i H[k]!).set k x)) (k:Int)=alX x:=by rw [ar _ _ (by rw [ut,ut];omega),aX,pp ⟨rfl,by rw [ut];omega⟩]
 have w6:=dJ (l:=W.set x.n (i:Int)) k0 (by rw [ut];exact k1)
 have w7:=dJ (l:=(W.set x.n (i:Int)).set (H[k]!).n (i:Int)) x0 (by rw [ut,ut];exact x1)
 have q1: ∀(l:List Int) (a:Int) (y:Ev),cj l y.2.2.2.1 a=l.set y.n a:=fun _ _ _=>rfl
 unfold fB;simp only [lV,g1,g2,g3,aj,sh,g4,g5,q1,w6,w7,sw,ut,beq_self_eq_true,lw]
theorem Wb {c0:Int×List Int×List Bool×List Int×List Ev×List Int} {n:Nat} {u fr:List Int} {us:List Bool} {x:Ev} (hx:pD x) (x0:0<=x.ix) (l3:(alt c0.2.1)=alt u) (l4:(alt c0.2.2.1)=alt us) (l5:(alt c0.2.2.2.1)=alt fr):
 ∀(i:Nat) (H:List Ev) (W:List Int),lY n H W->i<n->alt H=n->x.ix<alt W->alt c0.2.2.2.2.1=alt H->alt c0.2.2.2.2.2=alt W->
  ay (gE c0) ((i:Int),u,us,fr,H.set i x,W.set x.n (i:Int))=alX (((iD x i H W).1:Int),u,us,fr,(iD x i H W).2.1.set (iD x i H W).1 x,(iD x i H W).2.2.set x.n ((iD x i H W).1:Int))
 |0,H,W,c,hi,Rp,x1,l1,l2=>by
  have S0:=c.hn;refine aH ?_;unfold gE;have e1:am2 ((0:Int)<((0:Nat):Int))=am1:=by simp
  rw [iD];simp only [e1,ol,ut,l1,l2,l3,l4,l5,beq_self_eq_true,lw]
 |i+1,H,W,c,hi,Rp,x1,l1,l2=>by
  have hb:=c.hb;have S0:=c.hn;have e1:am2 ((0:Int)<((i+1:Nat):Int))=am0:=decide_eq_true (by omega)
  have hp:i / 2<n:=by omega
  have ec:i / 2≠i+1:=by omega
  obtain ⟨D1,a1,a2⟩:=c.ev (i / 2) hp;have cell: ∀w,(H.set (i+1) x)[w]! =if w=i+1 then x else H[w]!:=by
   intro w;rw [aX]
   by_cases e:w=i+1
   · rw [pp ⟨e,by omega⟩,pp e]
   rw [rc (fun k=>e k.1),rc e]
  have g0:aJ ((H.set (i+1) x)) ((i+1:Nat):Int)=alX x:=by rw [ar _ _ (by rw [ut];omega),cell,pp rfl]
  have g1:aJ ((H.set (i+1) x)) ((i / 2:Nat):Int)=alX H[i / 2]!:=by rw [ar _ _ (by rw [ut];omega),cell,rc ec]
  by_cases h:less x H[i / 2]!
  · have sw:=Cb (u:=u) (us:=us) (fr:=fr) (x:=x) hi hp ec Rp.symm x0 x1 a1 a2
    have r:gE c0 (((i+1:Nat):Int),u,us,fr,H.set (i+1) x,W.set x.n ((i+1:Nat):Int))=alX (.next (((i / 2:Nat):Int),u,us,fr,(H.set (i+1) H[i / 2]!).set (i / 2) x,(W.set (H[i / 2]!).n ((i+1:Nat):Int)).set x.n ((i / 2:Nat):Int))):=by
     unfold gE;simp only [e1,lw,rq (show i<1000000000 by omega),g0,g1,aj,mW hx D1,h,decide_true,sw]
    rw [aV r,Wb hx x0 l3 l4 l5 (i / 2) _ _ (c.move hi hp _ _) hp (by rw [ut];exact Rp) (by rw [ut];exact x1) (by rw [ut];exact l1) (by rw [ut];exact l2)]
    have e:iD x (i+1) H W=iD x (i / 2) (H.set (i+1) H[i / 2]!) (W.set (H[i / 2]!).n ((i+1:Nat):Int)):=by
     rw [iD,pp h]
    rw [e]
  refine aH ?_
  unfold gE;have e:iD x (i+1) H W=(i+1,H,W):=by rw [iD,rc h]
  rw [e];simp only [e1,lw,rq (show i<1000000000 by omega),g0,g1,aj,mW hx D1,h,decide_false,ol,ut,l1,l2,l3,l4,l5,beq_self_eq_true]
termination_by i=>i
decreasing_by omega
theorem M1 {c0:Int×List Int×List Bool×List Int×List Ev×List Int} {n:Nat} {u fr:List Int} {us:List Bool} {x:Ev} (hx:pD x) (x0:0<=x.ix) (l3:(alt c0.2.1)=alt u) (l4:(alt c0.2.2.1)=alt us) (l5:(alt c0.2.2.2.1)=alt fr):
 ∀(d i:Nat) (H:List Ev) (W:List Int),n-i<=d->lY n H W->i<n->alt H=n->x.ix<alt W->alt c0.2.2.2.2.1=alt H->alt c0.2.2.2.2.2=alt W->
  ay (jv c0) ((i:Int),u,us,fr,H.set i x,W.set x.n (i:Int))=alX ((u,us,fr,(dP n x i H W).2.1.set (dP n x i H W).1 x,(dP n x i H W).2.2.set x.n ((dP n x i H W).1:Int)))
 |0,i,H,W,hd,c,hi,Rp,x1,l1,l2=>by omega
 |d+1,i,H,W,hd,c,hi,Rp,x1,l1,l2=>by
  have hb:=c.hb;have S0:=c.hn;have cell: ∀w,(H.set i x)[w]! =if w=i then x else H[w]!:=by
   intro w;rw [aX]
   by_cases e:w=i
   · rw [pp ⟨e,by omega⟩,pp e]
   rw [rc (fun k=>e k.1),rc e]
  have Wa:(H.set i x).length=(alt H):=ut;have body:jv c0 ((i:Int),u,us,fr,H.set i x,W.set x.n (i:Int))=alX (if 2*i+1<n/\less H[gN n H i]! x then .next (((gN n H i:Nat):Int),u,us,fr,(H.set i H[gN n H i]!).set (gN n H i) x,(W.set (H[gN n H i]!).n (i:Int)).set x.n ((gN n H i:Nat):Int)) else .done ((u,us,fr,H.set i x,W.set x.n (i:Int)))):=by
   have k1:=u9 (show i<1000000000 by omega)
   unfold jv
   by_cases h1:2*i+1<n
   · have e1:am2 ((n:Int)<=((2*i+1:Nat):Int))=am1:=decide_eq_false (by omega)
     have e2:aa .i64 (((2*i+1:Nat):Int)+1)=((2*i+2:Nat):Int):=aT (by omega)
     obtain ⟨D1,a1,a2⟩:=c.ev (2*i+1) h1;have g0:aJ ((H.set i x)) (i:Int)=alX x:=by rw [ar _ _ (by rw [ut];omega),cell,pp rfl]
     have g1:aJ ((H.set i x)) ((2*i+1:Nat):Int)=alX H[2*i+1]!:=by rw [ar _ _ (by rw [ut];omega),cell,rc (by omega)]
     have s1:=Cb (u:=u) (us:=us) (fr:=fr) (x:=x) hi h1 (by omega) Rp.symm x0 x1 a1 a2
     simp only [az,k1,Wa,Rp,e1,e2,ol,g0,g1,aj,mW D1 hx,s1,ut,l1,l2,l3,l4,l5,beq_self_eq_true,lw]
     by_cases h2:2*i+2<n
     · have e3:am2 (((2*i+2:Nat):Int)<(n:Int))=am0:=decide_eq_true (by omega)
       obtain ⟨V9,b1,b2⟩:=c.ev (2*i+2) h2;have g2:aJ ((H.set i x)) ((2*i+2:Nat):Int)=alX H[2*i+2]!:=by rw [ar _ _ (by rw [ut];omega),cell,rc (by omega)]
       have s2:=Cb (u:=u) (us:=us) (fr:=fr) (x:=x) hi h2 (by omega) Rp.symm x0 x1 b1 b2
       simp only [e3,lw,g2,aj,s2,mW V9 hx,mW V9 D1]
       by_cases h3:less H[2*i+2]! H[2*i+1]!
       · have k:gN n H i=2*i+2:=by unfold gN;rw [pp ⟨h2,h3⟩]
         rw [k]
         by_cases h4:less H[2*i+2]! x
         · simp only [h1,h3,h4,decide_true,lw,ol,If,and_self,if_true]
         simp only [h1,h3,h4,decide_true,decide_false,lw,EQ,and_false,if_false]
       have k:gN n H i=2*i+1:=by unfold gN;rw [rc (fun h=>h3 h.2)]
       rw [k]
       by_cases h4:less H[2*i+1]! x
       · simp only [h1,h3,h4,decide_true,decide_false,ol,If,and_self,if_true]
       simp only [h1,h3,h4,decide_false,lw,ol,EQ,and_false,if_false]
     have e3:am2 (((2*i+2:Nat):Int)<(n:Int))=am1:=decide_eq_false (by omega)
     have k:gN n H i=2*i+1:=by unfold gN;rw [rc (fun h=>h2 h.1)]
     rw [k];simp only [e3,ol]
     by_cases h4:less H[2*i+1]! x
     · simp only [h1,h4,decide_true,ol,If,and_self,if_true]
     simp only [h1,h4,decide_false,lw,EQ,and_false,if_false]
   have e1:am2 ((n:Int)<=((2*i+1:Nat):Int))=am0:=decide_eq_true (by omega)
   rw [rc (fun h=>h1 h.1)]
   simp only [az,k1,Wa,Rp,e1,lw,ut,l1,l2,l3,l4,l5,beq_self_eq_true]
  by_cases h:2*i+1<n/\less H[gN n H i]! x
  · rw [pp h] at body
    have kc:=nO n H i;have kn:gN n H i<n:=by omega
    rw [aV body,M1 hx x0 l3 l4 l5 d (gN n H i) _ _ (by omega) (c.move hi kn _ _) kn (by rw [ut];exact Rp) (by rw [ut];exact x1) (by rw [ut];exact l1) (by rw [ut];exact l2)]
    have e:dP n x i H W=dP n x (gN n H i) (H.set i H[gN n H i]!) (W.set (H[gN n H i]!).n (i:Int)):=by
     rw [dP,dif_pos h.1,pp h.2]
    rw [e]
  rw [rc h] at body
  rw [aH body];have e:dP n x i H W=(i,H,W):=by
   rw [dP];split
   · rename_i h1;rw [rc (fun k=>h ⟨h1,k⟩)]
   rfl
  rw [e]
theorem Wc {n:Nat} {H:List Ev} {W:List Int} {x:Ev} {u fr:List Int} {us:List Bool} {i k:Nat} (hi:i<n) (hk:k<n) (KV:k≠i) (hn:n=alt H) (x0:0<=x.ix) (x1:x.ix<alt W) (k0:0<=(H[k]!).ix) (k1:(H[k]!).ix<alt W):
 mh (u,us,fr,(i:Int),(k:Int),H.set i x,W.set x.n (i:Int))=alX ((H.set i H[k]!).set k x,(W.set (H[k]!).n (i:Int)).set x.n (k:Int)):=by
 have cell: ∀w,(H.set i x)[w]! =if w=i then x else H[w]!:=by
  intro w;rw [aX]
  by_cases e:w=i
  · rw [pp ⟨e,by omega⟩,pp e]
  rw [rc (fun k=>e k.1),rc e]
 have sh:((H.set i x).set i H[k]!).set k x=(H.set i H[k]!).set k x:=by rw [UV]
 have sw:((W.set x.n (i:Int)).set (H[k]!).n (i:Int)).set x.n (k:Int)=(W.set (H[k]!).n (i:Int)).set x.n (k:Int):=by
  by_cases e:x.n=(H[k]!).n
  · simp only [e,UV]
  rw [afX _ _ (fun h=>e h),UV]
 have g1:aJ ((H.set i x)) (k:Int)=alX H[k]!:=by rw [ar _ _ (by rw [ut];omega),cell,rc KV]
 have g2:aJ ((H.set i x)) (i:Int)=alX x:=by rw [ar _ _ (by rw [ut];omega),cell,pp rfl]
 have g3:aJ (((H.set i x).set i H[k]!)) (k:Int)=alX H[k]!:=by rw [ar _ _ (by rw [ut,ut];omega),aX,rc (fun h=>KV h.1),cell,rc KV]
 have g4:aJ (((H.set i H[k]!).set k x)) (i:Int)=alX H[k]!:=by rw [ar _ _ (by rw [ut,ut];omega),aX,rc (fun h=>KV h.1.symm),aX,pp ⟨rfl,by omega⟩]
 have g5:aJ (((H.set i H[k]!).set k x)) (k:Int)=alX x:=by rw [ar _ _ (by rw [ut,ut];omega),aX,pp ⟨rfl,by rw [ut];omega⟩]
 have w6:=dJ (l:=W.set x.n (i:Int)) k0 (by rw [ut];exact k1)
 have w7:=dJ (l:=(W.set x.n (i:Int)).set (H[k]!).n (i:Int)) x0 (by rw [ut,ut];exact x1)
 have q1: ∀(l:List Int) (a:Int) (y:Ev),cj l y.2.2.2.1 a=l.set y.n a:=fun _ _ _=>rfl
 unfold mh;simp only [lV,g1,g2,g3,aj,sh,g4,g5,q1,w6,w7,sw,ut,beq_self_eq_true,lw]
theorem Wd {c0:List Int×List Bool×List Int×Int×List Ev×List Int} {n:Nat} {u fr:List Int} {us:List Bool} {x:Ev} (hx:pD x) (x0:0<=x.ix):
 ∀(i:Nat) (H:List Ev) (W:List Int),lY n H W->i<n->alt H=n->x.ix<alt W->alt c0.2.2.2.2.1=alt H->alt c0.2.2.2.2.2=alt W->
  ay (gF c0) ((i:Int),H.set i x,W.set x.n (i:Int),u,us,fr)=alX (((iD x i H W).1:Int),(iD x i H W).2.1.set (iD x i H W).1 x,(iD x i H W).2.2.set x.n ((iD x i H W).1:Int))
 |0,H,W,c,hi,Rp,x1,l1,l2=>by
  have S0:=c.hn;refine aH ?_;unfold gF;have e1:am2 ((0:Int)<((0:Nat):Int))=am1:=by simp
  rw [iD];simp only [e1,ol,ut,l1,l2,beq_self_eq_true,lw]
 |i+1,H,W,c,hi,Rp,x1,l1,l2=>by
  have hb:=c.hb;have S0:=c.hn;have e1:am2 ((0:Int)<((i+1:Nat):Int))=am0:=decide_eq_true (by omega)
  have hp:i / 2<n:=by omega
  have ec:i / 2≠i+1:=by omega
  obtain ⟨D1,a1,a2⟩:=c.ev (i / 2) hp;have cell: ∀w,(H.set (i+1) x)[w]! =if w=i+1 then x else H[w]!:=by
   intro w;rw [aX]
   by_cases e:w=i+1
   · rw [pp ⟨e,by omega⟩,pp e]
   rw [rc (fun k=>e k.1),rc e]
  have g0:aJ ((H.set (i+1) x)) ((i+1:Nat):Int)=alX x:=by rw [ar _ _ (by rw [ut];omega),cell,pp rfl]
  have g1:aJ ((H.set (i+1) x)) ((i / 2:Nat):Int)=alX H[i / 2]!:=by rw [ar _ _ (by rw [ut];omega),cell,rc ec]
  by_cases h:less x H[i / 2]!
  · have sw:=Wc (u:=u) (us:=us) (fr:=fr) (x:=x) hi hp ec Rp.symm x0 x1 a1 a2
    have r:gF c0 (((i+1:Nat):Int),H.set (i+1) x,W.set x.n ((i+1:Nat):Int),u,us,fr)=alX (.next (((i / 2:Nat):Int),(H.set (i+1) H[i / 2]!).set (i / 2) x,(W.set (H[i / 2]!).n ((i+1:Nat):Int)).set x.n ((i / 2:Nat):Int),u,us,fr)):=by
     unfold gF;simp only [e1,lw,rq (show i<1000000000 by omega),g0,g1,aj,mW hx D1,h,decide_true,sw]
    rw [aV r,Wd hx x0 (i / 2) _ _ (c.move hi hp _ _) hp (by rw [ut];exact Rp) (by rw [ut];exact x1) (by rw [ut];exact l1) (by rw [ut];exact l2)]
    have e:iD x (i+1) H W=iD x (i / 2) (H.set (i+1) H[i / 2]!) (W.set (H[i / 2]!).n ((i+1:Nat):Int)):=by
     rw [iD,pp h]
    rw [e]
  refine aH ?_
  unfold gF;have e:iD x (i+1) H W=(i+1,H,W):=by rw [iD,rc h]
  rw [e];simp only [e1,lw,rq (show i<1000000000 by omega),g0,g1,aj,mW hx D1,h,decide_false,ol,ut,l1,l2,beq_self_eq_true]
termination_by i=>i
decreasing_by omega
theorem aC {p:Prop} [Decidable p] (h: ¬p):decide p=am1:=decide_eq_false h
theorem aE {p:Prop} [Decidable p] (h:p):decide p=am0:=decide_eq_true h
theorem M3 (aA:List Int) (be:List Bool) (fr:List Int) (fl:List Bool) (h1:(alt aA)<=200) (h2:(alt be)=alt aA) (h3:(alt fl)=alt aA):
 ((∀i,i<alt aA->0<=aA[i]!/\aA[i]!<=1000000/\be[i]!≠fl[i]!/\(be[i]! =am0->1<=aA[i]!))->ay jN (((alt aA):Int),0,aA,be,fr,fl)=alX (.done 0))/\
 (¬(∀i,i<alt aA->0<=aA[i]!/\aA[i]!<=1000000/\be[i]!≠fl[i]!/\(be[i]! =am0->1<=aA[i]!))->ay jN (((alt aA):Int),0,aA,be,fr,fl)=alX (.done 8)):=by
 have key:=di (body:=jN) (fun i=>(((alt aA):Int),(i:Int),aA,be,fr,fl)) (alt aA) (fun i=> ¬(0<=aA[i]!/\aA[i]!<=1000000/\be[i]!≠fl[i]!/\(be[i]! =am0->1<=aA[i]!))) (r:= .done 8) (e:= .done 0) (fun i hi=>by
  have e1:am2 ((i:Int)<((alt aA):Int))=am0:=aE (by omega)
  unfold jN;simp only [e1,lw,ar aA i hi,ar be i (by omega),ar fl i (by omega),aj,aT (show i<1000000000 by omega)]
  generalize aA[i]! =u;generalize be[i]! =a;generalize fl[i]! =b
  by_cases a1:u<0
  · simp only [a1,decide_true,lw];exact ⟨fun _=>trivial,fun h=>absurd (v6.1 h).1 (by omega)⟩
  · by_cases a2:1000000<u
    · simp only [a1,a2,decide_true,decide_false,lw,ol];exact ⟨fun _=>trivial,fun h=>absurd (v6.1 h).2.1 (by omega)⟩
    simp only [a1,a2,decide_false,ol]
    by_cases a3:u<1
    · cases a<;>cases b<;>simp [a3]<;>omega
    cases a<;>cases b<;>simp [a3]<;>omega) (by
  unfold jN
  have:am2 (((alt aA):Int)<((alt aA):Int))=am1:=aC (by omega)
  simp only [this,ol])
 constructor
 · intro h
   exact key.2 fun i hi=>v6.2 (h i hi)
 intro h
 obtain ⟨i,h⟩:=F0s.1 h;obtain ⟨hi,hx⟩:=ae4.1 h;exact key.1 ⟨i,hi,hx⟩
theorem GA {α:Type} {n:Nat} (z:α) (h:n<=1048576):sF (n:Int) z=alX (ww n z):=by
 unfold sF;rw [pp ⟨by omega,by omega⟩]
 simp
theorem GB (s:bg) (hf:(alt s.bi)<=1000000):uw s=alX (if eO s then 0 else 8):=by
 obtain ⟨aA,be,fr⟩:=s;dsimp only at hf;unfold uw;simp only [az]
 by_cases a1:(alt aA)<1
 · have e:am2 (((alt aA):Int)<1)=am0:=aE (by omega)
   rw [e,rc (fun h=>by have:=h.n1;dsimp only at this;omega)];rfl
 have e1:am2 (((alt aA):Int)<1)=am1:=aC (by omega)
 by_cases a2:200<alt aA
 · have e:am2 (200<((alt aA):Int))=am0:=aE (by omega)
   rw [e1,e,rc (fun h=>by have:=h.n2;dsimp only at this;omega)];rfl
 have e2:am2 (200<((alt aA):Int))=am1:=aC (by omega)
 by_cases a3:(alt be)=alt aA
 case neg=>
  have e:(((alt be):Int) !=((alt aA):Int))=am0:=cz (by omega)
  rw [e1,e2,e,rc (fun h=>a3 h.ul)];rfl
 have e3:(((alt be):Int) !=((alt aA):Int))=am1:=bu (by omega)
 by_cases a4:(alt aA)<alt fr
 · have e:am2 (((alt aA):Int)<((alt fr):Int))=am0:=aE (by omega)
   rw [e1,e2,e3,e,rc (fun h=>by have:=h.fl;dsimp only at this;omega)];rfl
 have e4:am2 (((alt aA):Int)<((alt fr):Int))=am1:=aC (by omega)
 simp only [e1,e2,e3,e4,ol,beq_self_eq_true,lw,GA am1 (show (alt aA)<=1048576 by omega),aj]
 have ml: ∀k,(marks (ww (alt aA) am1) (fr.take k)).length=(alt aA):=fun k=>by rw [mv,PP]
 have ml':(marks (ww (alt aA) am1) fr).length=(alt aA):=by rw [mv,PP]
 have rep: ∀i:Nat,(ww (alt aA) am1)[i]! =am1:=by
  intro i
  by_cases h:i<alt aA
  · rw [getElem!_pos _ i (by simpa using h),List.getElem_replicate]
  rw [getElem!_neg _ i (by simpa using h)];rfl
 have Gq:=M3 aA be fr (marks (ww (alt aA) am1) fr) (by omega) a3 ml'
 have key:=di (body:=oI) (fun k=>(((alt aA):Int),(k:Int),aA,be,fr,marks (ww (alt aA) am1) (fr.take k))) (alt fr)
  (fun k=>fr[k]!<0\/((alt aA):Int)<=fr[k]!\/(marks (ww (alt aA) am1) (fr.take k))[(fr[k]!).toNat]! =am0) (r:=8)
  (e:=if (∀i,i<alt aA->0<=aA[i]!/\aA[i]!<=1000000/\be[i]!≠(marks (ww (alt aA) am1) fr)[i]!/\(be[i]! =am0->1<=aA[i]!)) then 0 else 8) (fun k hk=>by
   have f1:am2 ((k:Int)<((alt fr):Int))=am0:=aE (by omega)
   have f5:marks (ww (alt aA) am1) (fr.take (k+1))=cj (marks (ww (alt aA) am1) (fr.take k)) fr[k]! am0:=by rw [dC hk,A4]
   unfold oI;simp only [az,f1,lw,ar fr k hk,aj,aT (show k<1000000000 by omega),f5]
   clear f5;generalize fr[k]! =x
   by_cases b1:x<0
   · simp [b1]
   · by_cases b2:((alt aA):Int)<=x
     · simp [b1,b2]
     simp only [b1,b2,decide_false,ol,false_or]
     rw [dJ (l:=marks (ww (alt aA) am1) (fr.take k)) (i:=x) (by omega) (by rw [ml];omega)]
     simp only [aj];cases (marks (ww (alt aA) am1) (fr.take k))[x.toNat]!<;>simp) (by
   have f1:am2 (((alt fr):Int)<((alt fr):Int))=am1:=aC (by omega)
   unfold oI;simp only [az,f1,ol,agp]
   by_cases hx:(∀i,i<alt aA->0<=aA[i]!/\aA[i]!<=1000000/\be[i]!≠(marks (ww (alt aA) am1) fr)[i]!/\(be[i]! =am0->1<=aA[i]!))
   · rw [pp hx];exact Gq.1 hx
   rw [rc hx];exact Gq.2 hx)
 have h0:marks (ww (alt aA) am1) (fr.take 0)=ww (alt aA) am1:=rfl;rw [show ((0:Nat):Int)=0 from rfl,h0] at key
 by_cases bad: ∃k,k<alt fr/\(fr[k]!<0\/((alt aA):Int)<=fr[k]!\/(marks (ww (alt aA) am1) (fr.take k))[(fr[k]!).toNat]! =am0)
 · rw [key.1 bad,rc]
   intro ok;obtain ⟨k,hk,hb⟩:=bad;have hr:=ok.fr fr[k]! (aW hk);dsimp only at hr;rcases hb with hb|hb|hb
   · omega
   · omega
   rw [nN _ _ _ (fun x hx=>(ok.fr x (adc hx)).1) (by rw [PP];omega),rep,afY] at hb
   have hi:((fr[k]!).toNat:Int)=fr[k]!:=by omega
   rw [hi] at hb;have hm:fr[k]!∈fr.take k:=of_decide_eq_true hb;obtain ⟨j,h1,h2,h3⟩:=cm.1 hm;exact gM.1 ok.fd j k h1 hk h3
 have Ps: ∀k,k<alt fr->0<=fr[k]!/\fr[k]!<alt aA/\(marks (ww (alt aA) am1) (fr.take k))[(fr[k]!).toNat]! =am1:=by
  intro k hk;refine ⟨?_,?_,?_⟩
  · exact Int.not_lt.1 fun h=>bad ⟨k,hk,.inl h⟩
  · exact Int.not_le.1 fun h=>bad ⟨k,hk,.inr (.inl h)⟩
  exact afB _▸fun h=>bad ⟨k,hk,.inr (.inr h)⟩
 rw [key.2 fun k hk hb=>bad ⟨k,hk,hb⟩]
 have NU: ∀x∈fr,0<=x/\x<((alt aA):Int):=by
  intro x hx;obtain ⟨k,hk,rfl⟩:=aS.1 hx;exact ⟨(Ps k hk).1,(Ps k hk).2.1⟩
 have g2: ∀k,k<alt fr->fr[k]!∉fr.take k:=by
  intro k hk;obtain ⟨c1,c2,c3⟩:=Ps k hk;rw [nN _ _ _ (fun x hx=>(NU x (adc hx)).1) (by rw [PP];omega),show ((fr[k]!).toNat:Int)=fr[k]! by omega,rep,afY] at c3
  exact of_decide_eq_false c3
 have nd:fr.Nodup:=gM.2 fun i j lq hj he=>g2 j hj (cm.2 ⟨i,lq,by omega,he⟩)
 have fl: ∀i,i<alt aA->(marks (ww (alt aA) am1) fr)[i]! =am2 ((i:Int)∈fr):=by
  intro i hi;rw [nN _ _ _ (fun x hx=>(NU x hx).1) (by rw [PP];omega),rep,afY]
 by_cases hx:(∀i,i<alt aA->0<=aA[i]!/\aA[i]!<=1000000/\be[i]!≠(marks (ww (alt aA) am1) fr)[i]!/\(be[i]! =am0->1<=aA[i]!))
 · rw [pp hx,pp]
   refine ⟨by show 1<=alt aA;omega,by show (alt aA)<=200;omega,a3,NU,nd,fun i hi=>?_,fun i hi=>?_⟩
   · have:=(hx i hi).2.2.1
     rw [fl i hi] at this;dsimp only;cases h:be[i]! with
     |true=>
      rw [h] at this;refine ⟨fun _ hm=>?_,fun _=>rfl⟩
      rw [aE hm] at this;exact this rfl
     |false=>
      rw [h] at this;refine ⟨fun h=>(by cases h),fun hm=>?_⟩
      rw [aC hm] at this;exact absurd rfl this
   have:=hx i hi
   exact ⟨this.1,this.2.1,this.2.2.2⟩
 rw [rc hx,rc]
 intro ok;refine hx fun i hi=>?_
 obtain ⟨u1,u2,u3⟩:=ok.us i hi;refine ⟨u1,u2,?_,u3⟩;rw [fl i hi]
 have:=ok.uf i hi
 dsimp only at this;intro he
 by_cases hm:(i:Int)∈fr
 · rw [aE hm] at he;exact (this.1 he) hm
 rw [aC hm] at he
 have:=this.2 hm
 rw [he] at this;cases this
structure yJ (a:aL):Prop where
 fr:(alt a.ai.bi)<=1000000
 hp:(alt a.bv)<=1000000
 wh:(alt a.aq)<=1000000
 Px: ∀w,w<alt a.bv->nm ((a.bv[w]!).1,(a.bv[w]!).2.1)
structure eT (a:aL):Prop where
 so:eO a.ai
 wl:(alt a.aq)=alt a.ai.aA
 hl:(alt a.bv)+alt a.ai.bi=alt a.ai.aA
 fwd: ∀i,i<alt a.ai.aA->a.ai.be[i]! =am0->0<=a.aq[i]!/\a.aq[i]!<alt a.bv/\(Ev.ix a.bv[(a.aq[i]!).toNat]!)=i/\(a.bv[(a.aq[i]!).toNat]!).2.2.2.2=a.ai.aA[i]!
 un: ∀i,i<alt a.ai.aA->a.ai.be[i]! =am1->a.aq[i]! = -1
 ev: ∀w,w<alt a.bv->pD a.bv[w]!
 nd: ∀v w,v<w->w<alt a.bv->(Ev.num a.bv[v]!)≠(Ev.num a.bv[w]!)
 ord: ∀k,0<k->k<alt a.bv-> ¬less a.bv[k]! a.bv[(k-1) / 2]!
theorem cover: ∀(n:Nat) (l:List Nat),(∀x,x<n->x∈l)->n<=alt l
 |0,_,_=>Nat.zero_le _
 |n+1,l,h=>by
  have hn:=h n (by omega)
  have:=cover n (l.erase n) (fun x hx=>by
   rw [List.mem_erase_of_ne (by omega)]
   exact h x (by omega))
  rw [List.length_erase_of_mem hn] at this
  have:=List.length_pos_of_mem hn
  omega
def IK (s:bg):List Nat:=(List.range (alt s.aA)).filter fun i=>s.be[i]!
theorem zE {s:bg} {i:Nat}:i∈IK s↔i<alt s.aA/\s.be[i]! =am0:=by
 unfold IK;rw [agE,List.mem_range]
theorem zF {α β:Type} {f:α->β}: ∀{l:List α},l.Nodup->(∀x∈l,∀y∈l,f x=f y->x=y)->(l.map f).Nodup
 | [],_,_=>by simp
 |a::l,h,hf=>by
  rw [ae8] at h;rw [List.map_cons,ae8];refine ⟨?_,zF h.2 fun x hx y hy=>hf x (by simp [hx]) y (by simp [hy])⟩
  intro hm;obtain ⟨b,hb,e⟩:=acl.1 hm
  have:=hf b (by simp [hb]) a (by simp) e
  subst this;exact h.1 hb
theorem eT.back {a:aL} (ok:eT a) {w:Nat} (hw:w<alt a.bv):0<=(Ev.ix a.bv[w]!)/\(Ev.ix a.bv[w]!)<alt a.ai.aA/\a.ai.be[(Ev.n a.bv[w]!)]! =am0/\a.ai.aA[(Ev.n a.bv[w]!)]! =(a.bv[w]!).2.2.2.2/\a.aq[(Ev.n a.bv[w]!)]! =(w:Int):=by
 have so:=ok.so;have len:(alt a.ai.aA)<=(IK a.ai).length+(alt a.ai.bi):=by
  have:=cover (alt a.ai.aA) (IK a.ai++a.ai.bi.map akb) (fun x hx=>by
   rw [afI]
   by_cases hu:a.ai.be[x]! =am0
   · exact .inl (zE.2 ⟨hx,hu⟩)
   right
   have:=so.uf x hx
   have hm:(x:Int)∈a.ai.bi:=IR fun hc=>hu (this.2 hc)
   exact acl.2 ⟨_,hm,by omega⟩)
  rw [List.length_append,ae9] at this;exact this
 have f0: ∀i∈IK a.ai,0<=a.aq[i]!/\a.aq[i]!<alt a.bv/\(Ev.ix a.bv[(a.aq[i]!).toNat]!)=i/\(a.bv[(a.aq[i]!).toNat]!).2.2.2.2=a.ai.aA[i]!:=fun i hi=>ok.fwd i (zE.1 hi).1 (zE.1 hi).2
 have full:=DY (n:=alt a.bv) (l:=(IK a.ai).map fun i=>(a.aq[i]!).toNat) (by
  refine zF ?_ ?_
  · exact List.Pairwise.filter _ List.nodup_range
  · intro x hx y hy he
    have h1:=(f0 x hx).2.2.1;have h2:=(f0 y hy).2.2.1;rw [he] at h1
    omega) (by
  intro x hx;obtain ⟨i,hi,rfl⟩:=acl.1 hx
  have:=f0 i hi
  omega) (by
  rw [ae9]
  have:=ok.hl
  omega) w hw
 obtain ⟨i,hi,e⟩:=acl.1 full;obtain ⟨c1,c2,c3,c4⟩:=f0 i hi;obtain ⟨d1,d2⟩:=zE.1 hi;rw [e] at c3 c4;have hn:(Ev.n a.bv[w]!)=i:=by show ((Ev.ix a.bv[w]!)).toNat=i;omega
 rw [hn];refine ⟨by omega,by omega,d2,c4.symm,by omega⟩
noncomputable def Py (x y:Ev):Int:=if bX (x.1,x.2.1)/\bX (y.1,y.2.1) then Gv x y else js x.2.2.1 y.2.2.1
theorem A6 {x y:Ev} (hx:nm (x.1,x.2.1)) (hy:nm (y.1,y.2.1)):cD x y=alX (Py x y):=by
 unfold cD Py Gv;rw [V1 hx hy]
 by_cases h:bX (x.1,x.2.1)/\bX (y.1,y.2.1)
 · rw [pp h,pp h]
   simp only [aj,jQ,zB]
 rw [rc h,rc h]
 simp only [aj,jQ,zB];simp
def GC (a:aL) (i:Nat):Prop:=(a.ai.be[i]! =am0->0<=a.aq[i]!/\a.aq[i]!<alt a.bv/\(Ev.ix a.bv[(a.aq[i]!).toNat]!)=i/\(a.bv[(a.aq[i]!).toNat]!).2.2.2.2=a.ai.aA[i]!)/\(a.ai.be[i]! =am1->a.aq[i]! = -1)
def HK (H:List Ev) (k:Nat):Prop:=bX ((H[k]!).1,(H[k]!).2.1)/\0<=(H[k]!).2.2.1/\(H[k]!).2.2.1<=1000000/\(∀j,j<k->(H[j]!).2.2.1≠(H[k]!).2.2.1)/\(0<k-> ¬Py H[k]! H[(k-1) / 2]!<0)
theorem eT.of {a:aL} (fit:yJ a) (so:eO a.ai) (wl:(alt a.aq)=alt a.ai.aA) (hl:(alt a.bv)+alt a.ai.bi=alt a.ai.aA) (wh: ∀i,i<alt a.ai.aA->GC a i) (hp: ∀k,k<alt a.bv->HK a.bv k):eT a:=by
 have ev: ∀w,w<alt a.bv->pD a.bv[w]!:=fun w hw=>⟨(hp w hw).1,fit.Px w hw,(hp w hw).2.1,(hp w hw).2.2.1⟩
 refine ⟨so,wl,hl,fun i hi=>(wh i hi).1,fun i hi=>(wh i hi).2,ev,fun v w hv hw=>(hp w hw).2.2.2.1 v hv,fun k k0 hk=>?_⟩
 have:=(hp k hk).2.2.2.2 k0
 unfold Py at this;rw [pp ⟨(hp k hk).1,(hp ((k-1) / 2) (by omega)).1⟩,Ca] at this
 exact this
theorem eT.to {a:aL} (ok:eT a):(∀i,i<alt a.ai.aA->GC a i)/\(∀k,k<alt a.bv->HK a.bv k):=by
 refine ⟨fun i hi=>⟨ok.fwd i hi,ok.un i hi⟩,fun k hk=>?_⟩
 have e:=ok.ev k hk;refine ⟨e.1,e.2.2.1,e.2.2.2,fun j hj=>ok.nd j k hj hk,fun k0=>?_⟩
 unfold Py;rw [pp ⟨e.1,(ok.ev ((k-1) / 2) (by omega)).1⟩,Ca]
 exact ok.ord k k0 hk
theorem IL (H:List Ev) (k:Nat) (n:Int):om [n] ((H.take k).map fun x=>[x.2.2.1])=am0:=by
 unfold om;rw [List.all_eq_true];intro x hx;obtain ⟨y,hy,rfl⟩:=acl.1 hx;rfl
theorem IM (H:List Ev) (k:Nat) (n:Int):Ed ((H.take k).map fun x=>[x.2.2.1]) [n]=am2 (∃j,j<k/\j<alt H/\(H[j]!).2.2.1=n):=by
 unfold Ed;rw [Bool.eq_iff_iff,List.any_eq_true,decide_eq_true_iff];constructor
 · rintro ⟨x,hx,he⟩
   obtain ⟨y,hy,rfl⟩:=acl.1 hx;obtain ⟨j,h1,h2,rfl⟩:=cm.1 hy
   have:[n]=[(H[j]!).2.2.1]:=by simpa using he
   exact ⟨j,h1,h2,by injection this with h;exact h.symm⟩
 rintro ⟨j,h1,h2,h3⟩
 refine ⟨[(H[j]!).2.2.1],acl.2 ⟨H[j]!,cm.2 ⟨j,h1,h2,rfl⟩,rfl⟩,?_⟩;rw [h3];simp
theorem Kz (H:List Ev) (u fr W:List Int) (us:List Bool) (hl:(alt H)<=1000000) (qc: ∀w,w<alt H->nm ((H[w]!).1,(H[w]!).2.1)):
 ((∀k,k<alt H->HK H k)->ay iN (H,((alt H):Int),0,u,us,fr,H,W,[])=alX (.done 0))/\(¬(∀k,k<alt H->HK H k)->ay iN (H,((alt H):Int),0,u,us,fr,H,W,[])=alX (.done 8)):=by
 have key:=di (body:=iN) (fun k=>(H,((alt H):Int),(k:Int),u,us,fr,H,W,(H.take k).map fun x=>[x.2.2.1])) (alt H) (fun k=> ¬HK H k) (r:= .done 8) (e:= .done 0) (fun k hk=>by
  have e1:am2 ((k:Int)<((alt H):Int))=am0:=aE (by omega)
  have ins: ∀n:Int,¬(∃j,j<k/\j<alt H/\(H[j]!).2.2.1=n)->LO ((H.take k).map fun x=>[x.2.2.1]) [n]=alX (((H.take k).map fun x=>[x.2.2.1])++[[n]]):=by
   intro n hn;unfold LO Ox;rw [IL,IM,aC hn];rfl
  have has: ∀n:Int,LN ((H.take k).map fun x=>[x.2.2.1]) [n]=alX (am2 (∃j,j<k/\j<alt H/\(H[j]!).2.2.1=n)):=by
   intro n;unfold LN;rw [IL,IM];rfl
  have nx:(H.take (k+1)).map (fun x=>[x.2.2.1])=((H.take k).map fun x=>[x.2.2.1])++[[(H[k]!).2.2.1]]:=by
   rw [dC hk,List.map_append];rfl
  unfold iN;simp only [e1,lw,ar H k hk,aj,ff (qc k hk),aT (show k<1000000000 by omega),has,nx]
  unfold HK
  by_cases b1:bX ((H[k]!).1,(H[k]!).2.1)
  case neg=>
   rw [rc b1];exact ⟨fun _=>rfl,fun h=>absurd (v6.1 h).1 b1⟩
  rw [pp b1]
  by_cases b2:(H[k]!).2.2.1<0
  · rw [aE b2]
    exact ⟨fun _=>rfl,fun h=>absurd (v6.1 h).2.1 (by omega)⟩
  by_cases b3:1000000<(H[k]!).2.2.1
  · rw [aC b2,aE b3]
    exact ⟨fun _=>rfl,fun h=>absurd (v6.1 h).2.2.1 (by omega)⟩
  rw [aC b2,aC b3]
  by_cases b4: ∃j,j<k/\j<alt H/\(H[j]!).2.2.1=(H[k]!).2.2.1
  · rw [aE b4]
    refine ⟨fun _=>rfl,fun h=>?_⟩
    obtain ⟨j,j1,j2,j3⟩:=b4;exact absurd j3 ((v6.1 h).2.2.2.1 j j1)
  rw [aC b4,ins _ b4];have b4': ∀j,j<k->(H[j]!).2.2.1≠(H[k]!).2.2.1:=fun j hj he=>b4 ⟨j,hj,by omega,he⟩
  simp only [show ((0:Int) !=0)=am1 from rfl,ol,aj]
  by_cases b5:0<k
  · obtain ⟨m,rfl⟩: ∃m,k=m+1:=⟨k-1,by omega⟩
    have f1:am2 ((0:Int)<((m+1:Nat):Int))=am0:=aE (by omega)
    simp only [f1,lw,rq (show m<1000000000 by omega),ar H (m / 2) (by omega),aj,A6 (qc (m+1) hk) (qc (m / 2) (by omega)),show (m+1-1) / 2=m / 2 by omega]
    by_cases b6:Py H[m+1]! H[m / 2]!<0
    · rw [aE b6]
      exact ⟨fun _=>rfl,fun h=>absurd b6 ((v6.1 h).2.2.2.2 (by omega))⟩
    rw [aC b6]
    exact ⟨fun h=>absurd ⟨b1,by omega,by omega,b4',fun _=>b6⟩ h,fun _=>rfl⟩
  · have f1:am2 ((0:Int)<(k:Int))=am1:=aC (by omega)
    rw [f1];exact ⟨fun h=>absurd ⟨b1,by omega,by omega,b4',fun h=>absurd h b5⟩ h,fun _=>rfl⟩) (by
  unfold iN
  have:am2 (((alt H):Int)<((alt H):Int))=am1:=aC (by omega)
  simp only [this,ol])
 constructor
 · intro h
   exact key.2 fun i hi=>v6.2 (h i hi)
 intro h
 obtain ⟨i,h⟩:=F0s.1 h;obtain ⟨hi,hx⟩:=ae4.1 h;exact key.1 ⟨i,hi,hx⟩
end Go.Proofs.YtbgoiokedpjgbaaGreat
