/- Plain laws (1). -/
import Derived.Test.YtbgoiokedpjgbaaGreatLVm3
import Derived.Test.YtbgoiokedpjgbaaGreatLVm1
import Derived.Test.YtbgoiokedpjgbaaGreatLQS2
open List renaming length_set->ut,replicate->ww,length_replicate->PP,set_set->UV,mem_map->acK,mem_of_mem_take->adc,length_take->ae0,nodup_cons->aev,length_map->aew,mem_singleton->aeE,getElem?_eq_getElem->aeZ,mem_append->af5,set_comm->afm,length_cons->afu,take_length->afv,mem_filter->afO,mem_cons->age,length->ajC
open Classical renaming not_not->v6,not_forall->F0s,byContradiction->IR,not_imp->aet
open Option.some renaming injEq->AC
open Nat renaming gcd->Do,gcd_comm->aem,gcd_dvd_right->aeJ,gcd_pos_of_pos_right->af0,le_refl->af9,mul_div_cancel'->afe,gcd_zero_right->afo,gcd_dvd_left->aft,strongRecOn->afA,div_le_self->afI,le_trans->ajB
open Bool renaming not_false->EQ,not_true->If,not_eq_true->af3,or_eq_false_iff->afc,false_or->afn,false_eq_true->afp,true->ajE,false->al2
open Int renaming mul_le_mul_of_nonneg_right->M2,ofNat->NE,mul_neg_of_neg_of_pos->ae3,eq_ofNat_of_zero_le->ae5,neg_mul->aeu,mul_comm->aex,mul_lt_mul_of_pos_right->aeA,fdiv_eq_ediv_of_nonneg->aeB,mul_le_mul->aeC,tdiv_eq_ediv_of_nonneg->aeD,lt_of_mul_lt_mul_right->aeF,lt_trichotomy->aeH,mul_nonneg->afa,tdiv->afb,natCast_mul->afK,ofNat_tmod->afX,ofNat_tdiv->afY,mul_assoc->agd,toNat->aig
open Prod.mk renaming injEq->acl
open Option renaming some->ajD
open Decidable renaming decide->al7
namespace Go.Vm
instance lpN:LP:=⟨none⟩
section
variable {σ ρ : Type}
theorem aX {body:σ->Option (Step σ ρ)} {x:σ} {r:ρ}:ax body x=ajD r↔ ∃n,p7 body n x=ajD r:=C4
theorem aZ {body:σ->Option (Step σ ρ)} {x y:σ} (h:body x=ajD (.next y)):ax body x=ax body y:=by
 apply Option.ext;intro r;rw [aX,aX];constructor
 · rintro ⟨n,hn⟩
   cases n with
   |zero=>cases hn
   |succ n=>simp only [p7,h] at hn;exact ⟨n,hn⟩
 rintro ⟨n,hn⟩
 exact ⟨n+1,by simp only [p7,h];exact hn⟩
theorem aJ {body:σ->Option (Step σ ρ)} {x:σ} {r:ρ} (h:body x=ajD (.done r)):ax body x=ajD r:=
 aX.2 ⟨1,by simp only [p7,h]⟩
end
end Go.Vm
namespace Go.Proofs.YtbgoiokedpjgbaaGreat
open Go.Vm
structure zx where
 jp:aP
 bv:List Int
noncomputable def oy (s:((List Int)×Int×Int)):Option (Step ((List Int)×Int×Int) Int):=
 bif al7 (s.2.2<(NE (ajC s.1))) then
  (aI s.1 s.2.2).bind fun n0=>
  bif n0==s.2.1 then
   ajD (.done s.2.2)
  else
   ajD (.next (s.1,s.2.1,ae .i64 (s.2.2+1)))
 else
  ajD (.done (-1))
noncomputable def Md (p0:List Int) (p1:Int):Option Int:=
 ax oy (p0,p1,0)
noncomputable def ie (s:(Int×Int×(List (Int×Int×Int))×(List (Int×Int×Int)))):Option (Step (Int×Int×(List (Int×Int×Int))×(List (Int×Int×Int))) Field):=
 bif al7 (s.2.1<(NE (ajC s.2.2.1))) then
  (aI s.2.2.1 s.2.1).bind fun a0=>
  bif a0.1 !=s.1 then
   (aI s.2.2.1 s.2.1).bind fun a1=>
   (bq s.2.2.2 [a1]).bind fun l2=>
   ajD (.next (s.1,ae .i64 (s.2.1+1),s.2.2.1,l2))
  else
   ajD (.next (s.1,ae .i64 (s.2.1+1),s.2.2))
 else
  ajD (.done (Field.mk s.2.2.2))
noncomputable def zy (p0:Field) (p1:Int):Option Field:=
 ax ie (p1,0,p0.am,[])
noncomputable def wc (p0:Field) (p1:Int):Option (Field×Int):=
 (gf p0).bind fun n0=>
 bif n0 !=0 then
  ajD (Field.mk [],n0)
 else
  (fE p0 p1).bind fun n1=>
  bif al7 (n1<0) then
   ajD (Field.mk [],6)
  else
   (zy p0 p1).bind fun r2=>
   ajD (r2,0)
structure auu where
 lc:Int
 lm:List (Int×Int×Int)
structure CA where
 jp:aP
 ls:auu
noncomputable def zz (p0:Int×Int×Int) (p1:List (Int×Int)):Option Bool:=
 (eh p1 p0.2).bind fun b0=>
 ajD (!b0)
noncomputable def bJ (s:((List (Int×Int×Int))×(List (Int×Int))×Int×Int)):Option (Step ((List (Int×Int×Int))×(List (Int×Int))×Int×Int) Int):=
 bif al7 (s.2.2.2<s.2.2.1) then
  (aI s.1 s.2.2.2).bind fun a0=>
  (zz a0 s.2.1).bind fun b1=>
  bif b1 then
   ajD (.done s.2.2.2)
  else
   ajD (.next (s.1,s.2.1,s.2.2.1,ae .i64 (s.2.2.2+1)))
 else
  ajD (.done (-1))
noncomputable def gP (p0:List (Int×Int×Int)) (p1:(List (Int×Int))):Option Int:=
 ax bJ (p0,p1,NE (ajC p0),0)
noncomputable def fY (p0:List (Int×Int×Int)) (p1:(List (Int×Int))):Option Bool:=
 (gP p0 p1).bind fun n0=>
 ajD (al7 (0<=n0))
noncomputable def xZ (p0:aP) (p1:List (Int×Int)):Option Bool:=
 bif (NE (ajC p1))==(NE (ajC p0.ai.ce)) then
  (fY p0.ai.ce p1).bind fun b0=>
  ajD (!b0)
 else
  ajD al2
noncomputable def ff (s:(Bool×Int×(List (Int×Int×Int))×Int×Int×Int×(List (Int×Int×Int)))):Option (Step (Bool×Int×(List (Int×Int×Int))×Int×Int×Int×(List (Int×Int×Int))) (Field×Int)):=
 match s with
 |(a,b,d,e,f,g,h)=>
  bif al7 (b<(NE (ajC d))) then
   bif !a then
    (aI d b).bind fun a0=>
    bif al7 (e<a0.1) then
     (bq h [(e,f,g)]).bind fun l1=>
     (aI d b).bind fun a2=>
     (bq l1 [a2]).bind fun l3=>
     ajD (.next (ajE,ae .i64 (b+1),d,e,f,g,l3))
    else
     (aI d b).bind fun a4=>
     (bq h [a4]).bind fun l5=>
     ajD (.next (a,ae .i64 (b+1),d,e,f,g,l5))
   else
    (aI d b).bind fun a6=>
    (bq h [a6]).bind fun l7=>
    ajD (.next (a,ae .i64 (b+1),d,e,f,g,l7))
  else
   bif !a then
    (bq h [(e,f,g)]).bind fun l8=>
    ajD (.done (Field.mk l8,0))
   else
    ajD (.done (Field.mk h,0))
noncomputable def rJ (p0:Field) (p1:Int×Int×Int):Option (Field×Int):=
 (gf p0).bind fun n0=>
 bif n0 !=0 then
  ajD (Field.mk [],n0)
 else
  (qd p1).bind fun n1=>
  bif n1 !=0 then
   ajD (Field.mk [],8)
  else
   (fE p0 p1.1).bind fun n2=>
   bif al7 (0<=n2) then
    ajD (Field.mk [],14)
   else
    bif (NE (ajC p0.am))==64 then
     ajD (Field.mk [],18)
    else
     ax ff (al2,0,p0.am,p1.1,p1.2.1,p1.2.2,[])
noncomputable def mr (s:((List Int)×(List Int))):Option (Step ((List Int)×(List Int)) (Step ((List Int)×Int×Int×(List Int)) (List Int))):=
 bif al7 ((NE (ajC s.2))<(ae .i64 (2*(NE (ajC s.1))))) then
  (bq s.2 [-1]).bind fun l0=>
  ajD (.next (s.1,l0))
 else
  ajD (.done (.done s.2))
noncomputable def pN (s:((List Int)×Int×Int×(List Int))):Option (Step ((List Int)×Int×Int×(List Int)) (List Int)):=
 bif al7 (s.2.2.1<(NE (ajC s.2.2.2))) then
  (aI s.2.2.2 s.2.2.1).bind fun n0=>
  bif al7 (n0<0) then
   (aI s.2.2.2 s.2.2.1).bind fun n1=>
   ajD (.done (cj s.2.2.2 s.2.2.1 s.2.1))
  else
   ajD (.next (s.1,s.2.1,ae .i64 (s.2.2.1+1),s.2.2.2))
 else
  (bq s.2.2.2 [s.2.1]).bind fun l2=>
  ax mr (s.1,l2)
noncomputable def FJ (p0:List Int) (p1:Int):Option (List Int):=
 (bP p0).bind fun l0=>
 ax pN (p0,p1,0,l0)
abbrev we (n:Int):Prop:= -9223372036854775808<=n/\n<9223372036854775808
abbrev Vk (n:Int):Prop:=0<=n/\n<18446744073709551616
theorem wi (n:Int):ae .i64 n=(n+9223372036854775808)%18446744073709551616-9223372036854775808:=by
 rw [rO];simp only [IntKind.wrap,IntKind.bits,IntKind.signed,Bool.true_and];have e1:(2:Int)^64=18446744073709551616:=by decide
 have e2:(2:Int)^(64-1)=9223372036854775808:=by decide
 simp only [e1,e2,decide_eq_true_eq];split<;>omega
theorem wu (n:Int):ae .u64 n=n%18446744073709551616:=by
 rw [rO];simp only [IntKind.wrap,IntKind.bits,IntKind.signed,Bool.false_and];have e1:(2:Int)^64=18446744073709551616:=by decide
 simp only [e1];simp
theorem iC {n:Int} (h:we n):ae .i64 n=n:=by rw [wi];omega
theorem cC {a b:Int} (h:a≠b):(a !=b)=ajE:=by simpa using h
theorem bo {a b:Int} (h:a=b):(a !=b)=al2:=by simpa using h
theorem eu {a b:Int} (h:a=b):(a==b)=ajE:=by simpa using h
theorem dR {a b:Int} (h:a≠b):(a==b)=al2:=by simpa using h
theorem QJ (a b:Int):(a==b)=al7 (a=b):=by
 by_cases h:a=b
 · rw [eu h,decide_eq_true h]
 rw [dR h,decide_eq_false h]
theorem lt_or_ge (a b:Int):a<b\/b<=a:=by omega
theorem alU (a:Int):nF .u64 a 32=a / 4294967296:=by
 unfold nF;rw [show (min (32:Int).toNat (IntKind.bits .u64))=32 from by decide,show (2:Int)^32=4294967296 from by decide]
 exact aeB _ (by decide)
theorem OF {a:Int} (h:Vk a):zY .u64 a 4294967295=a%4294967296:=by
 obtain ⟨n,rfl⟩:=ae5 h.1;unfold zY;have e:(BitVec.ofInt (IntKind.bits .u64) (n:Int)&&&BitVec.ofInt (IntKind.bits .u64) 4294967295).toNat=n%4294967296:=by
  rw [BitVec.toNat_and];have e1:(BitVec.ofInt (IntKind.bits .u64) (n:Int)).toNat=n:=by
   rw [BitVec.toNat_ofInt]
   have:((2^(IntKind.bits .u64):Nat):Int)=18446744073709551616:=by decide
   rw [this];omega
  have e2:(BitVec.ofInt (IntKind.bits .u64) (4294967295:Int)).toNat=2^32-1:=by decide
  rw [e1,e2,Nat.and_two_pow_sub_one_eq_mod]
 rw [e]
 have:=wu ((n%4294967296:Nat):Int)
 rw [rO] at this;rw [this];omega
theorem adV {a b:Nat} (ha:a<1000000000) (hb:b<1000000000):ae .i64 (nF .u64 (ae .u64 (ae .i64 ((a:Int)+(b:Int)))) 1)=(((a+b) / 2:Nat):Int):=by
 unfold nF;rw [show (min (1:Int).toNat (IntKind.bits .u64))=1 from by decide,show (2:Int)^1=2 from by decide,aeB _ (by decide),wi (_+_),wu,wi]
 omega
section
variable {σ ρ : Type} {body : σ -> Option (Step σ ρ)}
theorem cz (st:Nat->σ) (n:Nat) (h: ∀i,i<n->body (st i)=ajD (.next (st (i+1)))):ax body (st 0)=ax body (st n):=by
 induction n with
 |zero=>rfl
 |succ n ih=>
  rw [ih fun i hi=>h i (by omega)]
  exact aZ (h n (by omega))
theorem dh (st:Nat->σ) (n:Nat) (c:Nat->Prop) {r e:ρ} (h: ∀i,i<n->(c i->body (st i)=ajD (.done r))/\(¬c i->body (st i)=ajD (.next (st (i+1)))))
 (Vl:body (st n)=ajD (.done e)):((∃i,i<n/\c i)->ax body (st 0)=ajD r)/\((∀i,i<n-> ¬c i)->ax body (st 0)=ajD e):=by
 constructor
 · rintro ⟨i,hi,hc⟩
   have key: ∀k,k<=n->(∃i,i<n/\n-k<=i/\c i)->ax body (st (n-k))=ajD r:=by
    intro k
    induction k with
    |zero=>rintro _ ⟨i,h1,h2,_⟩;omega
    |succ k ih=>
     rintro hk ⟨i,h1,h2,h3⟩
     by_cases hc:c (n- (k+1))
     · exact aJ ((h _ (by omega)).1 hc)
     rw [aZ ((h _ (by omega)).2 hc),show n- (k+1)+1=n-k by omega]
     refine ih (by omega) ⟨i,h1,?_,h3⟩
     by_cases he:i=n- (k+1)
     · subst he;exact absurd h3 hc
     omega
   have:=key n (af9 n) ⟨i,hi,by omega,hc⟩
   rwa [Nat.sub_self] at this
 intro hn
 rw [cz st n fun i hi=>(h i hi).2 (hn i hi)]
 exact aJ Vl
theorem least {c:Nat->Prop}: ∀{n:Nat},(∃i,i<n/\c i)-> ∃k,k<n/\c k/\ ∀j,j<k-> ¬c j
 |0,h=>by obtain ⟨i,hi,_⟩:=h;omega
 |n+1,h=>by
  by_cases hx: ∃i,i<n/\c i
  · obtain ⟨k,h1,h2,h3⟩:=least hx
    exact ⟨k,by omega,h2,h3⟩
  obtain ⟨i,hi,hc⟩:=h
  refine ⟨i,hi,hc,fun j hj hcj=>hx ⟨j,by omega,hcj⟩⟩
theorem hO (st:Nat->σ) (n:Nat) (c:Nat->Prop) (r:Nat->ρ) {e:ρ} (h: ∀i,i<n->(c i->body (st i)=ajD (.done (r i)))/\(¬c i->body (st i)=ajD (.next (st (i+1)))))
 (Vl:body (st n)=ajD (.done e)):(∀k,k<n->c k->(∀j,j<k-> ¬c j)->ax body (st 0)=ajD (r k))/\((∀i,i<n-> ¬c i)->ax body (st 0)=ajD e):=by
 constructor
 · intro k hk hc hj
   rw [cz st k fun i hi=>(h i (by omega)).2 (hj i hi)]
   exact aJ ((h k hk).1 hc)
 intro hn
 rw [cz st n fun i hi=>(h i hi).2 (hn i hi)]
 exact aJ Vl
theorem CB (st:Nat->Nat->σ) (n m:Nat) (c:Nat->Prop)
 (h: ∀lo hi,lo<hi->hi<=n->(c ((lo+hi) / 2)->body (st lo hi)=ajD (.next (st ((lo+hi) / 2+1) hi)))/\(¬c ((lo+hi) / 2)->body (st lo hi)=ajD (.next (st lo ((lo+hi) / 2)))))
 (h1: ∀i,i<m->c i) (h2: ∀i,m<=i->i<n-> ¬c i): ∀d lo hi,hi-lo<=d->lo<=m->m<=hi->hi<=n->ax body (st lo hi)=ax body (st m m)
 |0,lo,hi,hd,a,b,_=>by
  have e1:lo=m:=by omega
  have e2:hi=m:=by omega
  rw [e1,e2]
 |d+1,lo,hi,hd,a,b,e=>by
  by_cases hl:lo<hi
  · by_cases hc:c ((lo+hi) / 2)
    · rw [aZ ((h lo hi hl e).1 hc)]
      refine CB st n m c h h1 h2 d _ _ (by omega) ?_ b e
      refine IR fun hx=>?_
      exact h2 ((lo+hi) / 2) (by omega) (by omega) hc
    rw [aZ ((h lo hi hl e).2 hc)]
    refine CB st n m c h h1 h2 d _ _ (by omega) a ?_ (by omega)
    refine IR fun hx=>?_
    exact hc (h1 ((lo+hi) / 2) (by omega))
  have e1:lo=m:=by omega
  have e2:hi=m:=by omega
  rw [e1,e2]
end
section
variable {α : Type} [Inhabited α]
theorem au (l:List α) (n:Nat) (h:n<ajC l):aI l (n:Int)=ajD l[n]!:=by
 show l[n]? =ajD l[n]!;rw [aeZ h,getElem!_pos l n h]
theorem dG {l:List α} {i:Int} (h0:0<=i) (h:i<ajC l):aI l i=ajD l[i.toNat]!:=by
 obtain ⟨n,rfl⟩:=ae5 h0;exact au l n (by omega)
theorem mu {β:Type} (l:List β) (n:Nat) (a:β):cj l (n:Int) a=l.set n a:=rfl
theorem aU (l:List α) (n m:Nat) (a:α):(l.set n a)[m]! =if m=n/\n<(ajC l) then a else l[m]!:=by
 by_cases hm:m<ajC l
 · rw [getElem!_pos (l.set n a) m (by simpa using hm),getElem!_pos l m hm,List.getElem_set]
   split
   · rw [pp (by omega)]
   rw [rc (by omega)]
 rw [getElem!_neg (l.set n a) m (by simpa using hm),getElem!_neg l m hm]
 split
 · omega
 rfl
theorem aS {l:List α} {x:α}:x∈l↔ ∃i,i<ajC l/\l[i]! =x:=by
 rw [List.mem_iff_getElem];constructor
 · rintro ⟨i,h,rfl⟩;exact ⟨i,h,getElem!_pos l i h⟩
 rintro ⟨i,h,rfl⟩;exact ⟨i,h,(getElem!_pos l i h).symm⟩
theorem aY {l:List α} {i:Nat} (h:i<ajC l):l[i]!∈l:=aS.2 ⟨i,h,rfl⟩
theorem cw {l m:List α} {i:Nat} (h:i<ajC l):(l++m)[i]! =l[i]!:=by
 rw [getElem!_pos (l++m) i (by simp;omega),getElem!_pos l i h,List.getElem_append_left h]
theorem dM {l m:List α} {i:Nat} (h:(ajC l)<=i):(l++m)[i]! =m[i-(ajC l)]!:=by
 by_cases hi:i<ajC l+ajC m
 · rw [getElem!_pos (l++m) i (by simp;omega),getElem!_pos m (i-(ajC l)) (by omega),List.getElem_append_right h]
 rw [getElem!_neg (l++m) i (by simp;omega),getElem!_neg m (i-(ajC l)) (by omega)]
theorem iL {l:List α} {n i:Nat} (h:i<n):(l.take n)[i]! =l[i]!:=by
 by_cases hi:i<ajC l
 · rw [getElem!_pos (l.take n) i (by simp;omega),getElem!_pos l i hi,List.getElem_take]
 rw [getElem!_neg (l.take n) i (by simp;omega),getElem!_neg l i hi]
theorem kN {l:List α} {n i:Nat}:(l.drop n)[i]! =l[n+i]!:=by
 by_cases hi:n+i<ajC l
 · rw [getElem!_pos (l.drop n) i (by simp;omega),getElem!_pos l (n+i) hi,List.getElem_drop]
 rw [getElem!_neg (l.drop n) i (by simp;omega),getElem!_neg l (n+i) hi]
theorem qu {l m:List α} (hl:(ajC l)=ajC m) (h: ∀i,i<ajC l->l[i]! =m[i]!):l=m:=by
 apply List.ext_getElem hl;intro i h1 h2
 have:=h i h1
 rwa [getElem!_pos l i h1,getElem!_pos m i h2] at this
theorem Me {l:List α} {i:Nat} (h:i<ajC l):l=l.take i++l[i]!::l.drop (i+1):=by
 rw [getElem!_pos l i h,List.getElem_cons_drop,List.take_append_drop]
end
theorem ba {α:Type} {l:List α} (h:(ajC l)<=1048576):bP l=ajD l:=by unfold bP;rw [pp h]
theorem bY {α:Type} {l m:List α} (h:(ajC l)+ajC m<=1048576):bq l m=ajD (l++m):=by unfold bq;rw [pp h]
@[simp] theorem ar {α β:Type} (a:α) (f:α->Option β):(ajD a).bind f=f a:=rfl
end Go.Proofs.YtbgoiokedpjgbaaGreat
namespace Go.Proofs.YtbgoiokedpjgbaaGreat
open Go.Vm Classical
theorem jh {n:Int} (h:we n):gH n=ajD (n.natAbs:Int):=by
 unfold gH;simp only [wi,wu]
 by_cases hn:n<0
 · simp only [hn,decide_true,lw,AC];omega
 simp only [hn,decide_false,ol,AC];omega
theorem oz {n:Int} (h:we n):kL n=ajD (n.natAbs:Int):=by
 unfold kL;simp only [wu]
 by_cases hn:n<0
 · simp only [hn,decide_true,lw,AC];omega
 simp only [hn,decide_false,ol,AC];omega
theorem o7 (m n:Nat):nW m n=ajD (Do m n:Int):=by
 unfold nW
 induction n using afA generalizing m with
 |ind n ih=>
  by_cases h0:n=0
  · subst h0
    rw [afo];exact aJ (by simp [mC])
  have e:mC ((m:Int),(n:Int))=ajD (.next ((n:Int),((m%n:Nat):Int))):=by
   have h1:((n:Int) !=0)=ajE:=by simp;omega
   have h2:((n:Int)==0)=al2:=by simp;omega
   simp only [mC,h1,h2,lw,ol,afX]
  rw [aZ e,ih (m%n) (Nat.mod_lt _ (by omega)) n,aem m n,Nat.gcd_rec n m,aem]
theorem zA (m n:Nat):uW m n=ajD (Do m n:Int):=by
 unfold uW
 induction n using afA generalizing m with
 |ind n ih=>
  by_cases h0:n=0
  · subst h0
    rw [afo];exact aJ (by simp [rl])
  have e:rl ((m:Int),(n:Int))=ajD (.next ((n:Int),((m%n:Nat):Int))):=by
   have h1:al7 (0<(n:Int))=ajE:=by simp;omega
   have h2:((n:Int)==0)=al2:=by simp;omega
   simp only [rl,h1,h2,lw,ol,afX]
  rw [aZ e,ih (m%n) (Nat.mod_lt _ (by omega)) n,aem m n,Nat.gcd_rec n m,aem]
def cE (r:Int×Int):Prop:=1<=r.2/\r.1≠ -9223372036854775808/\Do r.2.natAbs r.1.natAbs=1
abbrev oM (r:Int×Int):Prop:=we r.1/\we r.2
theorem fI {r:Int×Int} (h:oM r):gg r=ajD (if cE r then 0 else 8):=by
 obtain ⟨a,b⟩:=r;obtain ⟨ha,hb⟩:=h;unfold gg cE;dsimp only at ha hb ⊢
 by_cases h1:b<1
 · rw [rc (by omega)];simp [h1]
 by_cases h2:a= -9223372036854775808
 · rw [rc (by omega)];simp [h1,h2]
 have e2:(a== -9223372036854775808)=al2:=by simpa using h2
 have e3:ae .u64 b=(b.natAbs:Int):=by rw [wu];omega
 simp only [h1,decide_false,ol,e2,oz ha,ar,e3,zA];have hp:0<Do b.natAbs a.natAbs:=Nat.gcd_pos_of_pos_left _ (by omega)
 by_cases h3:Do b.natAbs a.natAbs=1
 · rw [pp ⟨by omega,h2,h3⟩,h3];rfl
 rw [rc (fun h=>h3 h.2.2)]
 have:al7 (1<(Do b.natAbs a.natAbs:Int))=ajE:=by simp;omega
 rw [this];rfl
theorem x3 {r:Int×Int} (h:oM r):nj r=ajD (if cE r then 0 else 8):=by
 obtain ⟨a,b⟩:=r;obtain ⟨ha,hb⟩:=h;unfold nj cE;dsimp only at ha hb ⊢
 by_cases h1:b<1
 · rw [rc (by omega)];simp [h1]
 by_cases h2:a= -9223372036854775808
 · rw [rc (by omega)];simp [h1,h2]
 have e2:(a== -9223372036854775808)=al2:=by simpa using h2
 have e3:ae .u64 b=(b.natAbs:Int):=by rw [wu];omega
 simp only [h1,decide_false,ol,e2,jh ha,ar,e3,o7];rw [aem]
 by_cases h3:Do b.natAbs a.natAbs=1
 · rw [pp ⟨by omega,h2,h3⟩,h3];rfl
 rw [rc (fun h=>h3 h.2.2)]
 have:((Do b.natAbs a.natAbs:Int) !=1)=ajE:=by simp;omega
 rw [this];rfl
theorem Vn (x y:Int) (hx:Vk x) (hy:Vk y): ∃p q r s:Int,0<=p/\p<=18446744065119617025/\0<=q/\q<=18446744065119617025/\0<=r/\r<=18446744065119617025/\0<=s/\s<=18446744065119617025/\
 x / 4294967296*(y / 4294967296)=p/\x / 4294967296*(y%4294967296)=q/\x%4294967296*(y / 4294967296)=r/\x%4294967296*(y%4294967296)=s/\
 x*y=p*18446744073709551616+(q+r)*4294967296+s:=by
 have GX:0<=x / 4294967296/\x / 4294967296<=4294967295:=by omega
 have IV:0<=x%4294967296/\x%4294967296<=4294967295:=by omega
 have WZ:0<=y / 4294967296/\y / 4294967296<=4294967295:=by omega
 have RQ:0<=y%4294967296/\y%4294967296<=4294967295:=by omega
 have ex:x=x / 4294967296*4294967296+x%4294967296:=by omega
 have ey:y=y / 4294967296*4294967296+y%4294967296:=by omega
 generalize x / 4294967296=a at*;generalize x%4294967296=b at*;generalize y / 4294967296=c at*;generalize y%4294967296=d at*;have bd: ∀{u v:Int},0<=u/\u<=4294967295->0<=v/\v<=4294967295->0<=u*v/\u*v<=18446744065119617025:=by
  intro u v hu hv;refine ⟨afa hu.1 hv.1,?_⟩
  calc u*v<=4294967295*4294967295:=aeC hu.2 hv.2 hv.1 (by decide)
   _=_:=by decide
 refine ⟨a*c,a*d,b*c,b*d,(bd GX WZ).1,(bd GX WZ).2,(bd GX RQ).1,(bd GX RQ).2,(bd IV WZ).1,(bd IV WZ).2,(bd IV RQ).1,(bd IV RQ).2,rfl,rfl,rfl,rfl,?_⟩;rw [ex,ey]
 grind
theorem x5 {x y:Int} (hx:Vk x) (hy:Vk y):fb x y=ajD (x*y / 18446744073709551616,x*y%18446744073709551616):=by
 unfold fb;obtain ⟨p,q,r,s,p0,p1,q0,q1,r0,r1,s0,s1,ep,eq,er,es,exy⟩:=Vn x y hx hy;have key: ∀z:Int,zY .u64 (z%18446744073709551616) 4294967295=z%18446744073709551616%4294967296:=fun z=>OF (by constructor<;>omega)
 simp only [alU,OF hx,OF hy,wu,key,ep,eq,er,es,exy,AC,acl,and_true];clear ep eq er es exy key hx hy;have e1:s%18446744073709551616=s:=by omega
 have e2:(q+s / 4294967296)%18446744073709551616=q+s / 4294967296:=by omega
 have ep:p%18446744073709551616=p:=by omega
 have eq:q%18446744073709551616=q:=by omega
 have er:r%18446744073709551616=r:=by omega
 rw [e1,ep,eq,er,e2];have e3:s=s / 4294967296*4294967296+s%4294967296:=by omega
 have e4:q+s / 4294967296=(q+s / 4294967296) / 4294967296*4294967296+(q+s / 4294967296)%4294967296:=by omega
 have b1:0<=s%4294967296/\s%4294967296<4294967296:=by omega
 have b2:0<=(q+s / 4294967296)%4294967296/\(q+s / 4294967296)%4294967296<4294967296:=by omega
 have b3:0<=(q+s / 4294967296) / 4294967296/\(q+s / 4294967296) / 4294967296<=4294967295:=by omega
 have b4:0<=s / 4294967296/\s / 4294967296<=4294967295:=by omega
 generalize (q+s / 4294967296) / 4294967296=t1 at*;generalize (q+s / 4294967296)%4294967296=t0 at*;generalize s / 4294967296=c1 at*;generalize s%4294967296=c0 at*;clear e1 e2;have e5:(t0+r)%18446744073709551616=t0+r:=by omega
 rw [e5];have e6:t0+r=(t0+r) / 4294967296*4294967296+(t0+r)%4294967296:=by omega
 have b5:0<=(t0+r)%4294967296/\(t0+r)%4294967296<4294967296:=by omega
 have b6:0<=(t0+r) / 4294967296/\(t0+r) / 4294967296<=4294967295:=by omega
 generalize (t0+r) / 4294967296=u1 at*;generalize (t0+r)%4294967296=u0 at*;omega
theorem OG {x y:Int} (hx:Vk x) (hy:Vk y):pA x y=ajD (al2,x*y / 18446744073709551616,x*y%18446744073709551616):=by
 unfold pA;obtain ⟨p,q,r,s,p0,p1,q0,q1,r0,r1,s0,s1,ep,eq,er,es,exy⟩:=Vn x y hx hy;have t1: ∀a:Int,0<=a->afb a 4294967296=a / 4294967296:=fun a h=>aeD h
 have t2: ∀a:Int,0<=a->Int.tmod a 4294967296=a%4294967296:=fun a h=>Int.tmod_eq_emod_of_nonneg h
 simp only [wu];rw [t1 x hx.1,t1 y hy.1,t2 x hx.1,t2 y hy.1];have f1:x / 4294967296%18446744073709551616=x / 4294967296:=by omega
 have f2:y / 4294967296%18446744073709551616=y / 4294967296:=by omega
 simp only [f1,f2,ep,eq,er,es];have g: ∀a:Int,afb (a%18446744073709551616) 4294967296=a%18446744073709551616 / 4294967296:=fun a=>t1 _ (by omega)
 have g2: ∀a:Int,Int.tmod (a%18446744073709551616) 4294967296=a%18446744073709551616%4294967296:=fun a=>t2 _ (by omega)
 simp only [g,g2,exy,AC,acl,true_and];constructor<;>omega
abbrev B64 (a:Bool×Int×Int):Prop:=Vk a.2.1/\Vk a.2.2
theorem yQ {n:Int} (h:we n):Vk (n.natAbs:Int):=by constructor<;>omega
theorem yR {n:Int} (h:we n):(n.natAbs:Int)<=9223372036854775808:=by omega
theorem Br (a b:Int):((a.natAbs:Int)*(b.natAbs:Int))=((a*b).natAbs:Int):=by rw [Int.natAbs_mul];rfl
theorem sB {a b:Int} (ha:we a) (hb:we b):((a*b).natAbs:Int)<=85070591730234615865843651857942052864:=by
 rw [<- Br]
 calc (a.natAbs:Int)*(b.natAbs:Int)<=9223372036854775808*9223372036854775808:=aeC (yR ha) (yR hb) (by omega) (by decide)
  _=_:=by decide
theorem wg {a b:Int} (ha:we a) (hb:we b):
 jb a b=ajD (al7 (a*b<0),((a*b).natAbs:Int) / 18446744073709551616,((a*b).natAbs:Int)%18446744073709551616):=by
 unfold jb;simp only [jh ha,jh hb,ar,OG (yQ ha) (yQ hb),Br];have hs:(a*b<0)↔((a<0/\0<b)\/(0<a/\b<0)):=by
  constructor
  · intro h
    rcases aeH a 0 with h1|h1|h1
    · rcases aeH b 0 with h2|h2|h2
      · have:=Int.mul_pos_of_neg_of_neg h1 h2;omega
      · subst h2;simp at h
      exact .inl ⟨h1,h2⟩
    · subst h1;simp at h
    rcases aeH b 0 with h2|h2|h2
    · exact .inr ⟨h1,h2⟩
    · subst h2;simp at h
    have:=Int.mul_pos h1 h2;omega
  rintro (⟨h1,h2⟩|⟨h1,h2⟩)
  · exact ae3 h1 h2
  exact Int.mul_neg_of_pos_of_neg h1 h2
 have hd:al7 (a*b<0)=al7 ((a<0/\0<b)\/(0<a/\b<0)):=by simp only [hs]
 rw [hd];clear hd hs;generalize ((a*b).natAbs:Int)=z
 by_cases h1:a<0
 · have Nc: ¬0<a:=by omega
   have aqz:(a !=0)=ajE:=cC (by omega)
   by_cases h2:b<0
   · have RE: ¬0<b:=by omega
     simp [h1,h2,Nc,RE]
   by_cases h3:b=0
   · simp [h1,h3,aqz]
   have h3':0<b:=by omega
   simp [h1,h2,h3',aqz,cC h3]
 by_cases h0:a=0
 · subst h0
   by_cases h2:b<0<;>simp [h2]
 have Nc:0<a:=by omega
 by_cases h2:b<0
 · have RE:(b !=0)=ajE:=cC (by omega)
   simp [h1,h2,Nc,cC h0,RE]
 simp [h1,h2,Nc]
theorem Mf {a b:Int} (ha:we a) (hb:we b):
 qh a b=ajD (!(al7 (a<0)==al7 (b<0)),((a*b).natAbs:Int) / 18446744073709551616,((a*b).natAbs:Int)%18446744073709551616):=by
 unfold qh;simp only [oz ha,oz hb,ar,x5 (yQ ha) (yQ hb),Br]
def jq (a b:Int):Int:=if a<b then -1 else if b<a then 1 else 0
theorem zB (a b:Int):iU a b=ajD (jq a b):=by
 unfold iU mD jq
 by_cases h1:a<b<;>by_cases h2:b<a<;>simp [h1,h2]
theorem G5 (a b:Int):iz a b=ajD (jq a b):=by
 unfold iz lS jq
 by_cases h1:a<b<;>by_cases h2:b<a<;>simp [h1,h2]
theorem jN (a b:Int):eA a b=ajD (jq a b):=by
 unfold eA cmp_isNaN_int jq
 by_cases h1:a<b<;>by_cases h2:b<a<;>simp [h1,h2]
theorem fJ (a b:Int):(a<b/\jq a b= -1)\/(a=b/\jq a b=0)\/(b<a/\jq a b=1):=by
 unfold jq
 by_cases h1:a<b
 · exact .inl ⟨h1,by rw [pp h1]⟩
 by_cases h2:b<a
 · exact .inr (.inr ⟨h2,by rw [rc h1,pp h2]⟩)
 exact .inr (.inl ⟨by omega,by rw [rc h1,rc h2]⟩)
theorem JH (a b:Bool×Int×Int) (ha:B64 a) (hb:B64 b):oU a b=ajD (jq (a.2.1*18446744073709551616+a.2.2) (b.2.1*18446744073709551616+b.2.2)):=by
 obtain ⟨s,ah,al⟩:=a;obtain ⟨t,bh,bl⟩:=b;obtain ⟨⟨a1,a2⟩,a3,a4⟩:=ha;obtain ⟨⟨b1,b2⟩,b3,b4⟩:=hb;dsimp only at*;unfold oU jq;dsimp only
 by_cases h1:ah=bh
 · subst h1
   by_cases h2:al=bl
   · subst h2;simp
   by_cases h3:al<bl
   · simp [cC h2,h3]
   rw [rc (by omega),pp (by omega)];simp [cC h2,h3]
 by_cases h3:ah<bh
 · rw [pp (by omega)];simp [cC h1,h3]
 rw [rc (by omega),pp (by omega)];simp [cC h1,h3]
theorem OH (a b:Bool×Int×Int) (ha:B64 a) (hb:B64 b):pI a b=ajD (jq (a.2.1*18446744073709551616+a.2.2) (b.2.1*18446744073709551616+b.2.2)):=by
 obtain ⟨s,ah,al⟩:=a;obtain ⟨t,bh,bl⟩:=b;obtain ⟨⟨a1,a2⟩,a3,a4⟩:=ha;obtain ⟨⟨b1,b2⟩,b3,b4⟩:=hb;dsimp only at*;unfold pI;simp only [G5,ar];unfold jq
 by_cases h1:ah=bh
 · subst h1
   by_cases h3:al<bl
   · simp [h3]
   by_cases h2:bl<al
   · rw [rc (show¬(ah*18446744073709551616+al<ah*18446744073709551616+bl) by omega),pp (show ah*18446744073709551616+bl<ah*18446744073709551616+al by omega)];simp [h2,h3]
   have:al=bl:=by omega
   subst this;simp
 by_cases h3:ah<bh
 · rw [pp (show ah*18446744073709551616+al<bh*18446744073709551616+bl by omega)];simp [h3]
 rw [rc (show¬(ah*18446744073709551616+al<bh*18446744073709551616+bl) by omega),pp (show bh*18446744073709551616+bl<ah*18446744073709551616+al by omega)];simp [h3,show bh<ah by omega]
theorem tB (a:Bool) {n:Int} (h0:0<=n) (h:n<=85070591730234615865843651857942052864):B64 (a,n / 18446744073709551616,n%18446744073709551616):=by
 constructor<;>constructor<;>dsimp only<;>omega
theorem JI {n:Int} (h:(n.natAbs:Int)<=85070591730234615865843651857942052864):ke (al7 (n<0),(n.natAbs:Int) / 18446744073709551616,(n.natAbs:Int)%18446744073709551616)=ajD (jq n 0):=by
 unfold ke jq;dsimp only
 by_cases h0:n=0
 · subst h0;simp
 by_cases h1:n<0
 · rw [pp h1]
   by_cases h2:(n.natAbs:Int) / 18446744073709551616=0
   · have h3: ¬((n.natAbs:Int)%18446744073709551616=0):=by omega
     simp [h1,h2,dR h3]
   simp [h1,dR h2]
 rw [rc h1,pp (by omega)]
 by_cases h2:(n.natAbs:Int) / 18446744073709551616=0
 · have h3: ¬((n.natAbs:Int)%18446744073709551616=0):=by omega
   simp [h1,h2,dR h3]
 simp [h1,dR h2]
def y9 (a b:Int×Int):Int:=jq (a.1*b.2) (b.1*a.2)
theorem FK {a b:Int×Int} (ha:oM a) (hb:oM b):pC a b=ajD (y9 a b):=by
 unfold pC y9;have n1:=sB ha.1 hb.2;have n2:=sB hb.1 ha.2;simp only [wg ha.1 hb.2,wg hb.1 ha.2,ar,JI n1,JI n2];generalize a.1*b.2=x at*;generalize b.1*a.2=y at*;rw [JH _ _ (tB _ (by omega) n1) (tB _ (by omega) n2),JH _ _ (tB _ (by omega) n2) (tB _ (by omega) n1)]
 have ex:((x.natAbs:Int) / 18446744073709551616)*18446744073709551616+(x.natAbs:Int)%18446744073709551616=(x.natAbs:Int):=by omega
 have ey:((y.natAbs:Int) / 18446744073709551616)*18446744073709551616+(y.natAbs:Int)%18446744073709551616=(y.natAbs:Int):=by omega
 simp only [ex,ey,ar];rcases fJ x 0 with ⟨h1,e1⟩|⟨h1,e1⟩|⟨h1,e1⟩<;>rcases fJ y 0 with ⟨h2,e2⟩|⟨h2,e2⟩|⟨h2,e2⟩<;>rw [e1,e2]<;>simp<;>
  unfold jq<;>(repeat' split)<;>first|rfl|omega
theorem adW {a b:Int×Int} (ha:oM a) (hb:oM b):vW a b=ajD (if cE a/\cE b then 0 else 8):=by
 unfold vW;simp only [fI ha,fI hb,ar]
 by_cases h1:cE a<;>by_cases h2:cE b<;>simp [h1,h2]
theorem Vo {a b:Int×Int} (ha:oM a) (hb:oM b):yM a b=ajD (if cE a/\cE b then (y9 a b,0) else (0,8)):=by
 unfold yM;rw [adW ha hb]
 by_cases h:cE a/\cE b
 · rw [pp h,pp h]
   obtain ⟨⟨a1,a2,a3⟩,b1,b2,b3⟩:=h;have n1:=sB ha.1 hb.2;have n2:=sB hb.1 ha.2;simp only [ar,zB,Mf ha.1 hb.2,Mf hb.1 ha.2];rw [OH _ _ (tB _ (by omega) n1) (tB _ (by omega) n2)]
   have ex:((a.1*b.2).natAbs:Int) / 18446744073709551616*18446744073709551616+((a.1*b.2).natAbs:Int)%18446744073709551616=((a.1*b.2).natAbs:Int):=by omega
   have ey:((b.1*a.2).natAbs:Int) / 18446744073709551616*18446744073709551616+((b.1*a.2).natAbs:Int)%18446744073709551616=((b.1*a.2).natAbs:Int):=by omega
   simp only [ex,ey,ar];unfold y9;have s1:(a.1<0↔a.1*b.2<0):=by
    constructor
    · intro h;exact ae3 h (by omega)
    intro h;rcases lt_or_ge a.1 0 with h1|h1
    · exact h1
    have:=afa h1 (show 0<=b.2 by omega);omega
   have s2:(b.1<0↔b.1*a.2<0):=by
    constructor
    · intro h;exact ae3 h (by omega)
    intro h;rcases lt_or_ge b.1 0 with h1|h1
    · exact h1
    have:=afa h1 (show 0<=a.2 by omega);omega
   generalize a.1*b.2=x at*;generalize b.1*a.2=y at*
   by_cases h1:a.1<0<;>by_cases h2:b.1<0
   · have h3:=s1.1 h1;have h4:=s2.1 h2
     have:ae .i64 (-jq (x.natAbs:Int) (y.natAbs:Int))=jq x y:=by
      rw [wi];unfold jq;(repeat' split)<;>omega
     simp [h1,h2,this]
   · have h3:=s1.1 h1;have h4: ¬y<0:=fun h=>h2 (s2.2 h)
     have:jq a.1 b.1=jq x y:=by unfold jq;(repeat' split)<;>omega
     simp [h1,h2,this]
   · have h3: ¬x<0:=fun h=>h1 (s1.2 h);have h4:=s2.1 h2
     have:jq a.1 b.1=jq x y:=by unfold jq;(repeat' split)<;>omega
     simp [h1,h2,this]
   have h3: ¬x<0:=fun h=>h1 (s1.2 h);have h4: ¬y<0:=fun h=>h2 (s2.2 h)
   have:jq (x.natAbs:Int) (y.natAbs:Int)=jq x y:=by unfold jq;(repeat' split)<;>omega
   simp [h1,h2,this]
 rw [rc h,rc h];rfl
abbrev Pt:=Int×Int×Int
def fK (p:Pt):Prop:=0<=p.1/\p.1<=65535/\ -1048576<=p.2.1/\p.2.1<=1048576/\ -1048576<=p.2.2/\p.2.2<=1048576
theorem iM (p:Pt):kf p=ajD (if fK p then 0 else 8):=by
 obtain ⟨i,a,b⟩:=p;unfold kf ob fK;dsimp only
 by_cases h1:i<0
 · rw [rc (by omega)];simp [h1]
 by_cases h2:65535<i
 · rw [rc (by omega)];simp [h1,h2]
 by_cases h3:a< -1048576
 · rw [rc (by omega)];simp [h1,h2,h3]
 by_cases h4:1048576<a
 · rw [rc (by omega)];simp [h1,h2,h3,h4]
 by_cases h5:b< -1048576
 · rw [rc (by omega)];simp [h1,h2,h3,h4,h5]
 by_cases h6:1048576<b
 · rw [rc (by omega)];simp [h1,h2,h3,h4,h5,h6]
 rw [pp (by omega)];simp [h1,h2,h3,h4,h5,h6]
theorem lI (p:Pt):qd p=ajD (if fK p then 0 else 8):=by
 obtain ⟨i,a,b⟩:=p;unfold qd fK;dsimp only
 by_cases h1:i<0
 · rw [rc (by omega)];simp [h1]
 by_cases h2:65535<i
 · rw [rc (by omega)];simp [h1,h2]
 by_cases h3:a< -1048576
 · rw [rc (by omega)];simp [h1,h2,h3]
 by_cases h4:1048576<a
 · rw [rc (by omega)];simp [h1,h2,h3,h4]
 by_cases h5:b< -1048576
 · rw [rc (by omega)];simp [h1,h2,h3,h4,h5]
 by_cases h6:1048576<b
 · rw [rc (by omega)];simp [h1,h2,h3,h4,h5,h6]
 rw [pp (by omega)];simp [h1,h2,h3,h4,h5,h6]
theorem uY {x y:Int} (hx:we x) (hy:we y): -85070591730234615865843651857942052864<=x*y/\x*y<=85070591730234615865843651857942052864:=by
 have:=sB hx hy;omega
theorem afi {x y:Int} (hx:we x) (hy:we y):(x%18446744073709551616)*(y%18446744073709551616)=x*y+(if x<0 then y else 0)*18446744073709551616+(if y<0 then x else 0)*18446744073709551616+(if x<0/\y<0 then 340282366920938463463374607431768211456 else 0):=by
 by_cases h1:x<0<;>by_cases h2:y<0
 · have e1:x%18446744073709551616=x+18446744073709551616:=by omega
   have e2:y%18446744073709551616=y+18446744073709551616:=by omega
   rw [e1,e2,pp h1,pp h2,pp ⟨h1,h2⟩];grind
 · have e1:x%18446744073709551616=x+18446744073709551616:=by omega
   have e2:y%18446744073709551616=y:=by omega
   rw [e1,e2,pp h1,rc h2,rc (fun h=>h2 h.2)];grind
 · have e1:x%18446744073709551616=x:=by omega
   have e2:y%18446744073709551616=y+18446744073709551616:=by omega
   rw [e1,e2,rc h1,pp h2,rc (fun h=>h1 h.1)];grind
 have e1:x%18446744073709551616=x:=by omega
 have e2:y%18446744073709551616=y:=by omega
 rw [e1,e2,rc h1,rc h2,rc (fun h=>h1 h.1)];grind
theorem Mg {a b:Int} (ha:0<=a) (hb:0<=b):oT a b 0=ajD ((a+b)%18446744073709551616,(a+b) / 18446744073709551616):=by
 unfold oT;simp [ha,hb]
theorem Vp {a b c d u v:Int} (ha:we a) (hb:we b):mj (a,b,c,d,0,u,v,0,0)=ajD (.next (a,b,c,d,1,u,v,a*b / 18446744073709551616,a*b%18446744073709551616)):=by
 unfold mj;have hm:=x5 (x:=ae .u64 a) (y:=ae .u64 b) (by rw [wu];constructor<;>omega) (by rw [wu];constructor<;>omega)
 have hb2:=uY ha hb;have hu:=afi ha hb;simp only [hm,ar];simp only [wu,hu];generalize a*b=x at*
 by_cases h1:a<0<;>by_cases h2:b<0
 all_goals
  simp only [h1,h2,decide_true,decide_false,lw,ol,if_true,if_false,and_self,and_false,false_and];rw [Mg (by omega) (by omega)]
  simp only [wi,ar,show al7 ((0:Int)<2)=ajE from rfl,lw,show ((0:Int)==0)=ajE from rfl,AC,Step.next.injEq,acl,true_and]
  refine ⟨by omega,?_,?_⟩<;>omega
theorem Vq {a b c d u v h l:Int} (hc:we c) (hd:we d) (hl:Vk l)
 (_hh: -9223372036854775808<=h/\h<9223372036854775808) (hs: -170141183460469231731687303715884105728<=h*18446744073709551616+l+c*d/\h*18446744073709551616+l+c*d<170141183460469231731687303715884105728):
 mj (a,b,c,d,1,u,v,h,l)=ajD (.next (a,b,c,d,2,u,v,(h*18446744073709551616+l+c*d) / 18446744073709551616,(h*18446744073709551616+l+c*d)%18446744073709551616)):=by
 unfold mj;have hm:=x5 (x:=ae .u64 c) (y:=ae .u64 d) (by rw [wu];constructor<;>omega) (by rw [wu];constructor<;>omega)
 have hb2:=uY hc hd;have hu:=afi hc hd;simp only [hm,ar];simp only [wu,hu];generalize c*d=x at*
 by_cases h1:c<0<;>by_cases h2:d<0
 all_goals
  simp only [h1,h2,decide_true,decide_false,lw,ol,if_true,if_false,and_self,and_false,false_and];rw [Mg (by omega) (by omega)]
  simp only [wi,ar,show al7 ((1:Int)<2)=ajE from rfl,lw,ol,show ((1:Int)==0)=al2 from rfl,show ((1:Int)==1)=ajE from rfl,AC,Step.next.injEq,acl,true_and]
  refine ⟨by omega,?_,?_⟩<;>omega
theorem G6 {a b c d:Int} (ha:we a) (hb:we b) (hc:we c) (hd:we d) (hs: -170141183460469231731687303715884105728<=a*b+c*d/\a*b+c*d<170141183460469231731687303715884105728):
 vY (a,b,c,d)=ajD ((a*b+c*d) / 18446744073709551616,(a*b+c*d)%18446744073709551616):=by
 unfold vY;dsimp only;have hb2:=uY ha hb;have e:a*b / 18446744073709551616*18446744073709551616+a*b%18446744073709551616+c*d=a*b+c*d:=by omega
 rw [aZ (Vp ha hb),aZ (Vq hc hd (by constructor<;>omega) (by constructor<;>omega) (by rw [e];exact hs)),e]
 exact aJ rfl
def HV (p q:Pt) (t:Int×Int):Int:=(p.2.1-q.2.1)*t.2+(p.2.2-q.2.2)*t.1
def leads (p q:Pt) (t:Int×Int):Prop:=0<HV p q t\/(HV p q t=0/\(q.2.2<p.2.2\/(p.2.2=q.2.2/\p.1<q.1)))
def OI (p q:Pt) (t:Int×Int):Int:=if HV p q t<0 then -1 else if 0<HV p q t then 1 else if p.2.2<q.2.2 then -1 else if q.2.2<p.2.2 then 1 else jq q.1 p.1
theorem FL (p q:Pt) (t:Int×Int):0<OI p q t↔leads p q t:=by
 unfold OI leads
 by_cases h1:HV p q t<0
 · rw [pp h1];omega
 by_cases h2:0<HV p q t
 · rw [rc h1,pp h2];simp [h2]
 rw [rc h1,rc h2]
 by_cases h3:p.2.2<q.2.2
 · rw [pp h3];omega
 by_cases h4:q.2.2<p.2.2
 · rw [rc h3,pp h4];omega
 rw [rc h3,rc h4]
 rcases fJ q.1 p.1 with ⟨h,e⟩|⟨h,e⟩|⟨h,e⟩<;>rw [e]<;>omega
theorem yS (a b:Int):sg [a,b]=ajD (if a≠0 then a else b):=by
 unfold sg
 by_cases h1:a=0
 · subst h1
   rw [aZ (y:=(0,[0,b],2,1)) (by rfl)]
   by_cases h2:b=0
   · subst h2
     rw [aZ (y:=(0,[0,0],2,2)) (by rfl)]
     exact aJ rfl
   refine (aJ (r:=b) ?_).trans (by simp)
   have e:tR (0,[0,b],2,1)=(bif b !=0 then ajD (.done b) else ajD (.next (0,[0,b],2,ae .i64 (1+1)))):=rfl
   rw [e,cC h2];rfl
 refine (aJ (r:=a) ?_).trans (by simp [h1])
 have e:tR (0,[a,b],NE [a,b].length,0)=(bif a !=0 then ajD (.done a) else ajD (.next (0,[a,b],NE [a,b].length,ae .i64 (0+1)))):=rfl
 rw [e,cC h1];rfl
theorem Vr {p q:Pt} {t:Int×Int} (hp:fK p) (hq:fK q) (ht:oM t):we (p.2.1-q.2.1)/\we (p.2.2-q.2.2)/\ -170141183460469231731687303715884105728<=HV p q t/\HV p q t<170141183460469231731687303715884105728:=by
 obtain ⟨a1,a2,a3,a4,a5,a6⟩:=hp;obtain ⟨b1,b2,b3,b4,b5,b6⟩:=hq;have h1:we (p.2.1-q.2.1):=by constructor<;>omega
 have h2:we (p.2.2-q.2.2):=by constructor<;>omega
 refine ⟨h1,h2,?_⟩;have k: ∀{x y:Int},-2097152<=x/\x<=2097152->we y-> -19342813113834066795298816<=x*y/\x*y<=19342813113834066795298816:=by
  intro x y hx hy
  have:((x*y).natAbs:Int)<=2097152*9223372036854775808:=by
   rw [<- Br];exact aeC (by omega) (yR hy) (by omega) (by decide)
  omega
 have k1:=k (x:=p.2.1-q.2.1) (by omega) ht.2
 have k2:=k (x:=p.2.2-q.2.2) (by omega) ht.1
 unfold HV;omega
theorem tC {p q:Pt} {t:Int×Int} (hp:fK p) (hq:fK q) (ht:oM t):lE p q t=ajD (OI p q t):=by
 obtain ⟨g1,g2,g3⟩:=Vr hp hq ht;unfold lE;rw [iC g1,iC g2,G6 g1 ht.2 g2 ht.1 g3];simp only [ar,zB,jN,yS];rw [show (p.2.1-q.2.1)*t.2+(p.2.2-q.2.2)*t.1=HV p q t from rfl];unfold OI;generalize HV p q t=n at*
 by_cases h1:n<0
 · have e1:(n / 18446744073709551616==0)=al2:=by simp;omega
   have e2:al7 (n / 18446744073709551616<0)=ajE:=by simp;omega
   rw [pp h1];simp [e1,e2]
 by_cases h2:0<n
 · have e1:((n / 18446744073709551616==0)&&(n%18446744073709551616==0))=al2:=by simp;omega
   have e2:al7 (n / 18446744073709551616<0)=al2:=by simp;omega
   rw [rc h1,pp h2];simp only [e1,e2,EQ,lw,ol]
 have:n=0:=by omega
 subst this;rw [rc h1,rc h2];unfold jq
 by_cases h3:p.2.2<q.2.2
 · simp [h3]
 by_cases h4:q.2.2<p.2.2
 · simp [h3,h4]
 simp [h3,h4]
theorem adX {x y:Int} (hx: -85070591730234615865843651857942052864<=x/\x<=85070591730234615865843651857942052864) (hy: -85070591730234615865843651857942052864<=y/\y<=85070591730234615865843651857942052864):
 vS (al7 (x<0),(x.natAbs:Int) / 18446744073709551616,(x.natAbs:Int)%18446744073709551616) (al7 (y<0),(y.natAbs:Int) / 18446744073709551616,(y.natAbs:Int)%18446744073709551616)=
  ajD (al7 (x+y<0),((x+y).natAbs:Int) / 18446744073709551616,((x+y).natAbs:Int)%18446744073709551616):=by
 have n1:(x.natAbs:Int)<=85070591730234615865843651857942052864:=by omega
 have n2:(y.natAbs:Int)<=85070591730234615865843651857942052864:=by omega
 unfold vS;rw [JH _ _ (tB _ (by omega) n1) (tB _ (by omega) n2)]
 have ex:((x.natAbs:Int) / 18446744073709551616)*18446744073709551616+(x.natAbs:Int)%18446744073709551616=(x.natAbs:Int):=by omega
 have ey:((y.natAbs:Int) / 18446744073709551616)*18446744073709551616+(y.natAbs:Int)%18446744073709551616=(y.natAbs:Int):=by omega
 simp only [ex,ey,ar];have same: ∀{X Y Z:Int},0<=X->0<=Y->X<=85070591730234615865843651857942052864->Y<=85070591730234615865843651857942052864->Z=X+Y-> ∀b:Bool,
  (bif al7 (ae .u64 (X%18446744073709551616+Y%18446744073709551616)<X%18446744073709551616) then ajD (b,ae .u64 (ae .u64 (X / 18446744073709551616+Y / 18446744073709551616)+1),ae .u64 (X%18446744073709551616+Y%18446744073709551616))
   else ajD (b,ae .u64 (X / 18446744073709551616+Y / 18446744073709551616),ae .u64 (X%18446744073709551616+Y%18446744073709551616)))=ajD (b,Z / 18446744073709551616,Z%18446744073709551616):=by
  intro X Y Z h1 h2 h3 h4 h5 b;subst h5;simp only [wu]
  by_cases h:(X%18446744073709551616+Y%18446744073709551616)%18446744073709551616<X%18446744073709551616
  · simp only [h,decide_true,lw,AC,acl,true_and];constructor<;>omega
  simp only [h,decide_false,ol,AC,acl,true_and];constructor<;>omega
 have minus: ∀{X Y Z:Int} (b c:Bool),0<=X->0<=Y->X<=85070591730234615865843651857942052864->Y<=X->Z=X-Y->qf (b,X / 18446744073709551616,X%18446744073709551616) (c,Y / 18446744073709551616,Y%18446744073709551616)=ajD (al2,Z / 18446744073709551616,Z%18446744073709551616):=by
  intro X Y Z b c h1 h2 h3 h4 h5;subst h5;unfold qf;simp only [wu]
  by_cases h:X%18446744073709551616<Y%18446744073709551616
  · simp only [h,decide_true,lw,AC,acl,true_and];constructor<;>omega
  simp only [h,decide_false,ol,AC,acl,true_and];constructor<;>omega
 by_cases h1:x<0<;>by_cases h2:y<0
 · have h3:x+y<0:=by omega
   simp only [h1,h2,h3,decide_true,beq_self_eq_true,lw];exact same (by omega) (by omega) n1 n2 (by omega) ajE
 · simp only [h1,h2,decide_true,decide_false,show (ajE==al2)=al2 from rfl,ol,lw]
   by_cases h3:(y.natAbs:Int)<=(x.natAbs:Int)
   · have e:al7 (0<=jq (x.natAbs:Int) (y.natAbs:Int))=ajE:=by
      rcases fJ (x.natAbs:Int) (y.natAbs:Int) with ⟨h,e⟩|⟨h,e⟩|⟨h,e⟩<;>rw [e]<;>first|rfl|omega
     rw [e,minus (Z:=((x+y).natAbs:Int)) _ _ (by omega) (by omega) n1 h3 (by omega)]
     simp only [lw,ar]
     by_cases h4:x+y=0
     · rw [h4];rfl
     have h5:x+y<0:=by omega
     by_cases h6:0<((x+y).natAbs:Int) / 18446744073709551616
     · simp [h5,h6]
     have h7:0<((x+y).natAbs:Int)%18446744073709551616:=by omega
     simp only [h5,h6,h7,decide_true,decide_false,ol]
   have e:al7 (0<=jq (x.natAbs:Int) (y.natAbs:Int))=al2:=by
    rcases fJ (x.natAbs:Int) (y.natAbs:Int) with ⟨h,e⟩|⟨h,e⟩|⟨h,e⟩<;>rw [e]<;>first|rfl|omega
   rw [e,minus (Z:=((x+y).natAbs:Int)) _ _ (by omega) (by omega) n2 (by omega) (by omega)]
   have h5: ¬(x+y<0):=by omega
   simp [h5]
 · simp only [h1,h2,decide_true,decide_false,show (al2==ajE)=al2 from rfl,ol]
   by_cases h3:(y.natAbs:Int)<=(x.natAbs:Int)
   · have e:al7 (0<=jq (x.natAbs:Int) (y.natAbs:Int))=ajE:=by
      rcases fJ (x.natAbs:Int) (y.natAbs:Int) with ⟨h,e⟩|⟨h,e⟩|⟨h,e⟩<;>rw [e]<;>first|rfl|omega
     rw [e,minus (Z:=((x+y).natAbs:Int)) _ _ (by omega) (by omega) n1 h3 (by omega)]
     have h5: ¬(x+y<0):=by omega
     simp [h5]
   have e:al7 (0<=jq (x.natAbs:Int) (y.natAbs:Int))=al2:=by
    rcases fJ (x.natAbs:Int) (y.natAbs:Int) with ⟨h,e⟩|⟨h,e⟩|⟨h,e⟩<;>rw [e]<;>first|rfl|omega
   rw [e,minus (Z:=((x+y).natAbs:Int)) _ _ (by omega) (by omega) n2 (by omega) (by omega)]
   have h5:x+y<0:=by omega
   simp [h5]
 have h3: ¬(x+y<0):=by omega
 simp only [h1,h2,h3,decide_false,beq_self_eq_true,lw];exact same (by omega) (by omega) n1 n2 (by omega) al2
theorem alV {p q:Pt} {t:Int×Int} (hp:fK p) (hq:fK q) (ht:oM t):yH p q t=ajD (jq (HV p q t) 0):=by
 obtain ⟨g1,g2,g3⟩:=Vr hp hq ht;unfold yH;rw [iC g1,iC g2,wg g1 ht.2,wg g2 ht.1];simp only [ar];rw [adX (uY g1 ht.2) (uY g2 ht.1)];simp only [ar];rw [show (p.2.1-q.2.1)*t.2+(p.2.2-q.2.2)*t.1=HV p q t from rfl];obtain ⟨a1,a2,a3,a4,a5,a6⟩:=hp;obtain ⟨b1,b2,b3,b4,b5,b6⟩:=hq
 have k: ∀{x y:Int},-2097152<=x/\x<=2097152->we y-> -19342813113834066795298816<=x*y/\x*y<=19342813113834066795298816:=by
  intro x y hx hy
  have:((x*y).natAbs:Int)<=2097152*9223372036854775808:=by
   rw [<- Br];exact aeC (by omega) (yR hy) (by omega) (by decide)
  omega
 have k1:=k (x:=p.2.1-q.2.1) (by omega) ht.2
 have k2:=k (x:=p.2.2-q.2.2) (by omega) ht.1
 have:((HV p q t).natAbs:Int)<=85070591730234615865843651857942052864:=by unfold HV;omega
 rw [JI this];rfl
theorem FM {p q:Pt} {t:Int×Int} (hp:fK p) (hq:fK q) (ht:oM t):nk p q t=ajD (al7 (leads p q t)):=by
 unfold nk leads;rw [alV hp hq ht];simp only [ar];rcases fJ (HV p q t) 0 with ⟨h,e⟩|⟨h,e⟩|⟨h,e⟩<;>rw [e]
 · have h1: ¬(0<HV p q t):=by omega
   have h2: ¬(HV p q t=0):=by omega
   simp [h1,h2]
 · rw [h]
   by_cases h3:p.2.2=q.2.2
   · simp [h3]
   simp [h3,cC h3]
 simp [h]
theorem tZ {p q:Pt} {t:Int×Int} (ht:oM t):o3 p q t=ajD (if fK p/\fK q/\cE t then (if p.1=q.1 then 2 else 0) else 8):=by
 unfold o3;simp only [iM,fI ht,ar]
 by_cases h4:p.1=q.1
 · by_cases h1:fK p<;>by_cases h2:fK q<;>by_cases h3:cE t<;>simp [h1,h2,h3,h4]
 have h5:=dR h4
 by_cases h1:fK p<;>by_cases h2:fK q<;>by_cases h3:cE t<;>simp [h1,h2,h3,h4,h5]
theorem adY {n d:Int} (hn:we n) (hd:we d):vZ n d=lC n d:=by
 unfold vZ lC
 by_cases h0:d=0
 · subst h0;rfl
 have e0:(d==0)=al2:=by simpa using h0
 simp only [e0,ol,oz hn,oz hd,jh hn,jh hd,ar,zA,o7];have hp:0<Do n.natAbs d.natAbs:=af0 _ (by omega)
 have e1:((Do n.natAbs d.natAbs:Int)==0)=al2:=by simp;omega
 simp only [e1,ol];unfold xR oW;simp only [show al7 ((0:Int)<0)=al2 from rfl,ol]
 by_cases h3:n=0
 · subst h3
   have z: ∀k:Int,ae .u64 (afb (((0:Int).natAbs:Nat):Int) k)=0:=fun k=>by
    rw [show (((0:Int).natAbs:Nat):Int)=0 from rfl,Int.zero_tdiv];rfl
   have z2:ae .i64 0=0:=rfl;have z3:ae .i64 (0-0)=0:=rfl;simp only [z,z2,z3,show ((0:Int) !=0)=al2 from rfl,ol,show al7 ((0:Int)<0)=al2 from rfl];cases (!(al2==al7 (d<0)))<;>simp
 simp only [cC h3]
 cases (!(al7 (n<0)==al7 (d<0)))<;>rfl
noncomputable def met (p q:Pt):Int×Int:=((lC (p.2.1-q.2.1) (q.2.2-p.2.2)).getD ((0,0),0)).1
theorem OJ {n d:Int} (hn: -2097152<=n/\n<=2097152) (hd: -2097152<=d/\d<=2097152) (h0:d≠0): ∃r,lC n d=ajD (r,0)/\cE r/\oM r/\r.1*d=n*r.2:=by
 have hn':we n:=by constructor<;>omega
 have hd':we d:=by constructor<;>omega
 unfold lC;have e0:(d==0)=al2:=by simpa using h0
 have hp:0<Do n.natAbs d.natAbs:=af0 _ (by omega)
 have e1:((Do n.natAbs d.natAbs:Int)==0)=al2:=by simp;omega
 simp only [e0,ol,jh hn',jh hd',ar,o7,e1];have q1:afb (n.natAbs:Int) (Do n.natAbs d.natAbs:Int)=((n.natAbs / Do n.natAbs d.natAbs:Nat):Int):=by
  rw [afY]
 have q2:afb (d.natAbs:Int) (Do n.natAbs d.natAbs:Int)=((d.natAbs / Do n.natAbs d.natAbs:Nat):Int):=by
  rw [afY]
 rw [q1,q2];have l1:n.natAbs / Do n.natAbs d.natAbs<=2097152:=ajB (afI _ _) (by omega)
 have l2:d.natAbs / Do n.natAbs d.natAbs<=2097152:=ajB (afI _ _) (by omega)
 have l3:1<=d.natAbs / Do n.natAbs d.natAbs:=Nat.div_pos (Nat.le_of_dvd (by omega) (aeJ _ _)) hp
 have co:Do (d.natAbs / Do n.natAbs d.natAbs) (n.natAbs / Do n.natAbs d.natAbs)=1:=by
  rw [aem,Nat.gcd_div (aft _ _) (aeJ _ _)];exact Nat.div_self hp
 have v1:n.natAbs=Do n.natAbs d.natAbs*(n.natAbs / Do n.natAbs d.natAbs):=(afe (aft _ _)).symm;have v2:d.natAbs=Do n.natAbs d.natAbs*(d.natAbs / Do n.natAbs d.natAbs):=(afe (aeJ _ _)).symm
 have val:(n.natAbs:Int)*((d.natAbs / Do n.natAbs d.natAbs:Nat):Int)=(d.natAbs:Int)*((n.natAbs / Do n.natAbs d.natAbs:Nat):Int):=by
  generalize n.natAbs / Do n.natAbs d.natAbs=a at*;generalize d.natAbs / Do n.natAbs d.natAbs=b at*;generalize Do n.natAbs d.natAbs=g at*;rw [v1,v2,afK,afK,agd,agd,aex (a:Int) (b:Int)]
 clear v1 v2;generalize n.natAbs / Do n.natAbs d.natAbs=a at*;generalize d.natAbs / Do n.natAbs d.natAbs=b at*;have w1:ae .u64 (a:Int)=a:=by rw [wu];omega
 have w2:ae .u64 (b:Int)=b:=by rw [wu];omega
 have made: ∀s:Bool,oW s (al2,0,(a:Int)) (al2,0,(b:Int))=ajD ((if s=ajE then -(a:Int) else a,(b:Int)),0):=by
  intro s;unfold oW;have d1:al7 (9223372036854775807<(a:Int))=al2:=by simp;omega
  have d2:al7 (9223372036854775807<(b:Int))=al2:=by simp;omega
  have v1:ae .i64 (a:Int)=a:=by rw [wi];omega
  have v2:ae .i64 (b:Int)=b:=by rw [wi];omega
  have v3:ae .i64 (0- (a:Int))= -(a:Int):=by rw [wi];omega
  simp only [show al7 ((0:Int)<0)=al2 from rfl,ol,d1,d2,v1,v2,v3];cases s<;>simp
 have fin: ∀s:Bool,(if s=ajE then -(a:Int) else a)*d=n*b-> ∃r,(ajD ((if s=ajE then -(a:Int) else a,(b:Int)),(0:Int)):Option ((Int×Int)×Int))=ajD (r,0)/\cE r/\oM r/\r.1*d=n*r.2:=by
  intro s hv;refine ⟨_,rfl,?_,?_,hv⟩
  · unfold cE
    dsimp only;refine ⟨by omega,?_,?_⟩
    · cases s
      · simp only [afp,if_false];omega
      simp only [if_true];omega
    rw [show (if s=ajE then -(a:Int) else (a:Int)).natAbs=a by cases s<;>simp,show ((b:Int)).natAbs=b by omega];exact co
  constructor
  · dsimp only;cases s
    · simp only [afp,if_false];constructor<;>omega
    simp only [if_true];constructor<;>omega
  dsimp only;constructor<;>omega
 simp only [w1,w2,made,ar]
 by_cases h1:(!(al7 (n<0)==al7 (d<0)))=ajE
 · rw [h1]
   refine fin (n !=0) ?_
   by_cases Wx:n=0
   · subst Wx
     have a0:(a:Int)=0:=by
      have:((d.natAbs:Nat):Int)*(a:Int)=0:=by rw [<- val];simp
      rcases Int.mul_eq_zero.1 this with h|h
      · omega
      exact h
     simp [a0]
   have e:(n !=0)=ajE:=by simpa using Wx
   rw [e,pp rfl]
   by_cases Vs:n<0
   · have hd0: ¬d<0:=fun k=>by simp [Vs,k] at h1
     have x1:(n.natAbs:Int)= -n:=by omega
     have x2:(d.natAbs:Int)=d:=by omega
     rw [x1,x2,aeu] at val;rw [aeu,aex];omega
   have hd0:d<0:=by
    by_cases k:d<0
    · exact k
    simp [Vs,k] at h1
   have x1:(n.natAbs:Int)=n:=by omega
   have x2:(d.natAbs:Int)= -d:=by omega
   rw [x1,x2,aeu] at val;rw [aeu,aex];omega
 rw [af3] at h1;rw [h1]
 refine fin al2 ?_;rw [rc (by simp)]
 by_cases Vs:n<0
 · have hd0:d<0:=by
    by_cases k:d<0
    · exact k
    simp [Vs,k] at h1
   have x1:(n.natAbs:Int)= -n:=by omega
   have x2:(d.natAbs:Int)= -d:=by omega
   rw [x1,x2,aeu,aeu] at val;rw [aex];omega
 have hd0: ¬d<0:=fun k=>by simp [Vs,k] at h1
 have x1:(n.natAbs:Int)=n:=by omega
 have x2:(d.natAbs:Int)=d:=by omega
 rw [x1,x2] at val;rw [aex];omega
theorem OK {p q:Pt} (hp:fK p) (hq:fK q) (h:p.2.2≠q.2.2):lC (p.2.1-q.2.1) (q.2.2-p.2.2)=ajD (met p q,0)/\cE (met p q)/\oM (met p q)/\(met p q).1*(q.2.2-p.2.2)=(p.2.1-q.2.1)*(met p q).2:=by
 obtain ⟨a1,a2,a3,a4,a5,a6⟩:=hp;obtain ⟨b1,b2,b3,b4,b5,b6⟩:=hq;obtain ⟨r,h1,h2,h3⟩:=OJ (n:=p.2.1-q.2.1) (d:=q.2.2-p.2.2) (by omega) (by omega) (by omega)
 have:met p q=r:=by unfold met;rw [h1];rfl
 rw [this];exact ⟨h1,h2,h3⟩
theorem HW {p q:Pt} (hp:fK p) (hq:fK q):ae .i64 (p.2.1-q.2.1)=p.2.1-q.2.1/\ae .i64 (q.2.2-p.2.2)=q.2.2-p.2.2/\we (p.2.1-q.2.1)/\we (q.2.2-p.2.2):=by
 obtain ⟨a1,a2,a3,a4,a5,a6⟩:=hp;obtain ⟨b1,b2,b3,b4,b5,b6⟩:=hq;have h1:we (p.2.1-q.2.1):=by constructor<;>omega
 have h2:we (q.2.2-p.2.2):=by constructor<;>omega
 exact ⟨iC h1,iC h2,h1,h2⟩
noncomputable def zC (h l:Pt) (t:Int×Int):(Int×Int)×Bool:=if leads l h t then (t,ajE) else if h.2.2<l.2.2 then (met h l,ajE) else ((0,0),al2)
theorem alW {p q:Pt} (hp:fK p) (hq:fK q) (h:p.2.2≠q.2.2):yK p q=ajD (met p q):=by
 obtain ⟨w1,w2,_,_⟩:=HW hp hq;unfold yK;rw [w1,w2,(OK hp hq h).1];rfl
theorem OL {h l:Pt} {t:Int×Int} (hh:fK h) (hl:fK l) (ht:oM t):pE h l t=ajD (zC h l t):=by
 unfold pE zC;rw [FM hl hh ht];simp only [ar]
 by_cases h1:leads l h t
 · simp [h1]
 simp only [h1,decide_false,ol,if_false]
 by_cases h2:h.2.2<l.2.2
 · simp [h2,alW hh hl (by omega)]
 simp [h2]
theorem Vt:cE (0,1):=by unfold cE;decide
theorem DE {h l:Pt} {t:Int×Int} (ht:oM t):
 rq h l t=ajD (if fK h/\fK l/\cE t/\h.1≠l.1 then ((zC h l t).1,(zC h l t).2,0) else ((0,0),al2,if fK h/\fK l/\cE t then 2 else 8)):=by
 unfold rq;rw [tZ ht]
 by_cases h1:fK h/\fK l/\cE t
 · rw [pp h1]
   by_cases h2:h.1=l.1
   · simp [h1,h2]
   obtain ⟨hh,hl,hr⟩:=h1
   rw [rc h2,pp ⟨hh,hl,hr,h2⟩];simp only [ar,show ((0:Int) !=0)=al2 from rfl,ol,tC hl hh ht];unfold zC
   by_cases h3:leads l h t
   · have:al7 (0<OI l h t)=ajE:=by simpa using (FL l h t).2 h3
     rw [this];simp [h3]
   have:al7 (0<OI l h t)=al2:=decide_eq_false fun k=>h3 ((FL l h t).1 k)
   rw [this,rc h3];simp only [ol]
   by_cases h4:h.2.2<l.2.2
   · have e:al7 (l.2.2<=h.2.2)=al2:=by simp;omega
     rw [e,pp h4];unfold xS;obtain ⟨w1,w2,i1,i2⟩:=HW hh hl;have e2:(h.2.2==l.2.2)=al2:=by simp;omega
     rw [tZ (by constructor<;>constructor<;>decide),pp ⟨hh,hl,Vt⟩,rc h2]
     simp only [ar,show ((0:Int) !=0)=al2 from rfl,ol,e2,w1,w2,adY i1 i2,(OK hh hl (by omega)).1]
     rfl
   have e:al7 (l.2.2<=h.2.2)=ajE:=by simp;omega
   rw [e,rc h4];rfl
 rw [rc h1,rc (fun h=>h1 ⟨h.1,h.2.1,h.2.2.1⟩),rc h1];rfl
theorem FN {h l:Pt} {t:Int×Int} (hh:fK h) (hl:fK l) (ht:oM t) (hr:cE t) (h2:(zC h l t).2=ajE):cE (zC h l t).1/\oM (zC h l t).1:=by
 unfold zC at*
 by_cases h3:leads l h t
 · rw [pp h3];exact ⟨hr,ht⟩
 rw [rc h3] at h2 ⊢
 by_cases h4:h.2.2<l.2.2
 · rw [pp h4];have:=(OK hh hl (by omega)).2;exact ⟨this.1,this.2.1⟩
 rw [rc h4] at h2;cases h2
theorem OM: ∀(n:Nat) (l:List Nat),l.Nodup->(∀x∈l,x<n)->ajC l<=n
 |0,l,_,h=>by
  cases l with
  |nil=>simp
  |cons a l=>exact absurd (h a (by simp)) (by omega)
 |n+1,l,hd,h=>by
  have h1:=OM n (l.filter (fun x=>x≠n)) (hd.filter _) (by
   intro x hx;rw [afO] at hx
   have:=h x hx.1
   have h2:x≠n:=by simpa using hx.2
   omega)
  have h2:(ajC l)<=(l.filter (fun x=>x≠n)).length+1:=by
   clear h1 h
   induction l with
   |nil=>simp
   |cons a l ih=>
    rw [aev] at hd
    have:=ih hd.2
    by_cases ha:a=n
    · subst ha
      have e:l.filter (fun x=>decide (x≠a))=l:=by
       rw [List.filter_eq_self];intro x hx;simp only [ne_eq,decide_eq_true_eq];rintro rfl;exact hd.1 hx
      rw [List.filter_cons_of_neg (by simp),e];simp
    rw [List.filter_cons_of_pos (by simpa using ha)]
    simp only [afu];omega
  omega
theorem Di {n:Nat} {l:List Nat} (hd:l.Nodup) (h: ∀x∈l,x<n) (hn:n<=ajC l): ∀x,x<n->x∈l:=by
 intro x hx;refine IR fun hc=>?_
 have:=OM n (x::l) (by rw [aev];exact ⟨hc,hd⟩) (by
  intro y hy;rcases age.1 hy with rfl|hy
  · exact hx
  exact h y hy)
 simp only [afu] at this;omega
def fM (l:List Pt):Prop:= ∀i,i+1<ajC l->(l[i]!).1<(l[i+1]!).1
def bC (l:List Pt):Prop:=ajC l<=64/\(∀p∈l,fK p)/\fM l
noncomputable def sC (l:List Pt):Int:=if 64<(ajC l) then 4 else if¬(∀p∈l,fK p) then 8 else if¬fM l then 32 else 0
theorem fo {l:List Pt}:sC l=0↔bC l:=by
 unfold sC bC
 by_cases h1:64<ajC l
 · rw [pp h1];simp;omega
 rw [rc h1]
 by_cases h2: ∀p∈l,fK p
 · rw [rc (v6.2 h2)]
   by_cases h3:fM l
   · rw [rc (v6.2 h3)]
     exact ⟨fun _=>⟨by omega,h2,h3⟩,fun _=>rfl⟩
   rw [pp h3]
   exact ⟨fun h=>(by cases h),fun h=>absurd h.2.2 h3⟩
 rw [pp h2]
 constructor
 · intro h;cases h
 intro h;exact absurd h.2.1 h2
theorem aT {n:Nat} (h:n<1000000000):ae .i64 ((n:Int)+1)=((n+1:Nat):Int):=by rw [wi];omega
theorem mF {n:Nat} (h:n<1000000000) (h1:1<=n):ae .i64 ((n:Int) -1)=((n-1:Nat):Int):=by rw [wi];omega
theorem aA (n:Nat):NE n=(n:Int):=rfl
theorem Mh (l:List Pt) (h:(ajC l)<=64):ax iv (1,l)=ajD (.done (if fM l then 0 else 32)):=by
 by_cases hl:(ajC l)<=1
 · have:fM l:=fun i hi=>by omega
   rw [pp this];refine aJ ?_;unfold iv;rw [aA]
   have:al7 ((1:Int)<((ajC l):Int))=al2:=by simp;omega
   simp [this]
 have key:=dh (body:=iv) (fun i=>(((i+1:Nat):Int),l)) (ajC l-1) (fun i=>(l[i+1]!).1<=(l[i]!).1) (r:= .done 32) (e:= .done 0) (by
  intro i hi;have e1:al7 (((i+1:Nat):Int)<((ajC l):Int))=ajE:=by simp;omega
  have e2:ae .i64 (((i+1:Nat):Int) -1)=(i:Int):=by rw [wi];omega
  have hb:iv (((i+1:Nat):Int),l)=bif al7 ((l[i+1]!).1<=(l[i]!).1) then ajD (.done (.done 32)) else ajD (.next (((i+1+1:Nat):Int),l)):=by
   unfold iv;simp only [aA,e1,lw,e2,au l i (by omega),au l (i+1) (by omega),ar,aT (show i+1<1000000000 by omega)]
  constructor
  · intro hc;rw [hb,decide_eq_true hc];rfl
  · intro hc;rw [hb,decide_eq_false hc];rfl) (by
  unfold iv
  have:al7 (((ajC l-1+1:Nat):Int)<NE (ajC l))=al2:=by rw [aA];simp;omega
  simp only [this,ol])
 by_cases hs:fM l
 · rw [pp hs]
   refine key.2 fun i hi=>?_
   have:=hs i (by omega)
   omega
 rw [rc hs]
 refine key.1 ?_;unfold fM at hs;simp only [F0s] at hs;obtain ⟨i,hi,h2⟩:=hs;exact ⟨i,by omega,by omega⟩
theorem oA (f:Field):gf f=ajD (sC f.am):=by
 unfold gf sC;rw [aA]
 by_cases h:64<ajC f.am
 · have:al7 ((64:Int)<((ajC f.am):Int))=ajE:=by simp;omega
   rw [this,pp h];rfl
 have:al7 ((64:Int)<((ajC f.am):Int))=al2:=by simp;omega
 rw [this,rc h];simp only [ol];generalize f.am=l at*;have key:=dh (body:=lx) (fun i=>((i:Int),l)) (ajC l) (fun i=> ¬fK l[i]!) (r:=8) (e:=if fM l then 0 else 32) (by
  intro i hi;have e1:al7 ((i:Int)<((ajC l):Int))=ajE:=by simp;omega
  have hb:lx ((i:Int),l)=bif (if fK l[i]! then (0:Int) else 8) !=0 then ajD (.done 8) else ajD (.next (((i+1:Nat):Int),l)):=by
   unfold lx;simp only [aA,e1,lw,au l i (by omega),ar,lI,aT (show i<1000000000 by omega)]
  constructor
  · intro hc;rw [hb,rc hc];rfl
  · intro hc;rw [hb,pp (v6.1 hc)];rfl) (by
  unfold lx
  have:al7 (((ajC l):Int)<NE (ajC l))=al2:=by rw [aA];simp
  simp only [this,ol];exact Mh l (by omega))
 by_cases hp: ∀p∈l,fK p
 · rw [rc (v6.2 hp)]
   refine (key.2 fun i hi=>?_).trans ?_
   · exact v6.2 (hp _ (aY hi))
   by_cases hs:fM l
   · simp [hs]
   simp [hs]
 rw [pp hp]
 refine key.1 ?_;obtain ⟨p,hp⟩:=F0s.1 hp;obtain ⟨hm,h2⟩:=aet.1 hp;obtain ⟨i,hi,rfl⟩:=aS.1 hm;exact ⟨i,hi,h2⟩
theorem Mi (l:List Pt) (h:(ajC l)<=64):ax iy (l,((ajC l):Int),0,l)=ajD (.done (if fM l then 0 else 32)):=by
 have key:=dh (body:=iy) (fun i=>(l,((ajC l):Int),(i:Int),l)) (ajC l) (fun i=>0<i/\(l[i]!).1<=(l[i-1]!).1) (r:= .done 32) (e:= .done 0) (by
  intro i hi;have e1:al7 ((i:Int)<((ajC l):Int))=ajE:=by simp;omega
  by_cases h0:0<i
  · have e3:al7 ((0:Int)<(i:Int))=ajE:=by simp;omega
    have hb:iy (l,((ajC l):Int),(i:Int),l)=bif al7 ((l[i]!).1<=(l[i-1]!).1) then ajD (.done (.done 32)) else ajD (.next (l,((ajC l):Int),((i+1:Nat):Int),l)):=by
     unfold iy;simp only [e1,e3,lw,au l i (by omega),mF (show i<1000000000 by omega) h0,au l (i-1) (by omega),ar,aT (show i<1000000000 by omega)]
    constructor
    · intro hc;rw [hb,decide_eq_true hc.2];rfl
    intro hc
    have: ¬(l[i]!).1<=(l[i-1]!).1:=fun h=>hc ⟨h0,h⟩
    rw [hb,decide_eq_false this];rfl
  · have e3:al7 ((0:Int)<(i:Int))=al2:=by simp;omega
    constructor
    · intro hc;exact absurd hc.1 h0
    intro _
    unfold iy;simp only [e1,e3,lw,ol,au l i (by omega),ar,aT (show i<1000000000 by omega)]) (by
  unfold iy
  have:al7 (((ajC l):Int)<((ajC l):Int))=al2:=by simp
  simp only [this,ol])
 by_cases hs:fM l
 · rw [pp hs]
   refine key.2 fun i hi=>?_
   rintro ⟨h0,h1⟩
   have:=hs (i-1) (by omega)
   rw [show i-1+1=i by omega] at this
   omega
 rw [rc hs]
 refine key.1 ?_;unfold fM at hs;simp only [F0s] at hs;obtain ⟨i,hi,h2⟩:=hs;exact ⟨i+1,by omega,by omega,by rw [show i+1-1=i by omega];omega⟩
theorem gm (f:Field):dQ f=ajD (sC f.am):=by
 unfold dQ sC;rw [aA]
 by_cases h:64<ajC f.am
 · have:al7 ((64:Int)<((ajC f.am):Int))=ajE:=by simp;omega
   rw [this,pp h];rfl
 have:al7 ((64:Int)<((ajC f.am):Int))=al2:=by simp;omega
 rw [this,rc h];simp only [ol];generalize f.am=l at*;have key:=dh (body:=lD) (fun i=>(l,((ajC l):Int),(i:Int),l)) (ajC l) (fun i=> ¬fK l[i]!) (r:=8) (e:=if fM l then 0 else 32) (by
  intro i hi;have e1:al7 ((i:Int)<((ajC l):Int))=ajE:=by simp;omega
  have hb:lD (l,((ajC l):Int),(i:Int),l)=bif (if fK l[i]! then (0:Int) else 8) !=0 then ajD (.done (if fK l[i]! then (0:Int) else 8)) else ajD (.next (l,((ajC l):Int),((i+1:Nat):Int),l)):=by
   unfold lD;simp only [e1,lw,au l i (by omega),ar,iM,aT (show i<1000000000 by omega)]
  constructor
  · intro hc;rw [hb,rc hc];rfl
  · intro hc;rw [hb,pp (v6.1 hc)];rfl) (by
  unfold lD
  have:al7 (((ajC l):Int)<((ajC l):Int))=al2:=by simp
  simp only [this,ol];exact Mi l (by omega))
 by_cases hp: ∀p∈l,fK p
 · rw [rc (v6.2 hp)]
   refine (key.2 fun i hi=>?_).trans ?_
   · exact v6.2 (hp _ (aY hi))
   by_cases hs:fM l
   · simp [hs]
   simp [hs]
 rw [pp hp]
 refine key.1 ?_;obtain ⟨p,hp⟩:=F0s.1 hp;obtain ⟨hm,h2⟩:=aet.1 hp;obtain ⟨i,hi,rfl⟩:=aS.1 hm;exact ⟨i,hi,h2⟩
theorem eH {l:List Pt} (h:fM l) {i j:Nat} (k8:i<j) (hj:j<ajC l):(l[i]!).1<(l[j]!).1:=by
 induction j with
 |zero=>omega
 |succ j ih=>
  have h1:=h j hj
  by_cases he:i=j
  · subst he;exact h1
  have:=ih (by omega) (by omega);omega
theorem Ap {l:List Pt} (h:fM l) {i j:Nat} (hi:i<ajC l) (hj:j<ajC l) (he:(l[i]!).1=(l[j]!).1):i=j:=by
 rcases Nat.lt_trichotomy i j with h1|h1|h1
 · have:=eH h h1 hj;omega
 · exact h1
 have:=eH h h1 hi;omega
theorem Dj (l:List Pt) (id:Int) (hl:(ajC l)<=1000000):(∀k,k<ajC l->(l[k]!).1=id->(∀j,j<k->(l[j]!).1≠id)->fE ⟨l⟩ id=ajD (k:Int))/\((∀k,k<ajC l->(l[k]!).1≠id)->fE ⟨l⟩ id=ajD (-1)):=by
 unfold fE;refine hO (body:=qe) (fun i=>(id,(i:Int),l)) (ajC l) (fun i=>(l[i]!).1=id) (fun i=>(i:Int)) (fun i hi=>?_) ?_
 · have e1:al7 ((i:Int)<((ajC l):Int))=ajE:=by simp;omega
   have hb:qe (id,(i:Int),l)=bif (l[i]!).1==id then ajD (.done (i:Int)) else ajD (.next (id,((i+1:Nat):Int),l)):=by
    unfold qe;simp only [aA,e1,lw,au l i hi,ar,aT (show i<1000000000 by omega)]
   constructor
   · intro hc;rw [hb,eu hc];rfl
   intro hc;rw [hb,dR hc];rfl
 unfold qe
 have:al7 (((ajC l):Int)<((ajC l):Int))=al2:=by simp
 simp only [aA,this,ol]
theorem CC {l:List Pt} (hs:fM l) (hl:(ajC l)<=1000000) {k:Nat} (hk:k<ajC l) {id:Int} (he:(l[k]!).1=id):fE ⟨l⟩ id=ajD (k:Int):=by
 refine (Dj l id hl).1 k hk he fun j hj hc=>?_
 have:=eH hs hj hk
 omega
theorem adZ {l:List Pt} (hl:(ajC l)<=1000000) {id:Int} (h: ∀k,k<ajC l->(l[k]!).1≠id):fE ⟨l⟩ id=ajD (-1):=(Dj l id hl).2 h
theorem Mj (f:Nat->Int) (id:Int): ∀(n:Nat),(∀i j,i<j->j<n->f i<f j)-> ∃m,m<=n/\(∀i,i<m->f i<id)/\(∀i,m<=i->i<n->id<=f i)
 |0,_=>⟨0,af9 _,fun i h=>by omega,fun i _ h=>by omega⟩
 |n+1,h=>by
  obtain ⟨m,h1,h2,h3⟩:=Mj f id n fun i j a b=>h i j a (by omega)
  by_cases hm:m=n
  · by_cases hf:f n<id
    · refine ⟨n+1,af9 _,fun i hi=>?_,fun i a b=>by omega⟩
      by_cases he:i=n
      · subst he;exact hf
      exact h2 i (by omega)
    refine ⟨n,by omega,fun i hi=>h2 i (by omega),fun i a b=>?_⟩
    have:i=n:=by omega
    subst this;omega
  refine ⟨m,by omega,h2,fun i a b=>?_⟩
  by_cases he:i=n
  · subst he
    have:=h m i (by omega) (by omega)
    have:=h3 m (af9 _) (by omega)
    omega
  exact h3 i a (by omega)
theorem gI {α:Type} [Inhabited α] {l:List α}:l.Nodup↔ ∀i j,i<j->j<ajC l->l[i]!≠l[j]!:=by
 unfold List.Nodup;rw [List.pairwise_iff_getElem];constructor
 · intro h i j k8 hj
   rw [getElem!_pos l i (by omega),getElem!_pos l j hj]
   exact h i j (by omega) hj k8
 intro h i j hi hj k8
 have:=h i j k8 hj
 rwa [getElem!_pos l i hi,getElem!_pos l j hj] at this
theorem cf {α:Type} [Inhabited α] {l:List α} {k:Nat} {x:α}:x∈l.take k↔ ∃i,i<k/\i<ajC l/\l[i]! =x:=by
 rw [aS];constructor
 · rintro ⟨i,hi,rfl⟩
   rw [ae0] at hi;exact ⟨i,by omega,by omega,(iL (by omega)).symm⟩
 rintro ⟨i,h1,h2,rfl⟩
 exact ⟨i,by rw [ae0];omega,iL h1⟩
theorem ew {α:Type} [Inhabited α] {l:List α} {k:Nat} (h:k<ajC l):l.take (k+1)=l.take k++[l[k]!]:=by
 rw [List.take_add_one,aeZ h,getElem!_pos l k h];rfl
def marks (l:List Bool):List Int->List Bool
 | []=>l
 |x::r=>marks (cj l x ajE) r
theorem lX: ∀(r:List Int) (l:List Bool),(marks l r).length=ajC l
 | [],_=>rfl
 |x::r,l=>by rw [marks,lX r,xE]
theorem Aq: ∀(r:List Int) (l:List Bool) (x:Int),marks l (r++[x])=cj (marks l r) x ajE
 | [],_,_=>rfl
 |y::r,l,x=>by
  show marks (cj l y ajE) (r++[x])=_;rw [Aq r];rfl
theorem nA : ∀ (r : List Int) (l : List Bool) (i : Nat), (∀ x ∈ r, 0 <= x) -> i < (ajC l) -> (marks l r)[i]! = (l[i]! || al7 ((i : Int) ∈ r))
  | [], l, i, _, _ => by simp [marks]
  | x :: r, l, i, h, hi => by
    rw [marks, nA r _ i (fun y hy => h y (by simp [hy])) (by rw [xE]; exact hi)]
    obtain ⟨k, rfl⟩ := ae5 (h x (by simp))
    rw [mu, aU]
    by_cases e : i = k
    · subst e; rw [pp ⟨rfl, hi⟩]; simp
    rw [rc (fun h => e h.1)]
    have : ((i : Int) ∈ (k : Int) :: r) ↔ (i : Int) ∈ r := by
      rw [age]
      constructor
      · rintro (h | h)
        · omega
        exact h
      exact .inr
    simp only [this]
theorem FO (l:List Bool) (h:(ajC l)<=1000000):eg l al2=ajD (al7 (al2∈l)):=by
 unfold eg oc;have key:=hO (body:=gi) (fun i=>(l,al2,((ajC l):Int),(i:Int))) (ajC l) (fun i=>l[i]! =al2) (fun i=>(i:Int)) (e:= -1) (fun i hi=>by
  have e1:al7 ((i:Int)<((ajC l):Int))=ajE:=by simp;omega
  have hb:gi (l,al2,((ajC l):Int),(i:Int))=bif al2==l[i]! then ajD (.done (i:Int)) else ajD (.next (l,al2,((ajC l):Int),((i+1:Nat):Int))):=by
   unfold gi;simp only [e1,lw,au l i hi,ar,aT (show i<1000000000 by omega)]
  constructor
  · intro hc;rw [hb,hc];rfl
  · intro hc
    have:l[i]! =ajE:=by simpa using hc
    rw [hb,this];rfl) (by
  unfold gi
  have:al7 (((ajC l):Int)<((ajC l):Int))=al2:=by simp
  simp only [this,ol])
 rw [aA]
 by_cases hx:al2∈l
 · obtain ⟨i,hi,he⟩:=aS.1 hx
   obtain ⟨k,h1,h2,h3⟩:=least (c:=fun i=>l[i]! =al2) ⟨i,hi,he⟩
   have:=key.1 k h1 h2 h3
   rw [show ((0:Nat):Int)=0 from rfl] at this;rw [this];have e:al7 ((0:Int)<=(k:Int))=ajE:=by simp
   simp [hx]
 have:=key.2 fun i hi he=>hx (aS.2 ⟨i,hi,he⟩)
 rw [show ((0:Nat):Int)=0 from rfl] at this;rw [this];simp [hx]
structure eM (s:bc):Prop where
 n1:1<=ajC s.aB
 n2:(ajC s.aB)<=200
 ul:(ajC s.be)=ajC s.aB
 fr: ∀x∈s.bi,0<=x/\x<ajC s.aB
 fd:s.bi.Nodup
 uf: ∀i,i<ajC s.aB->(s.be[i]! =ajE↔(i:Int)∉s.bi)
 us: ∀i,i<ajC s.aB->0<=s.aB[i]!/\s.aB[i]!<=1000000/\(s.be[i]! =ajE->1<=s.aB[i]!)
theorem ON (aB:List Int) (be:List Bool) (fr:List Int) (h1:(ajC aB)<=200) (h2:(ajC be)=ajC aB):
 ax gb (aB,((ajC aB):Int),0,aB,be,fr)=ajD (.done (if∀i,i<ajC aB->0<=aB[i]!/\aB[i]!<=1000000/\(be[i]! =ajE->1<=aB[i]!) then 0 else 8)):=by
 have key:=dh (body:=gb) (fun i=>(aB,((ajC aB):Int),(i:Int),aB,be,fr)) (ajC aB) (fun i=> ¬(0<=aB[i]!/\aB[i]!<=1000000/\(be[i]! =ajE->1<=aB[i]!))) (r:= .done 8) (e:= .done 0) (fun i hi=>by
  have e1:al7 ((i:Int)<((ajC aB):Int))=ajE:=by simp;omega
  have hb:gb (aB,((ajC aB):Int),(i:Int),aB,be,fr)=bif al7 (aB[i]!<0) then ajD (.done (.done 8)) else bif al7 (1000000<aB[i]!) then ajD (.done (.done 8)) else bif aB[i]! ==0 then (bif be[i]! then ajD (.done (.done 8)) else ajD (.next (aB,((ajC aB):Int),((i+1:Nat):Int),aB,be,fr))) else ajD (.next (aB,((ajC aB):Int),((i+1:Nat):Int),aB,be,fr)):=by
   unfold gb;simp only [e1,lw,au aB i hi,au be i (by omega),ar,aT (show i<1000000000 by omega)]
  rw [hb];generalize aB[i]! =u at*
  by_cases a1:u<0
  · simp [a1];omega
  · by_cases a2:1000000<u
    · simp [a1,a2];omega
    by_cases a3:u=0
    · subst a3
      cases be[i]!<;>simp
    have a4:1<=u:=by omega
    have a5:0<=u:=by omega
    have a6:u<=1000000:=by omega
    simp [a1,a2,dR a3,a4,a5,a6]) (by
  unfold gb
  have:al7 (((ajC aB):Int)<((ajC aB):Int))=al2:=by simp
  simp only [this,ol])
 by_cases hc: ∀i,i<ajC aB->0<=aB[i]!/\aB[i]!<=1000000/\(be[i]! =ajE->1<=aB[i]!)
 · rw [pp hc]
   exact key.2 fun i hi=>v6.2 (hc i hi)
 rw [rc hc]
 simp only [F0s] at hc;obtain ⟨i,hi,hx⟩:=hc;exact key.1 ⟨i,hi,by simpa only [F0s] using hx⟩
theorem ua (s:bc) (hf:(ajC s.bi)<=1000000):oZ s=ajD (if eM s then 0 else 8):=by
 obtain ⟨aB,be,fr⟩:=s;dsimp only at hf;unfold oZ;simp only [aA]
 by_cases a1:(ajC aB)<1
 · have e:al7 (((ajC aB):Int)<1)=ajE:=by simp;omega
   rw [e,rc (fun h=>by have:=h.n1;dsimp only at this;omega)];rfl
 have e1:al7 (((ajC aB):Int)<1)=al2:=by simp;omega
 by_cases a2:200<ajC aB
 · have e:al7 (200<((ajC aB):Int))=ajE:=by simp;omega
   rw [e1,e,rc (fun h=>by have:=h.n2;dsimp only at this;omega)];rfl
 have e2:al7 (200<((ajC aB):Int))=al2:=by simp;omega
 by_cases a3:(ajC be)=ajC aB
 case neg=>
  have e:(((ajC be):Int) !=((ajC aB):Int))=ajE:=by simp;omega
  rw [e1,e2,e,rc (fun h=>a3 h.ul)];rfl
 have e3:(((ajC be):Int) !=((ajC aB):Int))=al2:=by simp;omega
 simp only [e1,e2,e3,ol,ba (show (ajC be)<=1048576 by omega),ar]
 have FP:=ON aB be fr (by omega) a3
 have key:=dh (body:=pH be) (fun k=>(fr,((ajC fr):Int),(k:Int),aB,be,fr,((ajC aB):Int),marks be (fr.take k))) (ajC fr)
  (fun k=>fr[k]!<0\/((ajC aB):Int)<=fr[k]!\/(marks be (fr.take k))[(fr[k]!).toNat]! =ajE) (r:=8)
  (e:=if al2∈marks be fr then 8 else if∀i,i<ajC aB->0<=aB[i]!/\aB[i]!<=1000000/\(be[i]! =ajE->1<=aB[i]!) then 0 else 8) (fun k hk=>by
   have f1:al7 ((k:Int)<((ajC fr):Int))=ajE:=by simp;omega
   have f2:((marks be (fr.take k)).length==ajC be)=ajE:=by rw [lX];simp
   have f3:al7 ((0:Int)<=(k:Int))=ajE:=by simp
   have f4: ∀x:Int,((cj (marks be (fr.take k)) x ajE).length==(marks be (fr.take k)).length)=ajE:=by intro x;rw [xE];simp
   have f5:marks be (fr.take (k+1))=cj (marks be (fr.take k)) fr[k]! ajE:=by rw [ew hk,Aq]
   unfold pH;simp only [f1,f2,f3,f4,lw,beq_self_eq_true,au fr k hk,ar,aT (show k<1000000000 by omega),f5]
   clear f5;generalize fr[k]! =x
   by_cases b1:x<0
   · simp [b1]
   · by_cases b2:((ajC aB):Int)<=x
     · simp [b1,b2]
     simp only [b1,b2,decide_false,ol,false_or]
     rw [dG (l:=marks be (fr.take k)) (i:=x) (by omega) (by rw [lX];omega)]
     simp only [ar];cases (marks be (fr.take k))[x.toNat]!<;>simp) (by
   have f1:al7 (((ajC fr):Int)<((ajC fr):Int))=al2:=by simp
   unfold pH;simp only [f1,ol,afv];rw [FO _ (by rw [lX];omega)]
   have f2:((marks be fr).length==ajC be)=ajE:=by rw [lX];simp
   simp only [f2,lw,ar,aA,FP]
   by_cases hx:al2∈marks be fr
   · simp [hx]
   simp [hx])
 have h0:marks be (fr.take 0)=be:=rfl;rw [show ((0:Nat):Int)=0 from rfl,h0] at key
 by_cases bad: ∃k,k<ajC fr/\(fr[k]!<0\/((ajC aB):Int)<=fr[k]!\/(marks be (fr.take k))[(fr[k]!).toNat]! =ajE)
 · rw [key.1 bad,rc]
   intro ok;obtain ⟨k,hk,hb⟩:=bad;have hr:=ok.fr fr[k]! (aY hk);dsimp only at hr;rcases hb with hb|hb|hb
   · omega
   · omega
   rw [nA _ _ _ (fun x hx=>(ok.fr x (adc hx)).1) (by omega)] at hb
   have hi:((fr[k]!).toNat:Int)=fr[k]!:=by omega
   rw [hi,Bool.or_eq_true] at hb;rcases hb with hb|hb
   · have:=(ok.uf (fr[k]!).toNat (by show _<ajC aB;omega)).1 hb
     rw [hi] at this;exact this (aY hk)
   have hm:fr[k]!∈fr.take k:=by simpa using hb
   obtain ⟨j,h1,h2,h3⟩:=cf.1 hm;exact gI.1 ok.fd j k h1 hk h3
 have OO: ∀k,k<ajC fr->0<=fr[k]!/\fr[k]!<ajC aB/\(marks be (fr.take k))[(fr[k]!).toNat]! =al2:=by
  intro k hk;refine ⟨?_,?_,?_⟩
  · exact Int.not_lt.1 fun h=>bad ⟨k,hk,.inl h⟩
  · exact Int.not_le.1 fun h=>bad ⟨k,hk,.inr (.inl h)⟩
  exact af3 _▸fun h=>bad ⟨k,hk,.inr (.inr h)⟩
 rw [key.2 fun k hk hb=>bad ⟨k,hk,hb⟩]
 have FQ: ∀x∈fr,0<=x/\x<((ajC aB):Int):=by
  intro x hx;obtain ⟨k,hk,rfl⟩:=aS.1 hx;exact ⟨(OO k hk).1,(OO k hk).2.1⟩
 have g2: ∀k,k<ajC fr->be[(fr[k]!).toNat]! =al2/\fr[k]!∉fr.take k:=by
  intro k hk;obtain ⟨c1,c2,c3⟩:=OO k hk;rw [nA _ _ _ (fun x hx=>(FQ x (adc hx)).1) (by omega),show ((fr[k]!).toNat:Int)=fr[k]! by omega,afc] at c3
  exact ⟨c3.1,by simpa using c3.2⟩
 have nd:fr.Nodup:=gI.2 fun i j k8 hj he=>(g2 j hj).2 (cf.2 ⟨i,k8,by omega,he⟩)
 by_cases hx:al2∈marks be fr
 · rw [pp hx,rc]
   intro ok;obtain ⟨i,hi,he⟩:=aS.1 hx;rw [lX] at hi;rw [nA _ _ _ (fun x hx=>(FQ x hx).1) hi,afc] at he
   have h3:(i:Int)∉fr:=by simpa using he.2
   have:=(ok.uf i (by show _<ajC aB;omega)).2 h3
   rw [show be[i]! =al2 from he.1] at this;cases this
 rw [rc hx]
 by_cases hu: ∀i,i<ajC aB->0<=aB[i]!/\aB[i]!<=1000000/\(be[i]! =ajE->1<=aB[i]!)
 · rw [pp hu,pp]
   refine ⟨by show 1<=ajC aB;omega,by show (ajC aB)<=200;omega,a3,FQ,nd,fun i hi=>?_,hu⟩
   dsimp only at hi ⊢;constructor
   · intro h1 h2
     obtain ⟨k,hk,he⟩:=aS.1 h2
     have:=(g2 k hk).1
     rw [he,show ((i:Int)).toNat=i by omega,h1] at this
     cases this
   intro h1
   refine IR fun h2=>hx ?_
   refine aS.2 ⟨i,by rw [lX];omega,?_⟩
   rw [nA _ _ _ (fun x hx=>(FQ x hx).1) (by omega)]
   have:be[i]! =al2:=by simpa using h2
   rw [this];simpa using h1
 rw [rc hu,rc]
 intro ok;exact hu ok.us
theorem eM.fl {s:bc} (ok:eM s):(ajC s.bi)<=(ajC s.aB):=by
 have h:=OM (ajC s.aB) (s.bi.map aig) (by
  rw [gI];intro i j k8 hj he;rw [aew] at hj;have e: ∀k,k<ajC s.bi->(s.bi.map aig)[k]! =(s.bi[k]!).toNat:=by
   intro k hk;rw [getElem!_pos _ k (by simpa using hk),List.getElem_map,getElem!_pos s.bi k hk]
  rw [e i (by omega),e j hj] at he
  have h1:=(ok.fr _ (aY (show i<(ajC s.bi) by omega))).1
  have h2:=(ok.fr _ (aY hj)).1;exact gI.1 ok.fd i j k8 hj (by omega)) (by
  intro x hx;obtain ⟨y,hy,rfl⟩:=acK.1 hx
  have:=ok.fr y hy
  omega)
 rwa [aew] at h
def tD (s:bc) (h:Int×Int):Prop:=0<=h.1/\h.1<ajC s.aB/\s.be[h.1.toNat]! =ajE/\s.aB[h.1.toNat]! =h.2
def fx (s:bc) (h:Int×Int):bc:=⟨s.aB,s.be.set h.1.toNat al2,s.bi++[h.1]⟩
def c7 (s:bc):Nat:=(s.bi[ajC s.bi-1]!).toNat
def wY (s:bc):Prop:=0<ajC s.bi/\s.aB[c7 s]!<1000000
def gn (s:bc):bc:=⟨s.aB.set (c7 s) (s.aB[c7 s]!+1),s.be.set (c7 s) ajE,s.bi.take (ajC s.bi-1)⟩
def kv (s:bc):Int×Int:=((c7 s:Int),s.aB[c7 s]!+1)
theorem Dk {s:bc} (ok:eM s) (h:Int×Int):xU s h=ajD (al7 (tD s h),0):=by
 have hl:=ok.fl;have hn:=ok.n2;have hu:=ok.ul;unfold xU tD;rw [ua s (by omega),pp ok]
 simp only [ar,show ((0:Int) !=0)=al2 from rfl,ol,aA]
 by_cases a1:0<=h.1
 · by_cases a2:h.1<ajC s.aB
   · have e2:al7 (h.1<((ajC s.be):Int))=ajE:=by simp;omega
     simp only [a1,a2,e2,decide_true,lw,dG (l:=s.be) a1 (by omega),dG (l:=s.aB) a1 a2,ar,true_and]
     generalize s.aB[h.1.toNat]! =u;cases s.be[h.1.toNat]!<;>simp [QJ]
   have e2:al7 (h.1<((ajC s.be):Int))=al2:=by simp;omega
   simp [a1,a2,e2]
 simp [a1]
theorem JJ {s:bc} (ok:eM s) {h:Int×Int} (lv:tD s h):yN s h=ajD (fx s h,0):=by
 have hl:=ok.fl;have hn:=ok.n2;have hu:=ok.ul;unfold yN;rw [Dk ok,decide_eq_true lv];unfold qL;obtain ⟨l1,l2,l3,l4⟩:=lv;have e1:cj s.be h.1 al2=s.be.set h.1.toNat al2:=rfl
 simp only [ar,show ((0:Int) !=0)=al2 from rfl,ol,If,ba (show (ajC s.aB)<=1048576 by omega),ba (show (ajC s.be)<=1048576 by omega),ba (show (ajC s.bi)<=1048576 by omega),
  bY (show (ajC s.bi)+[h.1].length<=1048576 by simp;omega),dG (l:=s.be) l1 (by omega),e1,fx]
theorem ud {s:bc} (ok:eM s):mR s=ajD s:=by
 have hl:=ok.fl;have hn:=ok.n2;have hu:=ok.ul;unfold mR;simp only [ar,ba (show (ajC s.aB)<=1048576 by omega),ba (show (ajC s.be)<=1048576 by omega),ba (show (ajC s.bi)<=1048576 by omega)]
theorem FT {s:bc} (ok:eM s) {h:Int×Int} (lv:tD s h):np s h=ajD (fx s h):=by
 have hl:=ok.fl;have hn:=ok.n2;have hu:=ok.ul;obtain ⟨l1,l2,l3,l4⟩:=lv;unfold np;rw [ud ok];have e1:cj s.be h.1 al2=s.be.set h.1.toNat al2:=rfl;simp only [ar,bY (show (ajC s.bi)+[h.1].length<=1048576 by simp;omega),dG (l:=s.be) l1 (by omega),e1,fx]
theorem Vu {s:bc} (ok:eM s) {h:Int×Int} (lv:tD s h):eM (fx s h):=by
 have hl:=ok.fl;have hn:=ok.n2;have hu:=ok.ul;obtain ⟨l1,l2,l3,l4⟩:=lv;have nf:h.1∉s.bi:=by
  have:=(ok.uf h.1.toNat (by omega)).1 l3
  rwa [show (h.1.toNat:Int)=h.1 by omega] at this
 refine ⟨ok.n1,ok.n2,?_,?_,?_,?_,?_⟩
 · show (s.be.set _ _).length=_;rw [ut];exact hu
 · intro x hx
   rcases af5.1 hx with hx|hx
   · exact ok.fr x hx
   rw [aeE] at hx;subst hx;exact ⟨l1,l2⟩
 · show (s.bi++[h.1]).Nodup
   rw [List.nodup_append];refine ⟨ok.fd,by simp,?_⟩
   intro x hx y hy he;rw [aeE] at hy;subst hy;subst he;exact nf hx
 · intro i hi
   change i<(ajC s.aB) at hi;show (s.be.set h.1.toNat al2)[i]! =ajE↔(i:Int)∉s.bi++[h.1];rw [aU,af5,aeE]
   by_cases e:i=h.1.toNat
   · rw [pp ⟨e,by omega⟩]
     have:(i:Int)=h.1:=by omega
     simp [this]
   rw [rc (fun k=>e k.1),ok.uf i hi]
   have: ¬(i:Int)=h.1:=by omega
   simp [this]
 intro i hi
 change i<(ajC s.aB) at hi;obtain ⟨u1,u2,u3⟩:=ok.us i hi;refine ⟨u1,u2,?_⟩;show (s.be.set h.1.toNat al2)[i]! =ajE->_;rw [aU];split
 · intro h;cases h
 exact u3
theorem yT {s:bc} (ok:eM s) (h:0<ajC s.bi):c7 s<ajC s.aB/\(c7 s:Int)=s.bi[ajC s.bi-1]!/\(c7 s:Int)∈s.bi:=by
 have hm:=aY (l:=s.bi) (i:=ajC s.bi-1) (by omega)
 have:=ok.fr _ hm
 have e:(c7 s:Int)=s.bi[ajC s.bi-1]!:=by unfold c7;omega
 refine ⟨by omega,e,by rw [e];exact hm⟩
theorem jO {α:Type} (l:List α) (n:Nat) (h:n<=ajC l):fP l 0 (n:Int)=ajD (l.take n):=by
 unfold fP;rw [pp ⟨by omega,by omega,by omega⟩]
 simp
theorem Bs {s:bc} (ok:eM s):yO s=ajD (if wY s then (gn s,kv s,0) else (⟨[],[],[]⟩,(0,0),18)):=by
 have hl:=ok.fl;have hn:=ok.n2;have hu:=ok.ul;unfold yO wY;rw [ua s (by omega),pp ok]
 simp only [ar,show ((0:Int) !=0)=al2 from rfl,ol,aA]
 by_cases a1:0<ajC s.bi
 · obtain ⟨n1,n2,n3⟩:=yT ok a1
   have e1:(((ajC s.bi):Int)==0)=al2:=dR (by omega)
   have e2:ae .i64 (((ajC s.bi):Int) -1)=((ajC s.bi-1:Nat):Int):=mF (by omega) (by omega)
   unfold ss;simp only [e1,ol,aA,e2,jO s.bi (ajC s.bi-1) (by omega),ar,ba (show (s.bi.take (ajC s.bi-1)).length<=1048576 by rw [ae0];omega),
    au s.bi (ajC s.bi-1) (by omega),<- n2,au s.aB (c7 s) n1]
   obtain ⟨u1,u2,u3⟩:=ok.us (c7 s) n1
   by_cases a2:s.aB[c7 s]! =1000000
   · have e3:(s.aB[c7 s]! ==1000000)=ajE:=by simpa using a2
     rw [e3,rc (by omega)];rfl
   have e3:(s.aB[c7 s]! ==1000000)=al2:=by simpa using a2
   have e4:ae .i64 (s.aB[c7 s]!+1)=s.aB[c7 s]!+1:=by rw [wi];omega
   rw [e3,pp (by omega)]
   simp only [ol,ba (show (ajC s.aB)<=1048576 by omega),ba (show (ajC s.be)<=1048576 by omega),ar,au s.be (c7 s) (by omega),au s.aB (c7 s) n1,e4,mu,
    au (s.aB.set (c7 s) (s.aB[c7 s]!+1)) (c7 s) (by rw [ut];exact n1),aU,n1,and_self,if_true,gn,kv]
 have e1:(((ajC s.bi):Int)==0)=ajE:=eu (by omega)
 rw [e1,rc (fun h=>a1 h.1)];rfl
theorem pO {s:bc} (ok:eM s):fT s=ajD (al7 (wY s)):=by
 have hl:=ok.fl;have hn:=ok.n2;have hu:=ok.ul;unfold fT wY;simp only [aA]
 by_cases a1:0<ajC s.bi
 · obtain ⟨n1,n2,n3⟩:=yT ok a1
   have e1:al7 ((0:Int)<((ajC s.bi):Int))=ajE:=by simp;omega
   have e2:ae .i64 (((ajC s.bi):Int) -1)=((ajC s.bi-1:Nat):Int):=mF (by omega) (by omega)
   simp only [e1,e2,lw,au s.bi (ajC s.bi-1) (by omega),ar,<- n2,au s.aB (c7 s) n1,a1,true_and]
 have e1:al7 ((0:Int)<((ajC s.bi):Int))=al2:=decide_eq_false (by omega)
 rw [e1];simp [a1]
theorem FU {s:bc} (ok:eM s) (h:wY s):te s=ajD (gn s,kv s):=by
 have hl:=ok.fl;have hn:=ok.n2;have hu:=ok.ul;obtain ⟨a1,a2⟩:=h;obtain ⟨n1,n2,n3⟩:=yT ok a1;obtain ⟨u1,u2,u3⟩:=ok.us (c7 s) n1;unfold te;rw [ud ok];have e2:ae .i64 (((ajC s.bi):Int) -1)=((ajC s.bi-1:Nat):Int):=mF (by omega) (by omega)
 have e4:ae .i64 (s.aB[c7 s]!+1)=s.aB[c7 s]!+1:=by rw [wi];omega
 simp only [ar,aA,e2,au s.bi (ajC s.bi-1) (by omega),jO s.bi (ajC s.bi-1) (by omega),<- n2,au s.aB (c7 s) n1,au s.be (c7 s) (by omega),e4,mu,
  au (s.aB.set (c7 s) (s.aB[c7 s]!+1)) (c7 s) (by rw [ut];exact n1),aU,n1,and_self,if_true,gn,kv,Int.toNat_natCast]
theorem Vv {s:bc} (ok:eM s) (h:wY s):eM (gn s):=by
 have hl:=ok.fl;have hn:=ok.n2;have hu:=ok.ul;obtain ⟨a1,a2⟩:=h;obtain ⟨n1,n2,n3⟩:=yT ok a1;have mt: ∀x:Int,x∈s.bi.take (ajC s.bi-1)↔(x∈s.bi/\x≠(c7 s:Int)):=by
  intro x;rw [cf];constructor
  · rintro ⟨i,h1,h2,rfl⟩
    refine ⟨aY h2,?_⟩;rw [n2];exact gI.1 ok.fd i (ajC s.bi-1) h1 (by omega)
  rintro ⟨h1,h2⟩
  obtain ⟨i,hi,rfl⟩:=aS.1 h1;refine ⟨i,?_,hi,rfl⟩;refine IR fun hc=>h2 ?_
  rw [n2,show i=ajC s.bi-1 by omega]
 refine ⟨?_,?_,?_,?_,?_,?_,?_⟩
 · show 1<=(s.aB.set _ _).length;rw [ut];exact ok.n1
 · show (s.aB.set _ _).length<=200;rw [ut];exact ok.n2
 · show (s.be.set _ _).length=(s.aB.set _ _).length;rw [ut,ut];exact hu
 · intro x hx
   show 0<=x/\x<((s.aB.set _ _).length:Int);rw [ut];exact ok.fr x ((mt x).1 hx).1
 · exact ok.fd.sublist (List.take_sublist _ _)
 · intro i hi
   change i<(s.aB.set _ _).length at hi;rw [ut] at hi;show (s.be.set (c7 s) ajE)[i]! =ajE↔(i:Int)∉s.bi.take (ajC s.bi-1);rw [aU,mt]
   by_cases e:i=c7 s
   · rw [pp ⟨e,by omega⟩]
     simp [e]
   rw [rc (fun k=>e k.1),ok.uf i hi]
   have:(i:Int)≠(c7 s:Int):=by omega
   simp [this]
 intro i hi
 change i<(s.aB.set _ _).length at hi;rw [ut] at hi;obtain ⟨u1,u2,u3⟩:=ok.us i hi;show 0<=(s.aB.set (c7 s) (s.aB[c7 s]!+1))[i]!/\(s.aB.set (c7 s) (s.aB[c7 s]!+1))[i]!<=1000000/\((s.be.set (c7 s) ajE)[i]! =ajE->1<=(s.aB.set (c7 s) (s.aB[c7 s]!+1))[i]!);rw [aU,aU]
 by_cases e:i=c7 s
 · subst e
   rw [pp ⟨rfl,n1⟩];refine ⟨by omega,by omega,fun _=>by omega⟩
 rw [rc (fun k=>e k.1),rc (fun k=>e k.1)]
 exact ⟨u1,u2,u3⟩
abbrev Ev:=Int×Int×Int×Int×Int
abbrev Ev.at (x:Ev):Int×Int:=(x.1,x.2.1)
abbrev Ev.num (x:Ev):Int:=x.2.2.1
abbrev Ev.ix (x:Ev):Int:=x.2.2.2.1
abbrev Ev.n (x:Ev):Nat:=x.2.2.2.1.toNat
theorem aqB {x:Ev} {k:Nat} (h:x.ix<(k:Int)) (h0:0<=x.ix):x.n<k:=by
 show x.ix.toNat<k;omega
theorem aqC {x y:Ev} (h0:0<=x.ix) (h1:0<=y.ix) (h:x.ix≠y.ix):x.n≠y.n:=by
 show x.ix.toNat≠y.ix.toNat
 omega
def less (x y:Ev):Prop:=y9 (x.1,x.2.1) (y.1,y.2.1)<0\/(y9 (x.1,x.2.1) (y.1,y.2.1)=0/\x.2.2.1<y.2.2.1)
theorem QK {a b:Int×Int}:y9 a b<0↔a.1*b.2<b.1*a.2:=by
 unfold y9;rcases fJ (a.1*b.2) (b.1*a.2) with ⟨h,e⟩|⟨h,e⟩|⟨h,e⟩<;>rw [e]<;>constructor<;>intro<;>omega
theorem QL {a b:Int×Int}:y9 a b=0↔a.1*b.2=b.1*a.2:=by
 unfold y9;rcases fJ (a.1*b.2) (b.1*a.2) with ⟨h,e⟩|⟨h,e⟩|⟨h,e⟩<;>rw [e]<;>constructor<;>intro<;>omega
theorem o8 {x y:Ev} (h:less x y): ¬less y x:=by
 unfold less at*;rw [QK,QL] at*;dsimp only at*;rintro (k|k)<;>rcases h with h|h<;>omega
theorem OP {a1 a2 b1 b2 c1 c2:Int} (ha:1<=a2) (hb:1<=b2) (hc:1<=c2) (h1:a1*b2<=b1*a2) (h2:b1*c2<=c1*b2):a1*c2<=c1*a2:=by
 have e1:a1*b2*c2<=b1*a2*c2:=M2 h1 (by omega)
 have e2:b1*c2*a2<=c1*b2*a2:=M2 h2 (by omega)
 have e3:(a1*c2)*b2<=(c1*a2)*b2:=by
  have r1:(a1*c2)*b2=a1*b2*c2:=by grind
  have r2:b1*a2*c2=b1*c2*a2:=by grind
  have r3:c1*b2*a2=(c1*a2)*b2:=by grind
  omega
 exact Int.le_of_mul_le_mul_right e3 (by omega)
theorem G7 {a1 a2 b1 b2 c1 c2:Int} (ha:1<=a2) (hb:1<=b2) (hc:1<=c2) (h1:a1*b2<b1*a2) (h2:b1*c2<=c1*b2):a1*c2<c1*a2:=by
 have e1:a1*b2*c2<b1*a2*c2:=aeA h1 (by omega)
 have e2:b1*c2*a2<=c1*b2*a2:=M2 h2 (by omega)
 have e3:(a1*c2)*b2<(c1*a2)*b2:=by
  have r1:(a1*c2)*b2=a1*b2*c2:=by grind
  have r2:b1*a2*c2=b1*c2*a2:=by grind
  have r3:c1*b2*a2=(c1*a2)*b2:=by grind
  omega
 exact aeF e3 (by omega)
theorem FV {a1 a2 b1 b2 c1 c2:Int} (ha:1<=a2) (hb:1<=b2) (hc:1<=c2) (h1:a1*b2<=b1*a2) (h2:b1*c2<c1*b2):a1*c2<c1*a2:=by
 have e1:a1*b2*c2<=b1*a2*c2:=M2 h1 (by omega)
 have e2:b1*c2*a2<c1*b2*a2:=aeA h2 (by omega)
 have e3:(a1*c2)*b2<(c1*a2)*b2:=by
  have r1:(a1*c2)*b2=a1*b2*c2:=by grind
  have r2:b1*a2*c2=b1*c2*a2:=by grind
  have r3:c1*b2*a2=(c1*a2)*b2:=by grind
  omega
 exact aeF e3 (by omega)
theorem yU {x y z:Ev} (hx:1<=x.2.1) (hy:1<=y.2.1) (hz:1<=z.2.1) (h1: ¬less y x) (h2: ¬less z y): ¬less z x:=by
 unfold less at*;rw [QK,QL] at*;dsimp only at*;have t1:= @OP x.1 x.2.1 y.1 y.2.1 z.1 z.2.1 hx hy hz;have t2:= @G7 x.1 x.2.1 y.1 y.2.1 z.1 z.2.1 hx hy hz;have t3:= @FV x.1 x.2.1 y.1 y.2.1 z.1 z.2.1 hx hy hz;generalize x.1*y.2.1=p at*;generalize y.1*x.2.1=q at*;generalize y.1*z.2.1=r at*;generalize z.1*y.2.1=s at*;generalize x.1*z.2.1=u at*
 generalize z.1*x.2.1=v at*;have a1:p<=q:=by omega
 have a2:r<=s:=by omega
 have a3:=t1 a1 a2;rintro (k|k)
 · omega
 by_cases b1:p<q
 · have:=t2 b1 a2;omega
 by_cases b2:r<s
 · have:=t3 a1 b2;omega
 omega
structure Ar (n:Nat) (x:Ev) (M:Ev->Prop) (H:List Ev) (W:List Int) (i:Nat):Prop where
 lt:i<n
 hn:n<=ajC H
 ix: ∀w,w<n->w≠i->0<=(H[w]!).ix/\(H[w]!).ix<ajC W/\W[(H[w]!).n]! =(w:Int)/\(H[w]!).ix≠x.ix
 x0:0<=x.ix
 x1:x.ix<ajC W
 mem: ∀e,(∃w,w<n/\w≠i/\H[w]! =e)↔M e
theorem Ar.move {n:Nat} {x:Ev} {M:Ev->Prop} {H:List Ev} {W:List Int} {i j:Nat} (h:Ar n x M H W i) (hj:j<n) (k8:j≠i):Ar n x M (H.set i H[j]!) (W.set (H[j]!).n (i:Int)) j:=by
 have hn:=h.hn;have hi:=h.lt;obtain ⟨j1,j2,j3,j4⟩:=h.ix j hj k8;have cell: ∀w,(H.set i H[j]!)[w]! =if w=i then H[j]! else H[w]!:=by
  intro w;rw [aU]
  by_cases e:w=i
  · rw [pp ⟨e,by omega⟩,pp e]
  rw [rc (fun k=>e k.1),rc e]
 refine ⟨hj,by rw [ut];exact hn,?_,h.x0,by rw [ut];exact h.x1,?_⟩
 · intro w hw hwj
   rw [cell,ut]
   by_cases e:w=i
   · rw [pp e,aU,pp ⟨rfl,aqB j2 j1⟩]
     exact ⟨j1,j2,by rw [e],j4⟩
   rw [rc e,aU]
   obtain ⟨k1,k2,k3,k4⟩:=h.ix w hw e;refine ⟨k1,k2,?_,k4⟩;rw [rc,k3];rintro ⟨c,_⟩;rw [c,j3] at k3;omega
 intro e
 rw [<- h.mem e];constructor
 · rintro ⟨w,hw,hwj,he⟩
   rw [cell] at he
   by_cases c:w=i
   · rw [pp c] at he;exact ⟨j,hj,k8,he⟩
   rw [rc c] at he;exact ⟨w,hw,c,he⟩
 rintro ⟨w,hw,JK,he⟩
 by_cases c:w=j
 · refine ⟨i,hi,fun h=>k8 h.symm,?_⟩
   rw [cell,pp rfl,<- c];exact he
 exact ⟨w,hw,c,by rw [cell,rc JK];exact he⟩
theorem Ar.fill {n:Nat} {x:Ev} {M:Ev->Prop} {H:List Ev} {W:List Int} {i:Nat} (h:Ar n x M H W i):
 (∀w,w<n->0<=((H.set i x)[w]!).ix/\((H.set i x)[w]!).ix<ajC W/\(W.set x.n (i:Int))[((H.set i x)[w]!).n]! =(w:Int))/\
  (∀e,(∃w,w<n/\(H.set i x)[w]! =e)↔(e=x\/M e)):=by
 have hn:=h.hn;have hi:=h.lt;have x0:=h.x0;have x1:=h.x1;have cell: ∀w,(H.set i x)[w]! =if w=i then x else H[w]!:=by
  intro w;rw [aU]
  by_cases e:w=i
  · rw [pp ⟨e,by omega⟩,pp e]
  rw [rc (fun k=>e k.1),rc e]
 constructor
 · intro w hw
   rw [cell]
   by_cases e:w=i
   · rw [pp e,aU,pp ⟨rfl,aqB x1 x0⟩]
     exact ⟨x0,x1,by rw [e]⟩
   rw [rc e,aU]
   obtain ⟨k1,k2,k3,k4⟩:=h.ix w hw e;exact ⟨k1,k2,by rw [rc (fun c=>aqC k1 x0 k4 c.1),k3]⟩
 intro e
 rw [<- h.mem e];constructor
 · rintro ⟨w,hw,he⟩
   rw [cell] at he
   by_cases c:w=i
   · rw [pp c] at he;exact .inl he.symm
   rw [rc c] at he;exact .inr ⟨w,hw,c,he⟩
 rintro (he|⟨w,hw,JK,he⟩)
 · exact ⟨i,hi,by rw [cell,pp rfl,he]⟩
 exact ⟨w,hw,by rw [cell,rc JK];exact he⟩
noncomputable def iD (x:Ev):Nat->List Ev->List Int->Nat×List Ev×List Int
 |0,H,W=>(0,H,W)
 |i+1,H,W=>if less x H[i / 2]! then iD x (i / 2) (H.set (i+1) H[i / 2]!) (W.set (H[i / 2]!).n ((i+1:Nat):Int)) else (i+1,H,W)
termination_by i=>i
decreasing_by omega
noncomputable def gJ (n:Nat) (H:List Ev) (i:Nat):Nat:=if 2*i+2<n/\less H[2*i+2]! H[2*i+1]! then 2*i+2 else 2*i+1
theorem nB (n:Nat) (H:List Ev) (i:Nat):gJ n H i=2*i+1\/(gJ n H i=2*i+2/\2*i+2<n):=by
 unfold gJ;split
 · rename_i h;exact .inr ⟨rfl,h.1⟩
 exact .inl rfl
noncomputable def dN (n:Nat) (x:Ev) (i:Nat) (H:List Ev) (W:List Int):Nat×List Ev×List Int:=
 if _h:2*i+1<n then
  if less H[gJ n H i]! x then dN n x (gJ n H i) (H.set i H[gJ n H i]!) (W.set (H[gJ n H i]!).n (i:Int)) else (i,H,W)
 else (i,H,W)
termination_by n-i
decreasing_by
 rcases nB n H i with h|h<;>omega
structure Ord (n:Nat) (H:List Ev) (i:Nat):Prop where
 den: ∀w,w<n->1<=(H[w]!).2.1
 ord: ∀k,0<k->k<n->k≠i->(k-1) / 2≠i-> ¬less H[k]! H[(k-1) / 2]!
 Mk:0<i-> ∀k,0<k->k<n->(k-1) / 2=i-> ¬less H[k]! H[(i-1) / 2]!
theorem D2 {n : Nat} {x : Ev} {M : Ev -> Prop} (dx : 1 <= x.2.1) : ∀ (i : Nat) (H : List Ev) (W : List Int), Ar n x M H W i -> Ord n H i ->
    ∃ j H1 W1, iD x i H W = (j, H1, W1) /\ Ar n x M H1 W1 j /\ Ord n H1 j /\ (ajC H1) = (ajC H) /\ (ajC W1) = (ajC W) /\ (0 < j -> ¬ less x H1[(j - 1) / 2]!) /\
      (∀ k, n <= k -> H1[k]! = H[k]!) /\ (∀ k, (∀ w, w < n -> w ≠ i -> (H[w]!).n ≠ k) -> W1[k]! = W[k]!) /\
      ((∀ k, 0 < k -> k < n -> (k - 1) / 2 = i -> ¬ less H[k]! x) -> ∀ k, 0 < k -> k < n -> (k - 1) / 2 = j -> ¬ less H1[k]! x)
  | 0, H, W, h, o => ⟨0, H, W, by rw [iD], h, o, rfl, rfl, fun h => by omega, fun _ _ => rfl, fun _ _ => rfl, fun h => h⟩
  | i + 1, H, W, h, o => by
    rw [iD]
    by_cases hl : less x H[i / 2]!
    · rw [pp hl]
      have hi := h.lt
      have hn := h.hn
      have hp : i / 2 < n := by omega
      have dS : i / 2 ≠ i + 1 := by omega
      have hm := h.move hp dS
      have cell : ∀ w, (H.set (i + 1) H[i / 2]!)[w]! = if w = i + 1 then H[i / 2]! else H[w]! := by
        intro w
        rw [aU]
        by_cases e : w = i + 1
        · rw [pp ⟨e, by omega⟩, pp e]
        rw [rc (fun k => e k.1), rc e]
      have o' : Ord n (H.set (i + 1) H[i / 2]!) (i / 2) := by
        refine ⟨?_, ?_, ?_⟩
        · intro w hw
          rw [cell]
          split
          · exact o.den _ hp
          exact o.den _ hw
        · intro k k0 kn k1 k2
          rw [cell, cell]
          by_cases e : k = i + 1
          · subst e; exact absurd (by omega) k2
          rw [rc e]
          by_cases e2 : (k - 1) / 2 = i + 1
          · rw [pp e2]
            have := o.Mk (by omega) k k0 kn e2
            rwa [show (i + 1 - 1) / 2 = i / 2 by omega] at this
          rw [rc e2]
          exact o.ord k k0 kn e e2
        intro p0 k k0 kn k1
        rw [cell, cell, rc (show (i / 2 - 1) / 2 ≠ i + 1 by omega)]
        have up1 : ¬ less H[i / 2]! H[(i / 2 - 1) / 2]! := o.ord (i / 2) p0 hp dS (by omega)
        by_cases e : k = i + 1
        · rw [pp e]; exact up1
        rw [rc e]
        have up2 : ¬ less H[k]! H[i / 2]! := by
          have := o.ord k k0 kn e (by omega)
          rwa [k1] at this
        exact yU (o.den _ (by omega)) (o.den _ hp) (o.den _ kn) up1 up2
      obtain ⟨j, H1, W1, e1, e3, e4, e5, e6, e7, e8, e9, e10⟩ := D2 dx (i / 2) _ _ hm o'
      rw [ut] at e5 e6
      refine ⟨j, H1, W1, e1, e3, e4, e5, e6, e7, ?_, ?_, ?_⟩
      · intro k hk
        rw [e8 k hk, cell, rc (by omega)]
      · intro k hk
        rw [e9 k ?_, aU, rc (fun c => hk (i / 2) hp dS c.1.symm)]
        intro w hw Og
        rw [cell]
        split
        · exact hk (i / 2) hp dS
        rename_i e; exact hk w hw e
      intro _
      refine e10 fun k k0 kn k1 => ?_
      rw [cell]
      by_cases e : k = i + 1
      · rw [pp e]; exact o8 hl
      rw [rc e]
      have up2 : ¬ less H[k]! H[i / 2]! := by
        have := o.ord k k0 kn e (by omega)
        rwa [k1] at this
      exact yU dx (o.den _ hp) (o.den _ kn) (o8 hl) up2
    rw [rc hl]
    refine ⟨i + 1, H, W, rfl, h, o, rfl, rfl, fun _ => ?_, fun _ _ => rfl, fun _ _ => rfl, fun h => h⟩
    rwa [show (i + 1 - 1) / 2 = i / 2 by omega]
termination_by i=>i
decreasing_by omega
theorem Sj {n:Nat} {x:Ev} {i:Nat} {H:List Ev} {W:List Int} (h: ∀k,0<k->k<n->(k-1) / 2=i-> ¬less H[k]! x):dN n x i H W=(i,H,W):=by
 rw [dN];split
 · rename_i hk
   rw [rc];rcases nB n H i with e|⟨e,e2⟩
   · rw [e];exact h _ (by omega) hk (by omega)
   rw [e];exact h _ (by omega) e2 (by omega)
 rfl
theorem HX {n : Nat} {x : Ev} {M : Ev -> Prop} (dx : 1 <= x.2.1) : ∀ (d i : Nat) (H : List Ev) (W : List Int), n - i <= d -> Ar n x M H W i -> Ord n H i -> (0 < i -> ¬ less x H[(i - 1) / 2]!) ->
    ∃ j H1 W1, dN n x i H W = (j, H1, W1) /\ Ar n x M H1 W1 j /\ Ord n H1 j /\ (ajC H1) = (ajC H) /\ (ajC W1) = (ajC W) /\ (0 < j -> ¬ less x H1[(j - 1) / 2]!) /\
      (∀ k, n <= k -> H1[k]! = H[k]!) /\ (∀ k, (∀ w, w < n -> w ≠ i -> (H[w]!).n ≠ k) -> W1[k]! = W[k]!) /\ (∀ k, 0 < k -> k < n -> (k - 1) / 2 = j -> ¬ less H1[k]! x)
  | 0, i, H, W, hd, h, o, u => by have := h.lt; omega
  | d + 1, i, H, W, hd, h, o, u => by
    have hi := h.lt
    have hn := h.hn
    rw [dN]
    by_cases hk : 2 * i + 1 < n
    · rw [dif_pos hk]
      have kc := nB n H i
      have kn : gJ n H i < n := by omega
      have kne : gJ n H i ≠ i := by omega
      have kp : (gJ n H i - 1) / 2 = i := by omega
      have kb : ∀ k, 0 < k -> k < n -> (k - 1) / 2 = i -> ¬ less H[k]! H[gJ n H i]! := by
        intro k k0 k1 k2
        have kk : k = 2 * i + 1 \/ k = 2 * i + 2 := by omega
        unfold gJ
        split
        · rename_i hc
          rcases kk with e | e
          · rw [e]; exact o8 hc.2
          rw [e]; exact fun h => o8 h h
        rename_i hc
        rcases kk with e | e
        · rw [e]; exact fun h => o8 h h
        rw [e] at k1 ⊢; exact fun h => hc ⟨k1, h⟩
      by_cases hl : less H[gJ n H i]! x
      · rw [pp hl]
        have hm := h.move kn kne
        have cell : ∀ w, (H.set i H[gJ n H i]!)[w]! = if w = i then H[gJ n H i]! else H[w]! := by
          intro w
          rw [aU]
          by_cases e : w = i
          · rw [pp ⟨e, by omega⟩, pp e]
          rw [rc (fun k => e k.1), rc e]
        have o' : Ord n (H.set i H[gJ n H i]!) (gJ n H i) := by
          refine ⟨?_, ?_, ?_⟩
          · intro w hw
            rw [cell]
            split
            · exact o.den _ kn
            exact o.den _ hw
          · intro k k0 k1 k2 k3
            rw [cell, cell]
            by_cases e : k = i
            · rw [pp e, rc (by omega)]
              have := o.Mk (by omega) (gJ n H i) (by omega) kn kp
              rwa [e]
            rw [rc e]
            by_cases e2 : (k - 1) / 2 = i
            · rw [pp e2]; exact kb k k0 k1 e2
            rw [rc e2]; exact o.ord k k0 k1 e e2
          intro _ k k0 k1 k2
          rw [cell, cell, pp kp, rc (by omega)]
          have := o.ord k k0 k1 (by omega) (by omega)
          rwa [k2] at this
        obtain ⟨j, H1, W1, e1, e3, e4, e5, e6, e7, e8, e9, e10⟩ := HX dx d (gJ n H i) _ _ (by omega) hm o' (by
          intro _
          rw [cell, pp kp]
          exact o8 hl)
        rw [ut] at e5 e6
        refine ⟨j, H1, W1, e1, e3, e4, e5, e6, e7, ?_, ?_, e10⟩
        · intro k hk
          rw [e8 k hk, cell, rc (by omega)]
        intro k hk
        rw [e9 k ?_, aU, rc (fun c => hk (gJ n H i) kn kne c.1.symm)]
        intro w hw Og
        rw [cell]
        split
        · exact hk (gJ n H i) kn kne
        rename_i e; exact hk w hw e
      rw [rc hl]
      refine ⟨i, H, W, rfl, h, o, rfl, rfl, u, fun _ _ => rfl, fun _ _ => rfl, ?_⟩
      intro k k0 k1 k2
      exact yU dx (o.den _ kn) (o.den _ k1) hl (kb k k0 k1 k2)
    rw [dif_neg hk]
    refine ⟨i, H, W, rfl, h, o, rfl, rfl, u, fun _ _ => rfl, fun _ _ => rfl, ?_⟩
    intro k k0 k1 k2
    omega
structure yV (n:Nat) (x:Ev) (M:Ev->Prop) (K:Nat->Prop) (H:List Ev) (W:List Int) (H1:List Ev) (W1:List Int):Prop where
 hl:(ajC H1)=ajC H
 wl:(ajC W1)=ajC W
 ix: ∀w,w<n->0<=(H1[w]!).ix/\(H1[w]!).ix<ajC W/\W1[(H1[w]!).n]! =(w:Int)
 mem: ∀e,(∃w,w<n/\H1[w]! =e)↔(e=x\/M e)
 ord: ∀k,0<k->k<n-> ¬less H1[k]! H1[(k-1) / 2]!
 out: ∀k,K k->W1[k]! =W[k]!
theorem JL {n:Nat} {x:Ev} {M:Ev->Prop} {H H1:List Ev} {W W1:List Int} {i j:Nat} (h1:Ar n x M H1 W1 j) (o1:Ord n H1 j) (hl:(ajC H1)=ajC H) (wl:(ajC W1)=ajC W)
 (u:0<j-> ¬less x H1[(j-1) / 2]!) (kd: ∀k,0<k->k<n->(k-1) / 2=j-> ¬less H1[k]! x) (out: ∀k,(∀w,w<n->w≠i->(H[w]!).n≠k)->W1[k]! =W[k]!):
 yV n x M (fun k=>k≠x.n/\ ∀w,w<n->w≠i->(H[w]!).n≠k) H W (H1.set j x) (W1.set x.n (j:Int)):=by
 have hn:=h1.hn;have hj:=h1.lt;have f:=h1.fill;have cell: ∀w,(H1.set j x)[w]! =if w=j then x else H1[w]!:=by
  intro w;rw [aU]
  by_cases e:w=j
  · rw [pp ⟨e,by omega⟩,pp e]
  rw [rc (fun k=>e k.1),rc e]
 refine ⟨by rw [ut];exact hl,by rw [ut];exact wl,?_,f.2,?_,?_⟩
 · rw [<- wl];exact f.1
 · intro k k0 kn
   rw [cell,cell]
   by_cases e:k=j
   · rw [pp e,rc (by omega),e];exact u (by omega)
   rw [rc e]
   by_cases e2:(k-1) / 2=j
   · rw [pp e2];exact kd k k0 kn e2
   rw [rc e2];exact o1.ord k k0 kn e e2
 rintro k ⟨k1,k2⟩
 rw [aU,rc (fun c=>k1 c.1)]
 exact out k k2
noncomputable def cJ (n:Nat) (x:Ev) (i:Nat) (H:List Ev) (W:List Int):List Ev×List Int:=
 let u:=iD x i H W
 let d:=dN n x u.1 u.2.1 u.2.2
 (d.2.1.set d.1 x,d.2.2.set x.n (d.1:Int))
theorem x6 {n:Nat} {x:Ev} {M:Ev->Prop} (dx:1<=x.2.1) {i:Nat} {H:List Ev} {W:List Int} (h:Ar n x M H W i) (o:Ord n H i):
 yV n x M (fun k=>k≠x.n/\ ∀w,w<n->w≠i->(H[w]!).n≠k) H W (cJ n x i H W).1 (cJ n x i H W).2:=by
 obtain ⟨j,H1,W1,e1,e3,e4,e5,e6,e7,e8,e9,e10⟩:=D2 dx i H W h o;obtain ⟨k,H2,W2,f1,f3,f4,f5,f6,f7,f8,f9,f10⟩:=HX dx n j H1 W1 (by omega) e3 e4 e7
 have e:cJ n x i H W=(H2.set k x,W2.set x.n (k:Int)):=by
  unfold cJ;rw [e1];dsimp only;rw [f1]
 rw [e];refine JL f3 f4 (by omega) (by omega) f7 f10 ?_
 intro c hc;rw [f9 c ?_,e9 c hc];intro w hw hwj hcw;have hm:M H1[w]!:=(e3.mem _).1 ⟨w,hw,hwj,rfl⟩;obtain ⟨v,v1,v2,v3⟩:=(h.mem _).2 hm;exact hc v v1 v2 (by rw [v3];exact hcw)
theorem Ml {n:Nat} {x:Ev} {M:Ev->Prop} (dx:1<=x.2.1) {i:Nat} {H:List Ev} {W:List Int} (h:Ar n x M H W i) (o:Ord n H i) (hk: ∀k,0<k->k<n->(k-1) / 2=i-> ¬less H[k]! x):
 cJ n x i H W=((iD x i H W).2.1.set (iD x i H W).1 x,(iD x i H W).2.2.set x.n ((iD x i H W).1:Int)):=by
 obtain ⟨j,H1,W1,e1,e3,e4,e5,e6,e7,e8,e9,e10⟩:=D2 dx i H W h o;unfold cJ;rw [e1];dsimp only;rw [Sj (e10 hk)]
def o9 (x:Ev):Prop:=cE (x.1,x.2.1)/\oM (x.1,x.2.1)/\0<=x.2.2.1/\x.2.2.1<=1000000
theorem o9.den {x:Ev} (h:o9 x):1<=x.2.1:=h.1.1
noncomputable def FW (x y:Ev):Int:=if y9 (x.1,x.2.1) (y.1,y.2.1)≠0 then y9 (x.1,x.2.1) (y.1,y.2.1) else jq x.2.2.1 y.2.2.1
theorem Bt (x y:Ev):FW x y<0↔less x y:=by
 unfold FW less
 by_cases h:y9 (x.1,x.2.1) (y.1,y.2.1)=0
 · rw [rc (by simpa using h),h]
   rcases fJ x.2.2.1 y.2.2.1 with ⟨h1,e⟩|⟨h1,e⟩|⟨h1,e⟩<;>rw [e]<;>constructor<;>intro<;>omega
 rw [pp h];constructor<;>intro<;>omega
theorem dD {x y:Ev} (hx:o9 x) (hy:o9 y):cA x y=ajD (FW x y):=by
 unfold cA FW;rw [Vo hx.2.1 hy.2.1,pp ⟨hx.1,hy.1⟩];simp only [ar,jN,yS]
theorem mG {x y:Ev} (hx:o9 x) (hy:o9 y):ec x y=ajD (al7 (less x y)):=by
 unfold ec less;rw [FK hx.2.1 hy.2.1];simp only [ar];generalize y9 (x.1,x.2.1) (y.1,y.2.1)=c
 by_cases h1:c<0
 · simp [h1]
 by_cases h2:c=0
 · subst h2;simp
 simp only [h1,dR h2,h2,decide_false,ol,false_or,false_and]
theorem CD {x y:Ev}:al7 (FW x y<0)=al7 (less x y):=by simp only [Bt]
theorem JM {x y:Ev}:al7 (0<=FW x y)=!al7 (less x y):=by
 have:=Bt x y
 by_cases h:less x y
 · have h2:=this.2 h
   have: ¬0<=FW x y:=by omega
   simp [h,this]
 have h2: ¬FW x y<0:=fun k=>h (this.1 k)
 have:0<=FW x y:=by omega
 simp [h,this]
structure lJ (n:Nat) (H:List Ev) (W:List Int):Prop where
 hn:n<=ajC H
 hb:(ajC H)<=1000000
 ev: ∀w,w<n->o9 H[w]!/\0<=(H[w]!).ix/\(H[w]!).ix<ajC W
theorem lJ.move {n:Nat} {H:List Ev} {W:List Int} (c:lJ n H W) {i j:Nat} (_hi:i<n) (hj:j<n) (k:Nat) (v:Int):lJ n (H.set i H[j]!) (W.set k v):=by
 have hn:=c.hn;refine ⟨by rw [ut];exact hn,by rw [ut];exact c.hb,?_⟩
 intro w hw;rw [aU,ut];split
 · exact c.ev j hj
 exact c.ev w hw
theorem D3 {H:List Ev} {W:List Int} {x:Ev} {u fr:List Int} {us:List Bool} {i:Nat} (hi:i<ajC H) (h0:0<=x.ix) (h1:x.ix<ajC W):
 bX (u,us,fr,(i:Int),x.1,x.2.1,x.2.2.1,x.2.2.2.1,x.2.2.2.2,H,W)=ajD (H.set i x,W.set x.n (i:Int)):=by
 unfold bX;have e1:=au H i hi;have e2:=dG (l:=W) h0 h1;simp only [e1,e2,ar,xE,beq_self_eq_true,lw];rfl
theorem D4 {n cap:Nat} {H:List Ev} {W:List Int} {x:Ev} {u fr:List Int} {us:List Bool} {i:Nat} (hi:i<n) (hn:n<=ajC H) (h0:0<=x.ix) (h1:x.ix<ajC W):
 bW (u,us,fr,n,cap,(i:Int),x.1,x.2.1,x.2.2.1,x.2.2.2.1,x.2.2.2.2,H,W)=ajD (H.set i x,W.set x.n (i:Int)):=by
 unfold bW;have e1:=au (H.take n) i (by rw [ae0];omega)
 have e2:=dG (l:=W) h0 h1;simp only [e1,e2,ar,xE,beq_self_eq_true,lw];rfl
theorem qM {i:Nat} (h:i<1000000000):ae .i64 (afb (ae .i64 (((i+1:Nat):Int) -1)) 2)=((i / 2:Nat):Int):=by
 have e:ae .i64 (((i+1:Nat):Int) -1)=(i:Int):=by rw [wi];omega
 rw [e,aeD (by omega),wi];omega
theorem ug {i:Nat} (h:i<1000000000):ae .i64 ((ae .i64 (2*(i:Int)))+1)=((2*i+1:Nat):Int):=by
 have e:ae .i64 (2*(i:Int))=((2*i:Nat):Int):=by rw [wi];omega
 rw [e,wi];omega
theorem x7 {n:Nat} {x:Ev}: ∀{i:Nat} {H:List Ev} {W:List Int} {j:Nat} {H1:List Ev} {W1:List Int},lJ n H W->i<n->iD x i H W=(j,H1,W1)-> ∀w,w<n->o9 H1[w]!/\0<=(H1[w]!).ix/\(H1[w]!).ix<ajC W
 |0,H,W,j,H1,W1,c,hi,e=>by
  rw [iD] at e;injection e with e1 e;injection e with e2 e3;subst e2;exact c.ev
 |i+1,H,W,j,H1,W1,c,hi,e=>by
  rw [iD] at e;split at e
  · have:=x7 (c.move hi (show i / 2<n by omega) (H[i / 2]!).n ((i+1:Nat):Int)) (by omega) e
    rw [ut] at this;exact this
  injection e with e1 e;injection e with e2 e3
  subst e2;exact c.ev
termination_by i=>i
decreasing_by omega
theorem OQ {c0:List Int×List Bool×List Int×Int×Int×Int×Int×Int×Int×List Ev×List Int} {n i:Nat} {H:List Ev} {W:List Int} {u fr:List Int} {us:List Bool} {x:Ev}
 (c:lJ n H W) (hn:(ajC H)=n) (hi:i<n) (hx:o9 x) (x0:0<=x.ix) (x1:x.ix<ajC W) (l1:(ajC c0.2.2.2.2.2.2.2.2.2.1)=n) (l2:(ajC c0.2.2.2.2.2.2.2.2.2.2)=ajC W):
 fH c0 ((i:Int),((2*i+1:Nat):Int),H,W,u,us,fr,x)=
  ajD (if 2*i+1<n/\less H[gJ n H i]! x then .next (((gJ n H i:Nat):Int),((2*gJ n H i+1:Nat):Int),H.set i H[gJ n H i]!,W.set (H[gJ n H i]!).n (i:Int),u,us,fr,x)
   else .done (.done (H.set i x,W.set x.n (i:Int)))):=by
 have hb:=c.hb;have fin:(bX (u,us,fr,(i:Int),x.1,x.2.1,x.2.2.1,x.2.2.2.1,x.2.2.2.2,H,W))=ajD (H.set i x,W.set x.n (i:Int)):=D3 (by omega) x0 x1
 have ln1:(H.set i x).length=(ajC c0.2.2.2.2.2.2.2.2.2.1):=by rw [ut];omega
 have ln2:(W.set x.n (i:Int)).length=(ajC c0.2.2.2.2.2.2.2.2.2.2):=by rw [ut];omega
 unfold fH;simp only [aA,hn,fin,ar,ln1,ln2,beq_self_eq_true,lw]
 by_cases h1:2*i+1<n
 · have e1:al7 (((2*i+1:Nat):Int)<(n:Int))=ajE:=by simp;omega
   have e2:ae .i64 (((2*i+1:Nat):Int)+1)=((2*i+2:Nat):Int):=aT (by omega)
   obtain ⟨Dl,a1,a2⟩:=c.ev (2*i+1) h1;have g1:=au H (2*i+1) (by omega)
   have s1:(bX (u,us,fr,(i:Int),(H[2*i+1]!).1,(H[2*i+1]!).2.1,(H[2*i+1]!).2.2.1,(H[2*i+1]!).2.2.2.1,(H[2*i+1]!).2.2.2.2,H,W))=ajD (H.set i H[2*i+1]!,W.set (H[2*i+1]!).n (i:Int)):=D3 (by omega) a1 a2
   simp only [e1,e2,lw,g1,ar,s1,dD Dl hx,JM,ug (show 2*i+1<1000000000 by omega)]
   by_cases h2:2*i+2<n
   · have e3:al7 (((2*i+2:Nat):Int)<(n:Int))=ajE:=by simp;omega
     obtain ⟨Vw,b1,b2⟩:=c.ev (2*i+2) h2;have g2:=au H (2*i+2) (by omega)
     have s2:(bX (u,us,fr,(i:Int),(H[2*i+2]!).1,(H[2*i+2]!).2.1,(H[2*i+2]!).2.2.1,(H[2*i+2]!).2.2.2.1,(H[2*i+2]!).2.2.2.2,H,W))=ajD (H.set i H[2*i+2]!,W.set (H[2*i+2]!).n (i:Int)):=D3 (by omega) b1 b2
     simp only [e3,lw,g2,ar,s2,dD Vw hx,dD Vw Dl,CD,JM,ug (show 2*i+2<1000000000 by omega)]
     by_cases h3:less H[2*i+2]! H[2*i+1]!
     · have k:gJ n H i=2*i+2:=by unfold gJ;rw [pp ⟨h2,h3⟩]
       rw [k]
       by_cases h4:less H[2*i+2]! x
       · simp only [h1,h3,h4,decide_true,lw,ol,If,and_self,if_true]
       simp only [h1,h3,h4,decide_true,decide_false,lw,EQ,and_false,if_false]
     have k:gJ n H i=2*i+1:=by unfold gJ;rw [rc (fun h=>h3 h.2)]
     rw [k]
     by_cases h4:less H[2*i+1]! x
     · simp only [h1,h3,h4,decide_true,decide_false,ol,If,and_self,if_true]
     simp only [h1,h3,h4,decide_false,lw,ol,EQ,and_false,if_false]
   have e3:al7 (((2*i+2:Nat):Int)<(n:Int))=al2:=by simp;omega
   have k:gJ n H i=2*i+1:=by unfold gJ;rw [rc (fun h=>h2 h.1)]
   rw [k];simp only [e3,ol]
   by_cases h4:less H[2*i+1]! x
   · simp only [h1,h4,decide_true,ol,If,and_self,if_true]
   simp only [h1,h4,decide_false,lw,EQ,and_false,if_false]
 have e1:al7 (((2*i+1:Nat):Int)<(n:Int))=al2:=by simp;omega
 rw [rc (fun h=>h1 h.1),e1];rfl
theorem wj {c0 : List Int × List Bool × List Int × Int × Int × Int × Int × Int × Int × List Ev × List Int} {n : Nat} {u fr : List Int} {us : List Bool} {x : Ev} (hx : o9 x) (x0 : 0 <= x.ix) (l1 : (ajC c0.2.2.2.2.2.2.2.2.2.1) = n) :
    ∀ (d i : Nat) (H : List Ev) (W : List Int), n - i <= d -> lJ n H W -> (ajC H) = n -> i < n -> x.ix < (ajC W) -> (ajC c0.2.2.2.2.2.2.2.2.2.2) = (ajC W) ->
      ax (fH c0) ((i : Int), ((2 * i + 1 : Nat) : Int), H, W, u, us, fr, x) = ajD (.done ((dN n x i H W).2.1.set (dN n x i H W).1 x, (dN n x i H W).2.2.set x.n ((dN n x i H W).1 : Int)))
  | 0, i, H, W, hd, c, hn, hi, x1, l2 => by omega
  | d + 1, i, H, W, hd, c, hn, hi, x1, l2 => by
    have r := OQ (u := u) (us := us) (fr := fr) c hn hi hx x0 x1 l1 l2
    by_cases h : 2 * i + 1 < n /\ less H[gJ n H i]! x
    · rw [pp h] at r
      have kc := nB n H i
      have kn : gJ n H i < n := by omega
      rw [aZ r, wj hx x0 l1 d (gJ n H i) _ _ (by omega) (c.move hi kn _ _) (by rw [ut]; exact hn) kn (by rw [ut]; exact x1) (by rw [ut]; exact l2)]
      have e : dN n x i H W = dN n x (gJ n H i) (H.set i H[gJ n H i]!) (W.set (H[gJ n H i]!).n (i : Int)) := by
        rw [dN, dif_pos h.1, pp h.2]
      rw [e]
    rw [rc h] at r
    rw [aJ r]
    have e : dN n x i H W = (i, H, W) := by
      rw [dN]
      split
      · rename_i h1; rw [rc (fun k => h ⟨h1, k⟩)]
      rfl
    rw [e]
theorem FX {c0 : List Int × List Bool × List Int × Int × Int × Int × Int × Int × Int × List Ev × List Int} {n : Nat} {u fr : List Int} {us : List Bool} {x : Ev} (hx : o9 x) (x0 : 0 <= x.ix) (l1 : (ajC c0.2.2.2.2.2.2.2.2.2.1) = n) :
    ∀ (i : Nat) (H : List Ev) (W : List Int), lJ n H W -> (ajC H) = n -> i < n -> x.ix < (ajC W) -> (ajC c0.2.2.2.2.2.2.2.2.2.2) = (ajC W) ->
      ax (eF c0) ((i : Int), H, W, u, us, fr, x) = ajD (cJ n x i H W)
  | 0, H, W, c, hn, hi, x1, l2 => by
    have hb := c.hb
    have dn := wj (u := u) (us := us) (fr := fr) hx x0 l1 n 0 H W (by omega) c hn hi x1 l2
    refine (aJ (r := cJ n x 0 H W) ?_)
    unfold eF
    have e1 : al7 ((0 : Int) < ((0 : Nat) : Int)) = al2 := by simp
    simp only [e1, ol, ug (show 0 < 1000000000 by omega)]
    rw [dn]
    unfold cJ
    rw [iD]
  | i + 1, H, W, c, hn, hi, x1, l2 => by
    have hb := c.hb
    have e1 : al7 ((0 : Int) < ((i + 1 : Nat) : Int)) = ajE := decide_eq_true (by omega)
    have hp : i / 2 < n := by omega
    obtain ⟨Dl, a1, a2⟩ := c.ev (i / 2) hp
    have g1 := au H (i / 2) (by omega)
    have s1 : (bX (u, us, fr, ((i + 1 : Nat) : Int), (H[i / 2]!).1, (H[i / 2]!).2.1, (H[i / 2]!).2.2.1, (H[i / 2]!).2.2.2.1, (H[i / 2]!).2.2.2.2, H, W)) = ajD (H.set (i + 1) H[i / 2]!, W.set (H[i / 2]!).n ((i + 1 : Nat) : Int)) := D3 (by omega) a1 a2
    by_cases h : less x H[i / 2]!
    · have r : eF c0 (((i + 1 : Nat) : Int), H, W, u, us, fr, x) = ajD (.next (((i / 2 : Nat) : Int), H.set (i + 1) H[i / 2]!, W.set (H[i / 2]!).n ((i + 1 : Nat) : Int), u, us, fr, x)) := by
        unfold eF
        simp only [e1, lw, qM (show i < 1000000000 by omega), g1, ar, dD hx Dl, CD, h, decide_true, s1]
      rw [aZ r, FX hx x0 l1 (i / 2) _ _ (c.move hi hp _ _) (by rw [ut]; exact hn) hp (by rw [ut]; exact x1) (by rw [ut]; exact l2)]
      have e : iD x (i + 1) H W = iD x (i / 2) (H.set (i + 1) H[i / 2]!) (W.set (H[i / 2]!).n ((i + 1 : Nat) : Int)) := by
        rw [iD, pp h]
      unfold cJ
      rw [e]
    have dn := wj (u := u) (us := us) (fr := fr) hx x0 l1 n (i + 1) H W (by omega) c hn hi x1 l2
    refine (aJ (r := cJ n x (i + 1) H W) ?_)
    unfold eF
    simp only [e1, lw, qM (show i < 1000000000 by omega), g1, ar, dD hx Dl, CD, h, decide_false, ol, ug (show i + 1 < 1000000000 by omega)]
    rw [dn]
    unfold cJ
    rw [iD, rc h]
termination_by i=>i
decreasing_by omega
theorem FY {n:Nat} {u fr:List Int} {us:List Bool} {x:Ev} (hx:o9 x) (x0:0<=x.ix) {i:Nat} {H:List Ev} {W:List Int} (c:lJ n H W) (hn:(ajC H)=n) (hi:i<n) (x1:x.ix<ajC W):
 eJ (u,us,fr,(i:Int),x.1,x.2.1,x.2.2.1,x.2.2.2.1,x.2.2.2.2,H,W)=ajD (cJ n x i H W):=by
 unfold eJ;exact FX hx x0 hn i H W c hn hi x1 rfl
theorem fL {l:List Ev} {n i:Nat} (h:i<n) (hn:n<=ajC l):aI (l.take n) (i:Int)=ajD l[i]!:=by
 rw [au (l.take n) i (by rw [ae0];omega),iL h]
theorem OR {c0:List Int×List Bool×List Int×Nat×Nat×Int×Int×Int×Int×Int×Int×List Ev×List Int} {n cap i:Nat} {H:List Ev} {W:List Int} {u fr:List Int} {us:List Bool} {x:Ev}
 (c:lJ n H W) (hi:i<n) (hx:o9 x) (x0:0<=x.ix) (x1:x.ix<ajC W) (l1:(ajC c0.2.2.2.2.2.2.2.2.2.2.2.1)=ajC H) (l2:(ajC c0.2.2.2.2.2.2.2.2.2.2.2.2)=ajC W):
 fG c0 ((i:Int),((2*i+1:Nat):Int),H,W,u,us,fr,n,cap,x)=
  ajD (if 2*i+1<n/\less H[gJ n H i]! x then .next (((gJ n H i:Nat):Int),((2*gJ n H i+1:Nat):Int),H.set i H[gJ n H i]!,W.set (H[gJ n H i]!).n (i:Int),u,us,fr,n,cap,x)
   else .done (.done (H.set i x,W.set x.n (i:Int)))):=by
 have hb:=c.hb;have Sk:=c.hn;have fin:(bW (u,us,fr,n,cap,(i:Int),x.1,x.2.1,x.2.2.1,x.2.2.2.1,x.2.2.2.2,H,W))=ajD (H.set i x,W.set x.n (i:Int)):=D4 (cap:=cap) (by omega) c.hn x0 x1
 have ln1:(H.set i x).length=(ajC c0.2.2.2.2.2.2.2.2.2.2.2.1):=by rw [ut];omega
 have ln2:(W.set x.n (i:Int)).length=(ajC c0.2.2.2.2.2.2.2.2.2.2.2.2):=by rw [ut];omega
 unfold fG;simp only [aA,fin,ar,ln1,ln2,beq_self_eq_true,lw]
 by_cases h1:2*i+1<n
 · have e1:al7 (((2*i+1:Nat):Int)<(n:Int))=ajE:=by simp;omega
   have e2:ae .i64 (((2*i+1:Nat):Int)+1)=((2*i+2:Nat):Int):=aT (by omega)
   obtain ⟨Dl,a1,a2⟩:=c.ev (2*i+1) h1;have g1:=fL (l:=H) (n:=n) (i:=2*i+1) (by omega) c.hn
   have s1:(bW (u,us,fr,n,cap,(i:Int),(H[2*i+1]!).1,(H[2*i+1]!).2.1,(H[2*i+1]!).2.2.1,(H[2*i+1]!).2.2.2.1,(H[2*i+1]!).2.2.2.2,H,W))=ajD (H.set i H[2*i+1]!,W.set (H[2*i+1]!).n (i:Int)):=D4 (cap:=cap) (by omega) c.hn a1 a2
   simp only [e1,e2,lw,g1,ar,s1,dD Dl hx,JM,ug (show 2*i+1<1000000000 by omega)]
   by_cases h2:2*i+2<n
   · have e3:al7 (((2*i+2:Nat):Int)<(n:Int))=ajE:=by simp;omega
     obtain ⟨Vw,b1,b2⟩:=c.ev (2*i+2) h2;have g2:=fL (l:=H) (n:=n) (i:=2*i+2) (by omega) c.hn
     have s2:(bW (u,us,fr,n,cap,(i:Int),(H[2*i+2]!).1,(H[2*i+2]!).2.1,(H[2*i+2]!).2.2.1,(H[2*i+2]!).2.2.2.1,(H[2*i+2]!).2.2.2.2,H,W))=ajD (H.set i H[2*i+2]!,W.set (H[2*i+2]!).n (i:Int)):=D4 (cap:=cap) (by omega) c.hn b1 b2
     simp only [e3,lw,g2,ar,s2,dD Vw hx,dD Vw Dl,CD,JM,ug (show 2*i+2<1000000000 by omega)]
     by_cases h3:less H[2*i+2]! H[2*i+1]!
     · have k:gJ n H i=2*i+2:=by unfold gJ;rw [pp ⟨h2,h3⟩]
       rw [k]
       by_cases h4:less H[2*i+2]! x
       · simp only [h1,h3,h4,decide_true,lw,ol,If,and_self,if_true]
       simp only [h1,h3,h4,decide_true,decide_false,lw,EQ,and_false,if_false]
     have k:gJ n H i=2*i+1:=by unfold gJ;rw [rc (fun h=>h3 h.2)]
     rw [k]
     by_cases h4:less H[2*i+1]! x
     · simp only [h1,h3,h4,decide_true,decide_false,ol,If,and_self,if_true]
     simp only [h1,h3,h4,decide_false,lw,ol,EQ,and_false,if_false]
   have e3:al7 (((2*i+2:Nat):Int)<(n:Int))=al2:=by simp;omega
   have k:gJ n H i=2*i+1:=by unfold gJ;rw [rc (fun h=>h2 h.1)]
   rw [k];simp only [e3,ol]
   by_cases h4:less H[2*i+1]! x
   · simp only [h1,h4,decide_true,ol,If,and_self,if_true]
   simp only [h1,h4,decide_false,lw,EQ,and_false,if_false]
 have e1:al7 (((2*i+1:Nat):Int)<(n:Int))=al2:=by simp;omega
 rw [rc (fun h=>h1 h.1),e1];rfl
theorem wk {c0 : List Int × List Bool × List Int × Nat × Nat × Int × Int × Int × Int × Int × Int × List Ev × List Int} {n cap : Nat} {u fr : List Int} {us : List Bool} {x : Ev} (hx : o9 x) (x0 : 0 <= x.ix) :
    ∀ (d i : Nat) (H : List Ev) (W : List Int), n - i <= d -> lJ n H W -> (ajC c0.2.2.2.2.2.2.2.2.2.2.2.1) = (ajC H) -> i < n -> x.ix < (ajC W) -> (ajC c0.2.2.2.2.2.2.2.2.2.2.2.2) = (ajC W) ->
      ax (fG c0) ((i : Int), ((2 * i + 1 : Nat) : Int), H, W, u, us, fr, n, cap, x) = ajD (.done ((dN n x i H W).2.1.set (dN n x i H W).1 x, (dN n x i H W).2.2.set x.n ((dN n x i H W).1 : Int)))
  | 0, i, H, W, hd, c, hn, hi, x1, l2 => by omega
  | d + 1, i, H, W, hd, c, hn, hi, x1, l2 => by
    have r := OR (u := u) (us := us) (fr := fr) (cap := cap) c hi hx x0 x1 hn l2
    by_cases h : 2 * i + 1 < n /\ less H[gJ n H i]! x
    · rw [pp h] at r
      have kc := nB n H i
      have kn : gJ n H i < n := by omega
      rw [aZ r, wk hx x0 d (gJ n H i) _ _ (by omega) (c.move hi kn _ _) (by rw [ut]; exact hn) kn (by rw [ut]; exact x1) (by rw [ut]; exact l2)]
      have e : dN n x i H W = dN n x (gJ n H i) (H.set i H[gJ n H i]!) (W.set (H[gJ n H i]!).n (i : Int)) := by
        rw [dN, dif_pos h.1, pp h.2]
      rw [e]
    rw [rc h] at r
    rw [aJ r]
    have e : dN n x i H W = (i, H, W) := by
      rw [dN]
      split
      · rename_i h1; rw [rc (fun k => h ⟨h1, k⟩)]
      rfl
    rw [e]
theorem FZ {c0 : List Int × List Bool × List Int × Nat × Nat × Int × Int × Int × Int × Int × Int × List Ev × List Int} {n cap : Nat} {u fr : List Int} {us : List Bool} {x : Ev} (hx : o9 x) (x0 : 0 <= x.ix) :
    ∀ (i : Nat) (H : List Ev) (W : List Int), lJ n H W -> (ajC c0.2.2.2.2.2.2.2.2.2.2.2.1) = (ajC H) -> i < n -> x.ix < (ajC W) -> (ajC c0.2.2.2.2.2.2.2.2.2.2.2.2) = (ajC W) ->
      ax (eE c0) ((i : Int), H, W, u, us, fr, n, cap, x) = ajD (cJ n x i H W)
  | 0, H, W, c, hn, hi, x1, l2 => by
    have hb := c.hb
    have Sk := c.hn
    have dn := wk (u := u) (us := us) (fr := fr) (cap := cap) hx x0 n 0 H W (by omega) c hn hi x1 l2
    refine (aJ (r := cJ n x 0 H W) ?_)
    unfold eE
    have e1 : al7 ((0 : Int) < ((0 : Nat) : Int)) = al2 := by simp
    simp only [e1, ol, ug (show 0 < 1000000000 by omega)]
    rw [dn]
    unfold cJ
    rw [iD]
  | i + 1, H, W, c, hn, hi, x1, l2 => by
    have hb := c.hb
    have Sk := c.hn
    have e1 : al7 ((0 : Int) < ((i + 1 : Nat) : Int)) = ajE := decide_eq_true (by omega)
    have hp : i / 2 < n := by omega
    obtain ⟨Dl, a1, a2⟩ := c.ev (i / 2) hp
    have g1 := fL (l := H) (n := n) (i := i / 2) (by omega) c.hn
    have s1 : (bW (u, us, fr, n, cap, ((i + 1 : Nat) : Int), (H[i / 2]!).1, (H[i / 2]!).2.1, (H[i / 2]!).2.2.1, (H[i / 2]!).2.2.2.1, (H[i / 2]!).2.2.2.2, H, W)) = ajD (H.set (i + 1) H[i / 2]!, W.set (H[i / 2]!).n ((i + 1 : Nat) : Int)) := D4 (cap := cap) (by omega) c.hn a1 a2
    by_cases h : less x H[i / 2]!
    · have r : eE c0 (((i + 1 : Nat) : Int), H, W, u, us, fr, n, cap, x) = ajD (.next (((i / 2 : Nat) : Int), H.set (i + 1) H[i / 2]!, W.set (H[i / 2]!).n ((i + 1 : Nat) : Int), u, us, fr, n, cap, x)) := by
        unfold eE
        simp only [e1, lw, qM (show i < 1000000000 by omega), g1, ar, dD hx Dl, CD, h, decide_true, s1]
      rw [aZ r, FZ hx x0 (i / 2) _ _ (c.move hi hp _ _) (by rw [ut]; exact hn) hp (by rw [ut]; exact x1) (by rw [ut]; exact l2)]
      have e : iD x (i + 1) H W = iD x (i / 2) (H.set (i + 1) H[i / 2]!) (W.set (H[i / 2]!).n ((i + 1 : Nat) : Int)) := by
        rw [iD, pp h]
      unfold cJ
      rw [e]
    have dn := wk (u := u) (us := us) (fr := fr) (cap := cap) hx x0 n (i + 1) H W (by omega) c hn hi x1 l2
    refine (aJ (r := cJ n x (i + 1) H W) ?_)
    unfold eE
    simp only [e1, lw, qM (show i < 1000000000 by omega), g1, ar, dD hx Dl, CD, h, decide_false, ol, ug (show i + 1 < 1000000000 by omega)]
    rw [dn]
    unfold cJ
    rw [iD, rc h]
termination_by i=>i
decreasing_by omega
theorem OS {n cap:Nat} {u fr:List Int} {us:List Bool} {x:Ev} (hx:o9 x) (x0:0<=x.ix) {i:Nat} {H:List Ev} {W:List Int} (c:lJ n H W) (hi:i<n) (x1:x.ix<ajC W):
 jw (u,us,fr,n,cap,(i:Int),x.1,x.2.1,x.2.2.1,x.2.2.2.1,x.2.2.2.2,H,W)=ajD (cJ n x i H W):=by
 unfold jw;exact FZ hx x0 i H W c rfl hi x1 rfl
theorem F0 {n cap:Nat} {H:List Ev} {W:List Int} {x:Ev} {u fr:List Int} {us:List Bool} {i k:Nat} (hi:i<n) (hk:k<n) (Kc:k≠i) (hn:n<=ajC H) (x0:0<=x.ix) (x1:x.ix<ajC W) (k0:0<=(H[k]!).ix) (k1:(H[k]!).ix<ajC W):
 fS (u,us,fr,n,cap,(i:Int),(k:Int),H.set i x,W.set x.n (i:Int))=ajD ((H.set i H[k]!).set k x,(W.set (H[k]!).n (i:Int)).set x.n (k:Int)):=by
 have cell: ∀w,(H.set i x)[w]! =if w=i then x else H[w]!:=by
  intro w;rw [aU]
  by_cases e:w=i
  · rw [pp ⟨e,by omega⟩,pp e]
  rw [rc (fun k=>e k.1),rc e]
 have sh:((H.set i x).set i H[k]!).set k x=(H.set i H[k]!).set k x:=by rw [UV]
 have sw:((W.set x.n (i:Int)).set (H[k]!).n (i:Int)).set x.n (k:Int)=(W.set (H[k]!).n (i:Int)).set x.n (k:Int):=by
  by_cases e:x.n=(H[k]!).n
  · simp only [e,UV]
  rw [afm _ _ (fun h=>e h),UV]
 have g1:aI ((H.set i x).take n) (k:Int)=ajD H[k]!:=by rw [fL (by omega) (by rw [ut];omega),cell,rc Kc]
 have g2:aI ((H.set i x).take n) (i:Int)=ajD x:=by rw [fL (by omega) (by rw [ut];omega),cell,pp rfl]
 have g3:aI (((H.set i x).set i H[k]!).take n) (k:Int)=ajD H[k]!:=by rw [fL (by omega) (by rw [ut,ut];omega),aU,rc (fun h=>Kc h.1),cell,rc Kc]
 have g4:aI (((H.set i H[k]!).set k x).take n) (i:Int)=ajD H[k]!:=by rw [fL (by omega) (by rw [ut,ut];omega),aU,rc (fun h=>Kc h.1.symm),aU,pp ⟨rfl,by omega⟩]
 have g5:aI (((H.set i H[k]!).set k x).take n) (k:Int)=ajD x:=by rw [fL (by omega) (by rw [ut,ut];omega),aU,pp ⟨rfl,by rw [ut];omega⟩]
 have w6:=dG (l:=W.set x.n (i:Int)) k0 (by rw [ut];exact k1)
 have w7:=dG (l:=(W.set x.n (i:Int)).set (H[k]!).n (i:Int)) x0 (by rw [ut,ut];exact x1)
 have q1: ∀(l:List Int) (a:Int) (y:Ev),cj l y.2.2.2.1 a=l.set y.n a:=fun _ _ _=>rfl
 unfold fS;simp only [mu,g1,g2,g3,ar,sh,g4,g5,q1,w6,w7,sw,ut,beq_self_eq_true,lw]
theorem Vx {c0:List Int×List Bool×List Int×Nat×Nat×Int×List Ev×List Int} {n cap:Nat} {u fr:List Int} {us:List Bool} {x:Ev} (hx:o9 x) (x0:0<=x.ix):
 ∀(i:Nat) (H:List Ev) (W:List Int),lJ n H W->i<n->x.ix<ajC W->ajC c0.2.2.2.2.2.2.1=ajC H->ajC c0.2.2.2.2.2.2.2=ajC W->
  ax (gA c0) ((i:Int),H.set i x,W.set x.n (i:Int),u,us,fr,n,cap)=ajD (((iD x i H W).1:Int),(iD x i H W).2.1.set (iD x i H W).1 x,(iD x i H W).2.2.set x.n ((iD x i H W).1:Int))
 |0,H,W,c,hi,x1,l1,l2=>by
  have Sk:=c.hn;refine aJ ?_;unfold gA;have e1:al7 ((0:Int)<((0:Nat):Int))=al2:=by simp
  rw [iD];simp only [e1,ol,ut,l1,l2,beq_self_eq_true,lw]
 |i+1,H,W,c,hi,x1,l1,l2=>by
  have hb:=c.hb;have Sk:=c.hn;have e1:al7 ((0:Int)<((i+1:Nat):Int))=ajE:=decide_eq_true (by omega)
  have hp:i / 2<n:=by omega
  have dS:i / 2≠i+1:=by omega
  obtain ⟨Dl,a1,a2⟩:=c.ev (i / 2) hp;have cell: ∀w,(H.set (i+1) x)[w]! =if w=i+1 then x else H[w]!:=by
   intro w;rw [aU]
   by_cases e:w=i+1
   · rw [pp ⟨e,by omega⟩,pp e]
   rw [rc (fun k=>e k.1),rc e]
  have g0:aI ((H.set (i+1) x).take n) ((i+1:Nat):Int)=ajD x:=by rw [fL (by omega) (by rw [ut];omega),cell,pp rfl]
  have g1:aI ((H.set (i+1) x).take n) ((i / 2:Nat):Int)=ajD H[i / 2]!:=by rw [fL (by omega) (by rw [ut];omega),cell,rc dS]
  by_cases h:less x H[i / 2]!
  · have sw:=F0 (cap:=cap) (u:=u) (us:=us) (fr:=fr) (x:=x) hi hp dS Sk x0 x1 a1 a2
    have r:gA c0 (((i+1:Nat):Int),H.set (i+1) x,W.set x.n ((i+1:Nat):Int),u,us,fr,n,cap)=ajD (.next (((i / 2:Nat):Int),(H.set (i+1) H[i / 2]!).set (i / 2) x,(W.set (H[i / 2]!).n ((i+1:Nat):Int)).set x.n ((i / 2:Nat):Int),u,us,fr,n,cap)):=by
     unfold gA;simp only [e1,lw,qM (show i<1000000000 by omega),g0,g1,ar,mG hx Dl,h,decide_true,sw]
    rw [aZ r,Vx hx x0 (i / 2) _ _ (c.move hi hp _ _) hp (by rw [ut];exact x1) (by rw [ut];exact l1) (by rw [ut];exact l2)]
    have e:iD x (i+1) H W=iD x (i / 2) (H.set (i+1) H[i / 2]!) (W.set (H[i / 2]!).n ((i+1:Nat):Int)):=by
     rw [iD,pp h]
    rw [e]
  refine aJ ?_
  unfold gA;have e:iD x (i+1) H W=(i+1,H,W):=by rw [iD,rc h]
  rw [e];simp only [e1,lw,qM (show i<1000000000 by omega),g0,g1,ar,mG hx Dl,h,decide_false,ol,ut,l1,l2,beq_self_eq_true]
termination_by i=>i
decreasing_by omega
theorem Mm {c0:List Int×List Bool×List Int×Nat×Nat×Int×List Ev×List Int} {n cap:Nat} {u fr:List Int} {us:List Bool} {x:Ev} (hx:o9 x) (x0:0<=x.ix):
 ∀(d i:Nat) (H:List Ev) (W:List Int),n-i<=d->lJ n H W->i<n->x.ix<ajC W->ajC c0.2.2.2.2.2.2.1=ajC H->ajC c0.2.2.2.2.2.2.2=ajC W->
  ax (js c0) ((i:Int),H.set i x,W.set x.n (i:Int),u,us,fr,n,cap)=ajD (((dN n x i H W).2.1.set (dN n x i H W).1 x,(dN n x i H W).2.2.set x.n ((dN n x i H W).1:Int)))
 |0,i,H,W,hd,c,hi,x1,l1,l2=>by omega
 |d+1,i,H,W,hd,c,hi,x1,l1,l2=>by
  have hb:=c.hb;have Sk:=c.hn;have cell: ∀w,(H.set i x)[w]! =if w=i then x else H[w]!:=by
   intro w;rw [aU]
   by_cases e:w=i
   · rw [pp ⟨e,by omega⟩,pp e]
   rw [rc (fun k=>e k.1),rc e]
  have Vy:(H.set i x).length=(ajC H):=ut;have body:js c0 ((i:Int),H.set i x,W.set x.n (i:Int),u,us,fr,n,cap)=ajD (if 2*i+1<n/\less H[gJ n H i]! x then .next (((gJ n H i:Nat):Int),(H.set i H[gJ n H i]!).set (gJ n H i) x,(W.set (H[gJ n H i]!).n (i:Int)).set x.n ((gJ n H i:Nat):Int),u,us,fr,n,cap) else .done ((H.set i x,W.set x.n (i:Int)))):=by
   have k1:=ug (show i<1000000000 by omega)
   unfold js
   by_cases h1:2*i+1<n
   · have e1:al7 ((n:Int)<=((2*i+1:Nat):Int))=al2:=decide_eq_false (by omega)
     have e2:ae .i64 (((2*i+1:Nat):Int)+1)=((2*i+2:Nat):Int):=aT (by omega)
     obtain ⟨Dl,a1,a2⟩:=c.ev (2*i+1) h1;have g0:aI ((H.set i x).take n) (i:Int)=ajD x:=by rw [fL (by omega) (by rw [ut];omega),cell,pp rfl]
     have g1:aI ((H.set i x).take n) ((2*i+1:Nat):Int)=ajD H[2*i+1]!:=by rw [fL (by omega) (by rw [ut];omega),cell,rc (by omega)]
     have s1:=F0 (cap:=cap) (u:=u) (us:=us) (fr:=fr) (x:=x) hi h1 (by omega) Sk x0 x1 a1 a2
     simp only [aA,k1,Vy,e1,e2,ol,g0,g1,ar,mG Dl hx,s1,ut,l1,l2,beq_self_eq_true,lw]
     by_cases h2:2*i+2<n
     · have e3:al7 (((2*i+2:Nat):Int)<(n:Int))=ajE:=decide_eq_true (by omega)
       obtain ⟨Vw,b1,b2⟩:=c.ev (2*i+2) h2;have g2:aI ((H.set i x).take n) ((2*i+2:Nat):Int)=ajD H[2*i+2]!:=by rw [fL (by omega) (by rw [ut];omega),cell,rc (by omega)]
       have s2:=F0 (cap:=cap) (u:=u) (us:=us) (fr:=fr) (x:=x) hi h2 (by omega) Sk x0 x1 b1 b2
       simp only [e3,lw,g2,ar,s2,mG Vw hx,mG Vw Dl]
       by_cases h3:less H[2*i+2]! H[2*i+1]!
       · have k:gJ n H i=2*i+2:=by unfold gJ;rw [pp ⟨h2,h3⟩]
         rw [k]
         by_cases h4:less H[2*i+2]! x
         · simp only [h1,h3,h4,decide_true,lw,ol,If,and_self,if_true]
         simp only [h1,h3,h4,decide_true,decide_false,lw,EQ,and_false,if_false]
       have k:gJ n H i=2*i+1:=by unfold gJ;rw [rc (fun h=>h3 h.2)]
       rw [k]
       by_cases h4:less H[2*i+1]! x
       · simp only [h1,h3,h4,decide_true,decide_false,ol,If,and_self,if_true]
       simp only [h1,h3,h4,decide_false,lw,ol,EQ,and_false,if_false]
     have e3:al7 (((2*i+2:Nat):Int)<(n:Int))=al2:=decide_eq_false (by omega)
     have k:gJ n H i=2*i+1:=by unfold gJ;rw [rc (fun h=>h2 h.1)]
     rw [k];simp only [e3,ol]
     by_cases h4:less H[2*i+1]! x
     · simp only [h1,h4,decide_true,ol,If,and_self,if_true]
     simp only [h1,h4,decide_false,lw,EQ,and_false,if_false]
   have e1:al7 ((n:Int)<=((2*i+1:Nat):Int))=ajE:=decide_eq_true (by omega)
   rw [rc (fun h=>h1 h.1)]
   simp only [aA,k1,Vy,e1,lw,ut,l1,l2,beq_self_eq_true]
  by_cases h:2*i+1<n/\less H[gJ n H i]! x
  · rw [pp h] at body
    have kc:=nB n H i;have kn:gJ n H i<n:=by omega
    rw [aZ body,Mm hx x0 d (gJ n H i) _ _ (by omega) (c.move hi kn _ _) kn (by rw [ut];exact x1) (by rw [ut];exact l1) (by rw [ut];exact l2)]
    have e:dN n x i H W=dN n x (gJ n H i) (H.set i H[gJ n H i]!) (W.set (H[gJ n H i]!).n (i:Int)):=by
     rw [dN,dif_pos h.1,pp h.2]
    rw [e]
  rw [rc h] at body
  rw [aJ body];have e:dN n x i H W=(i,H,W):=by
   rw [dN];split
   · rename_i h1;rw [rc (fun k=>h ⟨h1,k⟩)]
   rfl
  rw [e]
theorem Bu {n:Nat} {H:List Ev} {W:List Int} {x:Ev} {u fr:List Int} {us:List Bool} {i k:Nat} (hi:i<n) (hk:k<n) (Kc:k≠i) (hn:n=ajC H) (x0:0<=x.ix) (x1:x.ix<ajC W) (k0:0<=(H[k]!).ix) (k1:(H[k]!).ix<ajC W):
 fk ((i:Int),(k:Int),u,us,fr,H.set i x,W.set x.n (i:Int))=ajD (u,us,fr,(H.set i H[k]!).set k x,(W.set (H[k]!).n (i:Int)).set x.n (k:Int)):=by
 have cell: ∀w,(H.set i x)[w]! =if w=i then x else H[w]!:=by
  intro w;rw [aU]
  by_cases e:w=i
  · rw [pp ⟨e,by omega⟩,pp e]
  rw [rc (fun k=>e k.1),rc e]
 have sh:((H.set i x).set i H[k]!).set k x=(H.set i H[k]!).set k x:=by rw [UV]
 have sw:((W.set x.n (i:Int)).set (H[k]!).n (i:Int)).set x.n (k:Int)=(W.set (H[k]!).n (i:Int)).set x.n (k:Int):=by
  by_cases e:x.n=(H[k]!).n
  · simp only [e,UV]
  rw [afm _ _ (fun h=>e h),UV]
 have g1:aI ((H.set i x)) (k:Int)=ajD H[k]!:=by rw [au _ _ (by rw [ut];omega),cell,rc Kc]
 have g2:aI ((H.set i x)) (i:Int)=ajD x:=by rw [au _ _ (by rw [ut];omega),cell,pp rfl]
 have g3:aI (((H.set i x).set i H[k]!)) (k:Int)=ajD H[k]!:=by rw [au _ _ (by rw [ut,ut];omega),aU,rc (fun h=>Kc h.1),cell,rc Kc]
 have g4:aI (((H.set i H[k]!).set k x)) (i:Int)=ajD H[k]!:=by rw [au _ _ (by rw [ut,ut];omega),aU,rc (fun h=>Kc h.1.symm),aU,pp ⟨rfl,by omega⟩]
 have g5:aI (((H.set i H[k]!).set k x)) (k:Int)=ajD x:=by rw [au _ _ (by rw [ut,ut];omega),aU,pp ⟨rfl,by rw [ut];omega⟩]
 have w6:=dG (l:=W.set x.n (i:Int)) k0 (by rw [ut];exact k1)
 have w7:=dG (l:=(W.set x.n (i:Int)).set (H[k]!).n (i:Int)) x0 (by rw [ut,ut];exact x1)
 have q1: ∀(l:List Int) (a:Int) (y:Ev),cj l y.2.2.2.1 a=l.set y.n a:=fun _ _ _=>rfl
 unfold fk;simp only [mu,g1,g2,g3,ar,sh,g4,g5,q1,w6,w7,sw,ut,beq_self_eq_true,lw]
theorem Vz {c0:Int×List Int×List Bool×List Int×List Ev×List Int} {n:Nat} {u fr:List Int} {us:List Bool} {x:Ev} (hx:o9 x) (x0:0<=x.ix) (l3:(ajC c0.2.1)=ajC u) (l4:(ajC c0.2.2.1)=ajC us) (l5:(ajC c0.2.2.2.1)=ajC fr):
 ∀(i:Nat) (H:List Ev) (W:List Int),lJ n H W->i<n->ajC H=n->x.ix<ajC W->ajC c0.2.2.2.2.1=ajC H->ajC c0.2.2.2.2.2=ajC W->
  ax (gB c0) ((i:Int),u,us,fr,H.set i x,W.set x.n (i:Int))=ajD (((iD x i H W).1:Int),u,us,fr,(iD x i H W).2.1.set (iD x i H W).1 x,(iD x i H W).2.2.set x.n ((iD x i H W).1:Int))
 |0,H,W,c,hi,QM,x1,l1,l2=>by
  have Sk:=c.hn;refine aJ ?_;unfold gB;have e1:al7 ((0:Int)<((0:Nat):Int))=al2:=by simp
  rw [iD];simp only [e1,ol,ut,l1,l2,l3,l4,l5,beq_self_eq_true,lw]
 |i+1,H,W,c,hi,QM,x1,l1,l2=>by
  have hb:=c.hb;have Sk:=c.hn;have e1:al7 ((0:Int)<((i+1:Nat):Int))=ajE:=decide_eq_true (by omega)
  have hp:i / 2<n:=by omega
  have dS:i / 2≠i+1:=by omega
  obtain ⟨Dl,a1,a2⟩:=c.ev (i / 2) hp;have cell: ∀w,(H.set (i+1) x)[w]! =if w=i+1 then x else H[w]!:=by
   intro w;rw [aU]
   by_cases e:w=i+1
   · rw [pp ⟨e,by omega⟩,pp e]
   rw [rc (fun k=>e k.1),rc e]
  have g0:aI ((H.set (i+1) x)) ((i+1:Nat):Int)=ajD x:=by rw [au _ _ (by rw [ut];omega),cell,pp rfl]
  have g1:aI ((H.set (i+1) x)) ((i / 2:Nat):Int)=ajD H[i / 2]!:=by rw [au _ _ (by rw [ut];omega),cell,rc dS]
  by_cases h:less x H[i / 2]!
  · have sw:=Bu (u:=u) (us:=us) (fr:=fr) (x:=x) hi hp dS QM.symm x0 x1 a1 a2
    have r:gB c0 (((i+1:Nat):Int),u,us,fr,H.set (i+1) x,W.set x.n ((i+1:Nat):Int))=ajD (.next (((i / 2:Nat):Int),u,us,fr,(H.set (i+1) H[i / 2]!).set (i / 2) x,(W.set (H[i / 2]!).n ((i+1:Nat):Int)).set x.n ((i / 2:Nat):Int))):=by
     unfold gB;simp only [e1,lw,qM (show i<1000000000 by omega),g0,g1,ar,mG hx Dl,h,decide_true,sw]
    rw [aZ r,Vz hx x0 l3 l4 l5 (i / 2) _ _ (c.move hi hp _ _) hp (by rw [ut];exact QM) (by rw [ut];exact x1) (by rw [ut];exact l1) (by rw [ut];exact l2)]
    have e:iD x (i+1) H W=iD x (i / 2) (H.set (i+1) H[i / 2]!) (W.set (H[i / 2]!).n ((i+1:Nat):Int)):=by
     rw [iD,pp h]
    rw [e]
  refine aJ ?_
  unfold gB;have e:iD x (i+1) H W=(i+1,H,W):=by rw [iD,rc h]
  rw [e];simp only [e1,lw,qM (show i<1000000000 by omega),g0,g1,ar,mG hx Dl,h,decide_false,ol,ut,l1,l2,l3,l4,l5,beq_self_eq_true]
termination_by i=>i
decreasing_by omega
theorem Mn {c0:Int×List Int×List Bool×List Int×List Ev×List Int} {n:Nat} {u fr:List Int} {us:List Bool} {x:Ev} (hx:o9 x) (x0:0<=x.ix) (l3:(ajC c0.2.1)=ajC u) (l4:(ajC c0.2.2.1)=ajC us) (l5:(ajC c0.2.2.2.1)=ajC fr):
 ∀(d i:Nat) (H:List Ev) (W:List Int),n-i<=d->lJ n H W->i<n->ajC H=n->x.ix<ajC W->ajC c0.2.2.2.2.1=ajC H->ajC c0.2.2.2.2.2=ajC W->
  ax (jt c0) ((i:Int),u,us,fr,H.set i x,W.set x.n (i:Int))=ajD ((u,us,fr,(dN n x i H W).2.1.set (dN n x i H W).1 x,(dN n x i H W).2.2.set x.n ((dN n x i H W).1:Int)))
 |0,i,H,W,hd,c,hi,QM,x1,l1,l2=>by omega
 |d+1,i,H,W,hd,c,hi,QM,x1,l1,l2=>by
  have hb:=c.hb;have Sk:=c.hn;have cell: ∀w,(H.set i x)[w]! =if w=i then x else H[w]!:=by
   intro w;rw [aU]
   by_cases e:w=i
   · rw [pp ⟨e,by omega⟩,pp e]
   rw [rc (fun k=>e k.1),rc e]
  have Vy:(H.set i x).length=(ajC H):=ut;have body:jt c0 ((i:Int),u,us,fr,H.set i x,W.set x.n (i:Int))=ajD (if 2*i+1<n/\less H[gJ n H i]! x then .next (((gJ n H i:Nat):Int),u,us,fr,(H.set i H[gJ n H i]!).set (gJ n H i) x,(W.set (H[gJ n H i]!).n (i:Int)).set x.n ((gJ n H i:Nat):Int)) else .done ((u,us,fr,H.set i x,W.set x.n (i:Int)))):=by
   have k1:=ug (show i<1000000000 by omega)
   unfold jt
   by_cases h1:2*i+1<n
   · have e1:al7 ((n:Int)<=((2*i+1:Nat):Int))=al2:=decide_eq_false (by omega)
     have e2:ae .i64 (((2*i+1:Nat):Int)+1)=((2*i+2:Nat):Int):=aT (by omega)
     obtain ⟨Dl,a1,a2⟩:=c.ev (2*i+1) h1;have g0:aI ((H.set i x)) (i:Int)=ajD x:=by rw [au _ _ (by rw [ut];omega),cell,pp rfl]
     have g1:aI ((H.set i x)) ((2*i+1:Nat):Int)=ajD H[2*i+1]!:=by rw [au _ _ (by rw [ut];omega),cell,rc (by omega)]
     have s1:=Bu (u:=u) (us:=us) (fr:=fr) (x:=x) hi h1 (by omega) QM.symm x0 x1 a1 a2
     simp only [aA,k1,Vy,QM,e1,e2,ol,g0,g1,ar,mG Dl hx,s1,ut,l1,l2,l3,l4,l5,beq_self_eq_true,lw]
     by_cases h2:2*i+2<n
     · have e3:al7 (((2*i+2:Nat):Int)<(n:Int))=ajE:=decide_eq_true (by omega)
       obtain ⟨Vw,b1,b2⟩:=c.ev (2*i+2) h2;have g2:aI ((H.set i x)) ((2*i+2:Nat):Int)=ajD H[2*i+2]!:=by rw [au _ _ (by rw [ut];omega),cell,rc (by omega)]
       have s2:=Bu (u:=u) (us:=us) (fr:=fr) (x:=x) hi h2 (by omega) QM.symm x0 x1 b1 b2
       simp only [e3,lw,g2,ar,s2,mG Vw hx,mG Vw Dl]
       by_cases h3:less H[2*i+2]! H[2*i+1]!
       · have k:gJ n H i=2*i+2:=by unfold gJ;rw [pp ⟨h2,h3⟩]
         rw [k]
         by_cases h4:less H[2*i+2]! x
         · simp only [h1,h3,h4,decide_true,lw,ol,If,and_self,if_true]
         simp only [h1,h3,h4,decide_true,decide_false,lw,EQ,and_false,if_false]
       have k:gJ n H i=2*i+1:=by unfold gJ;rw [rc (fun h=>h3 h.2)]
       rw [k]
       by_cases h4:less H[2*i+1]! x
       · simp only [h1,h3,h4,decide_true,decide_false,ol,If,and_self,if_true]
       simp only [h1,h3,h4,decide_false,lw,ol,EQ,and_false,if_false]
     have e3:al7 (((2*i+2:Nat):Int)<(n:Int))=al2:=decide_eq_false (by omega)
     have k:gJ n H i=2*i+1:=by unfold gJ;rw [rc (fun h=>h2 h.1)]
     rw [k];simp only [e3,ol]
     by_cases h4:less H[2*i+1]! x
     · simp only [h1,h4,decide_true,ol,If,and_self,if_true]
     simp only [h1,h4,decide_false,lw,EQ,and_false,if_false]
   have e1:al7 ((n:Int)<=((2*i+1:Nat):Int))=ajE:=decide_eq_true (by omega)
   rw [rc (fun h=>h1 h.1)]
   simp only [aA,k1,Vy,QM,e1,lw,ut,l1,l2,l3,l4,l5,beq_self_eq_true]
  by_cases h:2*i+1<n/\less H[gJ n H i]! x
  · rw [pp h] at body
    have kc:=nB n H i;have kn:gJ n H i<n:=by omega
    rw [aZ body,Mn hx x0 l3 l4 l5 d (gJ n H i) _ _ (by omega) (c.move hi kn _ _) kn (by rw [ut];exact QM) (by rw [ut];exact x1) (by rw [ut];exact l1) (by rw [ut];exact l2)]
    have e:dN n x i H W=dN n x (gJ n H i) (H.set i H[gJ n H i]!) (W.set (H[gJ n H i]!).n (i:Int)):=by
     rw [dN,dif_pos h.1,pp h.2]
    rw [e]
  rw [rc h] at body
  rw [aJ body];have e:dN n x i H W=(i,H,W):=by
   rw [dN];split
   · rename_i h1;rw [rc (fun k=>h ⟨h1,k⟩)]
   rfl
  rw [e]
theorem VA {n:Nat} {H:List Ev} {W:List Int} {x:Ev} {u fr:List Int} {us:List Bool} {i k:Nat} (hi:i<n) (hk:k<n) (Kc:k≠i) (hn:n=ajC H) (x0:0<=x.ix) (x1:x.ix<ajC W) (k0:0<=(H[k]!).ix) (k1:(H[k]!).ix<ajC W):
 lR (u,us,fr,(i:Int),(k:Int),H.set i x,W.set x.n (i:Int))=ajD ((H.set i H[k]!).set k x,(W.set (H[k]!).n (i:Int)).set x.n (k:Int)):=by
 have cell: ∀w,(H.set i x)[w]! =if w=i then x else H[w]!:=by
  intro w;rw [aU]
  by_cases e:w=i
  · rw [pp ⟨e,by omega⟩,pp e]
  rw [rc (fun k=>e k.1),rc e]
 have sh:((H.set i x).set i H[k]!).set k x=(H.set i H[k]!).set k x:=by rw [UV]
 have sw:((W.set x.n (i:Int)).set (H[k]!).n (i:Int)).set x.n (k:Int)=(W.set (H[k]!).n (i:Int)).set x.n (k:Int):=by
  by_cases e:x.n=(H[k]!).n
  · simp only [e,UV]
  rw [afm _ _ (fun h=>e h),UV]
 have g1:aI ((H.set i x)) (k:Int)=ajD H[k]!:=by rw [au _ _ (by rw [ut];omega),cell,rc Kc]
 have g2:aI ((H.set i x)) (i:Int)=ajD x:=by rw [au _ _ (by rw [ut];omega),cell,pp rfl]
 have g3:aI (((H.set i x).set i H[k]!)) (k:Int)=ajD H[k]!:=by rw [au _ _ (by rw [ut,ut];omega),aU,rc (fun h=>Kc h.1),cell,rc Kc]
 have g4:aI (((H.set i H[k]!).set k x)) (i:Int)=ajD H[k]!:=by rw [au _ _ (by rw [ut,ut];omega),aU,rc (fun h=>Kc h.1.symm),aU,pp ⟨rfl,by omega⟩]
 have g5:aI (((H.set i H[k]!).set k x)) (k:Int)=ajD x:=by rw [au _ _ (by rw [ut,ut];omega),aU,pp ⟨rfl,by rw [ut];omega⟩]
 have w6:=dG (l:=W.set x.n (i:Int)) k0 (by rw [ut];exact k1)
 have w7:=dG (l:=(W.set x.n (i:Int)).set (H[k]!).n (i:Int)) x0 (by rw [ut,ut];exact x1)
 have q1: ∀(l:List Int) (a:Int) (y:Ev),cj l y.2.2.2.1 a=l.set y.n a:=fun _ _ _=>rfl
 unfold lR;simp only [mu,g1,g2,g3,ar,sh,g4,g5,q1,w6,w7,sw,ut,beq_self_eq_true,lw]
theorem VB {c0:List Int×List Bool×List Int×Int×List Ev×List Int} {n:Nat} {u fr:List Int} {us:List Bool} {x:Ev} (hx:o9 x) (x0:0<=x.ix):
 ∀(i:Nat) (H:List Ev) (W:List Int),lJ n H W->i<n->ajC H=n->x.ix<ajC W->ajC c0.2.2.2.2.1=ajC H->ajC c0.2.2.2.2.2=ajC W->
  ax (gC c0) ((i:Int),H.set i x,W.set x.n (i:Int),u,us,fr)=ajD (((iD x i H W).1:Int),(iD x i H W).2.1.set (iD x i H W).1 x,(iD x i H W).2.2.set x.n ((iD x i H W).1:Int))
 |0,H,W,c,hi,QM,x1,l1,l2=>by
  have Sk:=c.hn;refine aJ ?_;unfold gC;have e1:al7 ((0:Int)<((0:Nat):Int))=al2:=by simp
  rw [iD];simp only [e1,ol,ut,l1,l2,beq_self_eq_true,lw]
 |i+1,H,W,c,hi,QM,x1,l1,l2=>by
  have hb:=c.hb;have Sk:=c.hn;have e1:al7 ((0:Int)<((i+1:Nat):Int))=ajE:=decide_eq_true (by omega)
  have hp:i / 2<n:=by omega
  have dS:i / 2≠i+1:=by omega
  obtain ⟨Dl,a1,a2⟩:=c.ev (i / 2) hp;have cell: ∀w,(H.set (i+1) x)[w]! =if w=i+1 then x else H[w]!:=by
   intro w;rw [aU]
   by_cases e:w=i+1
   · rw [pp ⟨e,by omega⟩,pp e]
   rw [rc (fun k=>e k.1),rc e]
  have g0:aI ((H.set (i+1) x)) ((i+1:Nat):Int)=ajD x:=by rw [au _ _ (by rw [ut];omega),cell,pp rfl]
  have g1:aI ((H.set (i+1) x)) ((i / 2:Nat):Int)=ajD H[i / 2]!:=by rw [au _ _ (by rw [ut];omega),cell,rc dS]
  by_cases h:less x H[i / 2]!
  · have sw:=VA (u:=u) (us:=us) (fr:=fr) (x:=x) hi hp dS QM.symm x0 x1 a1 a2
    have r:gC c0 (((i+1:Nat):Int),H.set (i+1) x,W.set x.n ((i+1:Nat):Int),u,us,fr)=ajD (.next (((i / 2:Nat):Int),(H.set (i+1) H[i / 2]!).set (i / 2) x,(W.set (H[i / 2]!).n ((i+1:Nat):Int)).set x.n ((i / 2:Nat):Int),u,us,fr)):=by
     unfold gC;simp only [e1,lw,qM (show i<1000000000 by omega),g0,g1,ar,mG hx Dl,h,decide_true,sw]
    rw [aZ r,VB hx x0 (i / 2) _ _ (c.move hi hp _ _) hp (by rw [ut];exact QM) (by rw [ut];exact x1) (by rw [ut];exact l1) (by rw [ut];exact l2)]
    have e:iD x (i+1) H W=iD x (i / 2) (H.set (i+1) H[i / 2]!) (W.set (H[i / 2]!).n ((i+1:Nat):Int)):=by
     rw [iD,pp h]
    rw [e]
  refine aJ ?_
  unfold gC;have e:iD x (i+1) H W=(i+1,H,W):=by rw [iD,rc h]
  rw [e];simp only [e1,lw,qM (show i<1000000000 by omega),g0,g1,ar,mG hx Dl,h,decide_false,ol,ut,l1,l2,beq_self_eq_true]
termination_by i=>i
decreasing_by omega
theorem aC {p:Prop} [Decidable p] (h: ¬p):decide p=al2:=decide_eq_false h
theorem aF {p:Prop} [Decidable p] (h:p):decide p=ajE:=decide_eq_true h
theorem Mo (aB:List Int) (be:List Bool) (fr:List Int) (fl:List Bool) (h1:(ajC aB)<=200) (h2:(ajC be)=ajC aB) (h3:(ajC fl)=ajC aB):
 ((∀i,i<ajC aB->0<=aB[i]!/\aB[i]!<=1000000/\be[i]!≠fl[i]!/\(be[i]! =ajE->1<=aB[i]!))->ax jK (((ajC aB):Int),0,aB,be,fr,fl)=ajD (.done 0))/\
 (¬(∀i,i<ajC aB->0<=aB[i]!/\aB[i]!<=1000000/\be[i]!≠fl[i]!/\(be[i]! =ajE->1<=aB[i]!))->ax jK (((ajC aB):Int),0,aB,be,fr,fl)=ajD (.done 8)):=by
 have key:=dh (body:=jK) (fun i=>(((ajC aB):Int),(i:Int),aB,be,fr,fl)) (ajC aB) (fun i=> ¬(0<=aB[i]!/\aB[i]!<=1000000/\be[i]!≠fl[i]!/\(be[i]! =ajE->1<=aB[i]!))) (r:= .done 8) (e:= .done 0) (fun i hi=>by
  have e1:al7 ((i:Int)<((ajC aB):Int))=ajE:=aF (by omega)
  unfold jK;simp only [e1,lw,au aB i hi,au be i (by omega),au fl i (by omega),ar,aT (show i<1000000000 by omega)]
  generalize aB[i]! =u;generalize be[i]! =a;generalize fl[i]! =b
  by_cases a1:u<0
  · simp only [a1,decide_true,lw];exact ⟨fun _=>trivial,fun h=>absurd (v6.1 h).1 (by omega)⟩
  · by_cases a2:1000000<u
    · simp only [a1,a2,decide_true,decide_false,lw,ol];exact ⟨fun _=>trivial,fun h=>absurd (v6.1 h).2.1 (by omega)⟩
    simp only [a1,a2,decide_false,ol]
    by_cases a3:u<1
    · cases a<;>cases b<;>simp [a3]<;>omega
    cases a<;>cases b<;>simp [a3]<;>omega) (by
  unfold jK
  have:al7 (((ajC aB):Int)<((ajC aB):Int))=al2:=aC (by omega)
  simp only [this,ol])
 constructor
 · intro h
   exact key.2 fun i hi=>v6.2 (h i hi)
 intro h
 obtain ⟨i,h⟩:=F0s.1 h;obtain ⟨hi,hx⟩:=aet.1 h;exact key.1 ⟨i,hi,hx⟩
theorem F1 {α:Type} {n:Nat} (z:α) (h:n<=1048576):wU (n:Int) z=ajD (ww n z):=by
 unfold wU;rw [pp ⟨by omega,by omega⟩]
 simp
theorem F2 (s:bc) (hf:(ajC s.bi)<=1000000):tj s=ajD (if eM s then 0 else 8):=by
 obtain ⟨aB,be,fr⟩:=s;dsimp only at hf;unfold tj;simp only [aA]
 by_cases a1:(ajC aB)<1
 · have e:al7 (((ajC aB):Int)<1)=ajE:=aF (by omega)
   rw [e,rc (fun h=>by have:=h.n1;dsimp only at this;omega)];rfl
 have e1:al7 (((ajC aB):Int)<1)=al2:=aC (by omega)
 by_cases a2:200<ajC aB
 · have e:al7 (200<((ajC aB):Int))=ajE:=aF (by omega)
   rw [e1,e,rc (fun h=>by have:=h.n2;dsimp only at this;omega)];rfl
 have e2:al7 (200<((ajC aB):Int))=al2:=aC (by omega)
 by_cases a3:(ajC be)=ajC aB
 case neg=>
  have e:(((ajC be):Int) !=((ajC aB):Int))=ajE:=cC (by omega)
  rw [e1,e2,e,rc (fun h=>a3 h.ul)];rfl
 have e3:(((ajC be):Int) !=((ajC aB):Int))=al2:=bo (by omega)
 by_cases a4:(ajC aB)<ajC fr
 · have e:al7 (((ajC aB):Int)<((ajC fr):Int))=ajE:=aF (by omega)
   rw [e1,e2,e3,e,rc (fun h=>by have:=h.fl;dsimp only at this;omega)];rfl
 have e4:al7 (((ajC aB):Int)<((ajC fr):Int))=al2:=aC (by omega)
 simp only [e1,e2,e3,e4,ol,beq_self_eq_true,lw,F1 al2 (show (ajC aB)<=1048576 by omega),ar]
 have ml: ∀k,(marks (ww (ajC aB) al2) (fr.take k)).length=(ajC aB):=fun k=>by rw [lX,PP]
 have ml':(marks (ww (ajC aB) al2) fr).length=(ajC aB):=by rw [lX,PP]
 have rep: ∀i:Nat,(ww (ajC aB) al2)[i]! =al2:=by
  intro i
  by_cases h:i<ajC aB
  · rw [getElem!_pos _ i (by simpa using h),List.getElem_replicate]
  rw [getElem!_neg _ i (by simpa using h)];rfl
 have FP:=Mo aB be fr (marks (ww (ajC aB) al2) fr) (by omega) a3 ml'
 have key:=dh (body:=oj) (fun k=>(((ajC aB):Int),(k:Int),aB,be,fr,marks (ww (ajC aB) al2) (fr.take k))) (ajC fr)
  (fun k=>fr[k]!<0\/((ajC aB):Int)<=fr[k]!\/(marks (ww (ajC aB) al2) (fr.take k))[(fr[k]!).toNat]! =ajE) (r:=8)
  (e:=if (∀i,i<ajC aB->0<=aB[i]!/\aB[i]!<=1000000/\be[i]!≠(marks (ww (ajC aB) al2) fr)[i]!/\(be[i]! =ajE->1<=aB[i]!)) then 0 else 8) (fun k hk=>by
   have f1:al7 ((k:Int)<((ajC fr):Int))=ajE:=aF (by omega)
   have f5:marks (ww (ajC aB) al2) (fr.take (k+1))=cj (marks (ww (ajC aB) al2) (fr.take k)) fr[k]! ajE:=by rw [ew hk,Aq]
   unfold oj;simp only [aA,f1,lw,au fr k hk,ar,aT (show k<1000000000 by omega),f5]
   clear f5;generalize fr[k]! =x
   by_cases b1:x<0
   · simp [b1]
   · by_cases b2:((ajC aB):Int)<=x
     · simp [b1,b2]
     simp only [b1,b2,decide_false,ol,false_or]
     rw [dG (l:=marks (ww (ajC aB) al2) (fr.take k)) (i:=x) (by omega) (by rw [ml];omega)]
     simp only [ar];cases (marks (ww (ajC aB) al2) (fr.take k))[x.toNat]!<;>simp) (by
   have f1:al7 (((ajC fr):Int)<((ajC fr):Int))=al2:=aC (by omega)
   unfold oj;simp only [aA,f1,ol,afv]
   by_cases hx:(∀i,i<ajC aB->0<=aB[i]!/\aB[i]!<=1000000/\be[i]!≠(marks (ww (ajC aB) al2) fr)[i]!/\(be[i]! =ajE->1<=aB[i]!))
   · rw [pp hx];exact FP.1 hx
   rw [rc hx];exact FP.2 hx)
 have h0:marks (ww (ajC aB) al2) (fr.take 0)=ww (ajC aB) al2:=rfl;rw [show ((0:Nat):Int)=0 from rfl,h0] at key
 by_cases bad: ∃k,k<ajC fr/\(fr[k]!<0\/((ajC aB):Int)<=fr[k]!\/(marks (ww (ajC aB) al2) (fr.take k))[(fr[k]!).toNat]! =ajE)
 · rw [key.1 bad,rc]
   intro ok;obtain ⟨k,hk,hb⟩:=bad;have hr:=ok.fr fr[k]! (aY hk);dsimp only at hr;rcases hb with hb|hb|hb
   · omega
   · omega
   rw [nA _ _ _ (fun x hx=>(ok.fr x (adc hx)).1) (by rw [PP];omega),rep,afn] at hb
   have hi:((fr[k]!).toNat:Int)=fr[k]!:=by omega
   rw [hi] at hb;have hm:fr[k]!∈fr.take k:=of_decide_eq_true hb;obtain ⟨j,h1,h2,h3⟩:=cf.1 hm;exact gI.1 ok.fd j k h1 hk h3
 have OO: ∀k,k<ajC fr->0<=fr[k]!/\fr[k]!<ajC aB/\(marks (ww (ajC aB) al2) (fr.take k))[(fr[k]!).toNat]! =al2:=by
  intro k hk;refine ⟨?_,?_,?_⟩
  · exact Int.not_lt.1 fun h=>bad ⟨k,hk,.inl h⟩
  · exact Int.not_le.1 fun h=>bad ⟨k,hk,.inr (.inl h)⟩
  exact af3 _▸fun h=>bad ⟨k,hk,.inr (.inr h)⟩
 rw [key.2 fun k hk hb=>bad ⟨k,hk,hb⟩]
 have FQ: ∀x∈fr,0<=x/\x<((ajC aB):Int):=by
  intro x hx;obtain ⟨k,hk,rfl⟩:=aS.1 hx;exact ⟨(OO k hk).1,(OO k hk).2.1⟩
 have g2: ∀k,k<ajC fr->fr[k]!∉fr.take k:=by
  intro k hk;obtain ⟨c1,c2,c3⟩:=OO k hk;rw [nA _ _ _ (fun x hx=>(FQ x (adc hx)).1) (by rw [PP];omega),show ((fr[k]!).toNat:Int)=fr[k]! by omega,rep,afn] at c3
  exact of_decide_eq_false c3
 have nd:fr.Nodup:=gI.2 fun i j k8 hj he=>g2 j hj (cf.2 ⟨i,k8,by omega,he⟩)
 have fl: ∀i,i<ajC aB->(marks (ww (ajC aB) al2) fr)[i]! =al7 ((i:Int)∈fr):=by
  intro i hi;rw [nA _ _ _ (fun x hx=>(FQ x hx).1) (by rw [PP];omega),rep,afn]
 by_cases hx:(∀i,i<ajC aB->0<=aB[i]!/\aB[i]!<=1000000/\be[i]!≠(marks (ww (ajC aB) al2) fr)[i]!/\(be[i]! =ajE->1<=aB[i]!))
 · rw [pp hx,pp]
   refine ⟨by show 1<=ajC aB;omega,by show (ajC aB)<=200;omega,a3,FQ,nd,fun i hi=>?_,fun i hi=>?_⟩
   · have:=(hx i hi).2.2.1
     rw [fl i hi] at this;dsimp only;cases h:be[i]! with
     |true=>
      rw [h] at this;refine ⟨fun _ hm=>?_,fun _=>rfl⟩
      rw [aF hm] at this;exact this rfl
     |false=>
      rw [h] at this;refine ⟨fun h=>(by cases h),fun hm=>?_⟩
      rw [aC hm] at this;exact absurd rfl this
   have:=hx i hi
   exact ⟨this.1,this.2.1,this.2.2.2⟩
 rw [rc hx,rc]
 intro ok;refine hx fun i hi=>?_
 obtain ⟨u1,u2,u3⟩:=ok.us i hi;refine ⟨u1,u2,?_,u3⟩;rw [fl i hi]
 have:=ok.uf i hi
 dsimp only at this;intro he
 by_cases hm:(i:Int)∈fr
 · rw [aF hm] at he;exact (this.1 he) hm
 rw [aC hm] at he
 have:=this.2 hm
 rw [he] at this;cases this
structure x9 (a:aM):Prop where
 fr:(ajC a.af.bi)<=1000000
 hp:(ajC a.bv)<=1000000
 wh:(ajC a.aj)<=1000000
 OT: ∀w,w<ajC a.bv->oM ((a.bv[w]!).1,(a.bv[w]!).2.1)
structure eK (a:aM):Prop where
 so:eM a.af
 wl:(ajC a.aj)=ajC a.af.aB
 hl:(ajC a.bv)+ajC a.af.bi=ajC a.af.aB
 fwd: ∀i,i<ajC a.af.aB->a.af.be[i]! =ajE->0<=a.aj[i]!/\a.aj[i]!<ajC a.bv/\(Ev.ix a.bv[(a.aj[i]!).toNat]!)=i/\(a.bv[(a.aj[i]!).toNat]!).2.2.2.2=a.af.aB[i]!
 un: ∀i,i<ajC a.af.aB->a.af.be[i]! =al2->a.aj[i]! = -1
 ev: ∀w,w<ajC a.bv->o9 a.bv[w]!
 nd: ∀v w,v<w->w<ajC a.bv->(Ev.num a.bv[v]!)≠(Ev.num a.bv[w]!)
 ord: ∀k,0<k->k<ajC a.bv-> ¬less a.bv[k]! a.bv[(k-1) / 2]!
theorem cover: ∀(n:Nat) (l:List Nat),(∀x,x<n->x∈l)->n<=ajC l
 |0,_,_=>Nat.zero_le _
 |n+1,l,h=>by
  have hn:=h n (by omega)
  have:=cover n (l.erase n) (fun x hx=>by
   rw [List.mem_erase_of_ne (by omega)]
   exact h x (by omega))
  rw [List.length_erase_of_mem hn] at this
  have:=List.length_pos_of_mem hn
  omega
def HY (s:bc):List Nat:=(List.range (ajC s.aB)).filter fun i=>s.be[i]!
theorem yW {s:bc} {i:Nat}:i∈HY s↔i<ajC s.aB/\s.be[i]! =ajE:=by
 unfold HY;rw [afO,List.mem_range]
theorem yX {α β:Type} {f:α->β}: ∀{l:List α},l.Nodup->(∀x∈l,∀y∈l,f x=f y->x=y)->(l.map f).Nodup
 | [],_,_=>by simp
 |a::l,h,hf=>by
  rw [aev] at h;rw [List.map_cons,aev];refine ⟨?_,yX h.2 fun x hx y hy=>hf x (by simp [hx]) y (by simp [hy])⟩
  intro hm;obtain ⟨b,hb,e⟩:=acK.1 hm
  have:=hf b (by simp [hb]) a (by simp) e
  subst this;exact h.1 hb
theorem eK.back {a:aM} (ok:eK a) {w:Nat} (hw:w<ajC a.bv):0<=(Ev.ix a.bv[w]!)/\(Ev.ix a.bv[w]!)<ajC a.af.aB/\a.af.be[(Ev.n a.bv[w]!)]! =ajE/\a.af.aB[(Ev.n a.bv[w]!)]! =(a.bv[w]!).2.2.2.2/\a.aj[(Ev.n a.bv[w]!)]! =(w:Int):=by
 have so:=ok.so;have len:(ajC a.af.aB)<=(HY a.af).length+(ajC a.af.bi):=by
  have:=cover (ajC a.af.aB) (HY a.af++a.af.bi.map aig) (fun x hx=>by
   rw [af5]
   by_cases hu:a.af.be[x]! =ajE
   · exact .inl (yW.2 ⟨hx,hu⟩)
   right
   have:=so.uf x hx
   have hm:(x:Int)∈a.af.bi:=IR fun hc=>hu (this.2 hc)
   exact acK.2 ⟨_,hm,by omega⟩)
  rw [List.length_append,aew] at this;exact this
 have f0: ∀i∈HY a.af,0<=a.aj[i]!/\a.aj[i]!<ajC a.bv/\(Ev.ix a.bv[(a.aj[i]!).toNat]!)=i/\(a.bv[(a.aj[i]!).toNat]!).2.2.2.2=a.af.aB[i]!:=fun i hi=>ok.fwd i (yW.1 hi).1 (yW.1 hi).2
 have full:=Di (n:=ajC a.bv) (l:=(HY a.af).map fun i=>(a.aj[i]!).toNat) (by
  refine yX ?_ ?_
  · exact List.Pairwise.filter _ List.nodup_range
  · intro x hx y hy he
    have h1:=(f0 x hx).2.2.1;have h2:=(f0 y hy).2.2.1;rw [he] at h1
    omega) (by
  intro x hx;obtain ⟨i,hi,rfl⟩:=acK.1 hx
  have:=f0 i hi
  omega) (by
  rw [aew]
  have:=ok.hl
  omega) w hw
 obtain ⟨i,hi,e⟩:=acK.1 full;obtain ⟨c1,c2,c3,c4⟩:=f0 i hi;obtain ⟨d1,d2⟩:=yW.1 hi;rw [e] at c3 c4;have hn:(Ev.n a.bv[w]!)=i:=by show ((Ev.ix a.bv[w]!)).toNat=i;omega
 rw [hn];refine ⟨by omega,by omega,d2,c4.symm,by omega⟩
noncomputable def OU (x y:Ev):Int:=if cE (x.1,x.2.1)/\cE (y.1,y.2.1) then FW x y else jq x.2.2.1 y.2.2.1
theorem As {x y:Ev} (hx:oM (x.1,x.2.1)) (hy:oM (y.1,y.2.1)):cA x y=ajD (OU x y):=by
 unfold cA OU FW;rw [Vo hx hy]
 by_cases h:cE (x.1,x.2.1)/\cE (y.1,y.2.1)
 · rw [pp h,pp h]
   simp only [ar,jN,yS]
 rw [rc h,rc h]
 simp only [ar,jN,yS];simp
def F3 (a:aM) (i:Nat):Prop:=(a.af.be[i]! =ajE->0<=a.aj[i]!/\a.aj[i]!<ajC a.bv/\(Ev.ix a.bv[(a.aj[i]!).toNat]!)=i/\(a.bv[(a.aj[i]!).toNat]!).2.2.2.2=a.af.aB[i]!)/\(a.af.be[i]! =al2->a.aj[i]! = -1)
def G8 (H:List Ev) (k:Nat):Prop:=cE ((H[k]!).1,(H[k]!).2.1)/\0<=(H[k]!).2.2.1/\(H[k]!).2.2.1<=1000000/\(∀j,j<k->(H[j]!).2.2.1≠(H[k]!).2.2.1)/\(0<k-> ¬OU H[k]! H[(k-1) / 2]!<0)
theorem eK.of {a:aM} (fit:x9 a) (so:eM a.af) (wl:(ajC a.aj)=ajC a.af.aB) (hl:(ajC a.bv)+ajC a.af.bi=ajC a.af.aB) (wh: ∀i,i<ajC a.af.aB->F3 a i) (hp: ∀k,k<ajC a.bv->G8 a.bv k):eK a:=by
 have ev: ∀w,w<ajC a.bv->o9 a.bv[w]!:=fun w hw=>⟨(hp w hw).1,fit.OT w hw,(hp w hw).2.1,(hp w hw).2.2.1⟩
 refine ⟨so,wl,hl,fun i hi=>(wh i hi).1,fun i hi=>(wh i hi).2,ev,fun v w hv hw=>(hp w hw).2.2.2.1 v hv,fun k k0 hk=>?_⟩
 have:=(hp k hk).2.2.2.2 k0
 unfold OU at this;rw [pp ⟨(hp k hk).1,(hp ((k-1) / 2) (by omega)).1⟩,Bt] at this
 exact this
theorem eK.to {a:aM} (ok:eK a):(∀i,i<ajC a.af.aB->F3 a i)/\(∀k,k<ajC a.bv->G8 a.bv k):=by
 refine ⟨fun i hi=>⟨ok.fwd i hi,ok.un i hi⟩,fun k hk=>?_⟩
 have e:=ok.ev k hk;refine ⟨e.1,e.2.2.1,e.2.2.2,fun j hj=>ok.nd j k hj hk,fun k0=>?_⟩
 unfold OU;rw [pp ⟨e.1,(ok.ev ((k-1) / 2) (by omega)).1⟩,Bt]
 exact ok.ord k k0 hk
theorem HZ (H:List Ev) (k:Nat) (n:Int):nU [n] ((H.take k).map fun x=>[x.2.2.1])=ajE:=by
 unfold nU;rw [List.all_eq_true];intro x hx;obtain ⟨y,hy,rfl⟩:=acK.1 hx;rfl
theorem H3 (H:List Ev) (k:Nat) (n:Int):DA ((H.take k).map fun x=>[x.2.2.1]) [n]=al7 (∃j,j<k/\j<ajC H/\(H[j]!).2.2.1=n):=by
 unfold DA;rw [Bool.eq_iff_iff,List.any_eq_true,decide_eq_true_iff];constructor
 · rintro ⟨x,hx,he⟩
   obtain ⟨y,hy,rfl⟩:=acK.1 hx;obtain ⟨j,h1,h2,rfl⟩:=cf.1 hy
   have:[n]=[(H[j]!).2.2.1]:=by simpa using he
   exact ⟨j,h1,h2,by injection this with h;exact h.symm⟩
 rintro ⟨j,h1,h2,h3⟩
 refine ⟨[(H[j]!).2.2.1],acK.2 ⟨H[j]!,cf.2 ⟨j,h1,h2,rfl⟩,rfl⟩,?_⟩;rw [h3];simp
theorem JN (H:List Ev) (u fr W:List Int) (us:List Bool) (hl:(ajC H)<=1000000) (ya: ∀w,w<ajC H->oM ((H[w]!).1,(H[w]!).2.1)):
 ((∀k,k<ajC H->G8 H k)->ax iJ (H,((ajC H):Int),0,u,us,fr,H,W,[])=ajD (.done 0))/\(¬(∀k,k<ajC H->G8 H k)->ax iJ (H,((ajC H):Int),0,u,us,fr,H,W,[])=ajD (.done 8)):=by
 have key:=dh (body:=iJ) (fun k=>(H,((ajC H):Int),(k:Int),u,us,fr,H,W,(H.take k).map fun x=>[x.2.2.1])) (ajC H) (fun k=> ¬G8 H k) (r:= .done 8) (e:= .done 0) (fun k hk=>by
  have e1:al7 ((k:Int)<((ajC H):Int))=ajE:=aF (by omega)
  have ins: ∀n:Int,¬(∃j,j<k/\j<ajC H/\(H[j]!).2.2.1=n)->K4 ((H.take k).map fun x=>[x.2.2.1]) [n]=ajD (((H.take k).map fun x=>[x.2.2.1])++[[n]]):=by
   intro n hn;unfold K4 NP;rw [HZ,H3,aC hn];rfl
  have has: ∀n:Int,K3 ((H.take k).map fun x=>[x.2.2.1]) [n]=ajD (al7 (∃j,j<k/\j<ajC H/\(H[j]!).2.2.1=n)):=by
   intro n;unfold K3;rw [HZ,H3];rfl
  have nx:(H.take (k+1)).map (fun x=>[x.2.2.1])=((H.take k).map fun x=>[x.2.2.1])++[[(H[k]!).2.2.1]]:=by
   rw [ew hk,List.map_append];rfl
  unfold iJ;simp only [e1,lw,au H k hk,ar,fI (ya k hk),aT (show k<1000000000 by omega),has,nx]
  unfold G8
  by_cases b1:cE ((H[k]!).1,(H[k]!).2.1)
  case neg=>
   rw [rc b1];exact ⟨fun _=>rfl,fun h=>absurd (v6.1 h).1 b1⟩
  rw [pp b1]
  by_cases b2:(H[k]!).2.2.1<0
  · rw [aF b2]
    exact ⟨fun _=>rfl,fun h=>absurd (v6.1 h).2.1 (by omega)⟩
  by_cases b3:1000000<(H[k]!).2.2.1
  · rw [aC b2,aF b3]
    exact ⟨fun _=>rfl,fun h=>absurd (v6.1 h).2.2.1 (by omega)⟩
  rw [aC b2,aC b3]
  by_cases b4: ∃j,j<k/\j<ajC H/\(H[j]!).2.2.1=(H[k]!).2.2.1
  · rw [aF b4]
    refine ⟨fun _=>rfl,fun h=>?_⟩
    obtain ⟨j,j1,j2,j3⟩:=b4;exact absurd j3 ((v6.1 h).2.2.2.1 j j1)
  rw [aC b4,ins _ b4];have b4': ∀j,j<k->(H[j]!).2.2.1≠(H[k]!).2.2.1:=fun j hj he=>b4 ⟨j,hj,by omega,he⟩
  simp only [show ((0:Int) !=0)=al2 from rfl,ol,ar]
  by_cases b5:0<k
  · obtain ⟨m,rfl⟩: ∃m,k=m+1:=⟨k-1,by omega⟩
    have f1:al7 ((0:Int)<((m+1:Nat):Int))=ajE:=aF (by omega)
    simp only [f1,lw,qM (show m<1000000000 by omega),au H (m / 2) (by omega),ar,As (ya (m+1) hk) (ya (m / 2) (by omega)),show (m+1-1) / 2=m / 2 by omega]
    by_cases b6:OU H[m+1]! H[m / 2]!<0
    · rw [aF b6]
      exact ⟨fun _=>rfl,fun h=>absurd b6 ((v6.1 h).2.2.2.2 (by omega))⟩
    rw [aC b6]
    exact ⟨fun h=>absurd ⟨b1,by omega,by omega,b4',fun _=>b6⟩ h,fun _=>rfl⟩
  · have f1:al7 ((0:Int)<(k:Int))=al2:=aC (by omega)
    rw [f1];exact ⟨fun h=>absurd ⟨b1,by omega,by omega,b4',fun h=>absurd h b5⟩ h,fun _=>rfl⟩) (by
  unfold iJ
  have:al7 (((ajC H):Int)<((ajC H):Int))=al2:=aC (by omega)
  simp only [this,ol])
 constructor
 · intro h
   exact key.2 fun i hi=>v6.2 (h i hi)
 intro h
 obtain ⟨i,h⟩:=F0s.1 h;obtain ⟨hi,hx⟩:=aet.1 h;exact key.1 ⟨i,hi,hx⟩
end Go.Proofs.YtbgoiokedpjgbaaGreat
