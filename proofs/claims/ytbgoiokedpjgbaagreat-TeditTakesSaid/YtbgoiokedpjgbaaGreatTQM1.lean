/- Plain laws (1). -/
import Derived.Test.YtbgoiokedpjgbaaGreatTVm3
import Derived.Test.YtbgoiokedpjgbaaGreatTVm1
import Derived.Test.YtbgoiokedpjgbaaGreatTQS2
open List renaming length_set->bm,replicate->bo,length_replicate->ce,set_set->cf,mem_map->cj,mem_of_mem_take->ck,length_take->cm,nodup_cons->c6,length_map->c7,mem_singleton->dh,getElem?_eq_getElem->dp,mem_append->dw,set_comm->d8,length_cons->ef,take_length->eg,mem_filter->ek,mem_cons->fa
open Classical renaming not_not->bn,not_forall->bw,byContradiction->cb,not_imp->cy
open Option.some renaming injEq->bq
open Nat renaming gcd->bu,gcd_comm->cw,gcd_dvd_right->dm,gcd_pos_of_pos_right->dt,le_refl->dy,mul_div_cancel'->d7,gcd_zero_right->eb,gcd_dvd_left->ed,strongRecOn->eh,div_le_self->ei,le_trans->ff
open Bool renaming not_false->bv,not_true->bz,not_eq_true->dv,or_eq_false_iff->d6,false_or->d9,false_eq_true->ec
open Int renaming mul_le_mul_of_nonneg_right->cd,mul_neg_of_neg_of_pos->cp,ofNat->cq,eq_ofNat_of_zero_le->cu,neg_mul->cz,mul_comm->db,mul_lt_mul_of_pos_right->dc,fdiv_eq_ediv_of_nonneg->dd,mul_le_mul->de,tdiv_eq_ediv_of_nonneg->df,lt_of_mul_lt_mul_right->di,lt_trichotomy->dj,mul_nonneg->dz,tdiv->d5,natCast_mul->ej,ofNat_tmod->eu,ofNat_tdiv->ew,mul_assoc->ez,toNat->fb
open Prod.mk renaming injEq->ci
namespace Go.Vm
instance lpN:LP:=⟨none⟩
section
variable {σ ρ : Type}
theorem bF {body:σ->Option (bR σ ρ)} {x:σ} {r:ρ}:aG body x=some r↔ ∃n,vI body n x=some r:=LU
theorem bA {body:σ->Option (bR σ ρ)} {x y:σ} (h:body x=some (.next y)):aG body x=aG body y:=by
 apply Option.ext;intro r;rw [bF,bF];constructor
 · rintro ⟨n,hn⟩
   cases n with
   |zero=>cases hn
   |succ n=>simp only [vI,h] at hn;exact ⟨n,hn⟩
 rintro ⟨n,hn⟩
 exact ⟨n+1,by simp only [vI,h];exact hn⟩
theorem aL {body:σ->Option (bR σ ρ)} {x:σ} {r:ρ} (h:body x=some (.done r)):aG body x=some r:=
 bF.2 ⟨1,by simp only [vI,h]⟩
end
end Go.Vm
namespace Go.Proofs.YtbgoiokedpjgbaaGreat
open Go.Vm
structure G0 where
 be:aR
 aj:List Int
noncomputable def sR (s:((List Int)×Int×Int)):Option (bR ((List Int)×Int×Int) Int):=
 bif decide (s.2.2<(cq s.1.length)) then
  (aN s.1 s.2.2).bind fun n0=>
  bif n0==s.2.1 then
   some (.done s.2.2)
  else
   some (.next (s.1,s.2.1,aA .i64 (s.2.2+1)))
 else
  some (.done (-1))
noncomputable def X3 (p0:List Int) (p1:Int):Option Int:=
 aG sR (p0,p1,0)
structure aYd where
 bi:Int
 bj:List (Int×Int×Int)
structure K5 where
 be:aR
 bk:aYd
noncomputable def G1 (p0:Int×Int×Int) (p1:List (Int×Int)):Option Bool:=
 (eO p1 p0.2).bind fun b0=>
 some (!b0)
noncomputable def bQ (s:((List (Int×Int×Int))×(List (Int×Int))×Int×Int)):Option (bR ((List (Int×Int×Int))×(List (Int×Int))×Int×Int) Int):=
 bif decide (s.2.2.2<s.2.2.1) then
  (aN s.1 s.2.2.2).bind fun a0=>
  (G1 a0 s.2.1).bind fun b1=>
  bif b1 then
   some (.done s.2.2.2)
  else
   some (.next (s.1,s.2.1,s.2.2.1,aA .i64 (s.2.2.2+1)))
 else
  some (.done (-1))
noncomputable def jE (p0:List (Int×Int×Int)) (p1:(List (Int×Int))):Option Int:=
 aG bQ (p0,p1,cq p0.length,0)
noncomputable def hU (p0:List (Int×Int×Int)) (p1:(List (Int×Int))):Option Bool:=
 (jE p0 p1).bind fun n0=>
 some (decide (0<=n0))
noncomputable def E0 (p0:aR) (p1:List (Int×Int)):Option Bool:=
 bif (cq p1.length)==(cq p0.ax.aq.length) then
  (hU p0.ax.aq p1).bind fun b0=>
  some (!b0)
 else
  some false
abbrev C2 (n:Int):Prop:= -9223372036854775808<=n/\n<9223372036854775808
abbrev U64 (n:Int):Prop:=0<=n/\n<18446744073709551616
theorem wi (n:Int):aA .i64 n=(n+9223372036854775808)%18446744073709551616-9223372036854775808:=by
 rw [xQ];simp only [IntKind.wrap,IntKind.bits,IntKind.signed,Bool.true_and];have e1:(2:Int)^64=18446744073709551616:=by decide
 have e2:(2:Int)^(64-1)=9223372036854775808:=by decide
 simp only [e1,e2,decide_eq_true_eq];split<;>omega
theorem wu (n:Int):aA .u64 n=n%18446744073709551616:=by
 rw [xQ];simp only [IntKind.wrap,IntKind.bits,IntKind.signed,Bool.false_and];have e1:(2:Int)^64=18446744073709551616:=by decide
 simp only [e1];simp
theorem mD {n:Int} (h:C2 n):aA .i64 n=n:=by rw [wi];omega
theorem cP {a b:Int} (h:a≠b):(a !=b)=true:=by simpa using h
theorem bT {a b:Int} (h:a=b):(a !=b)=false:=by simpa using h
theorem eI {a b:Int} (h:a=b):(a==b)=true:=by simpa using h
theorem eB {a b:Int} (h:a≠b):(a==b)=false:=by simpa using h
theorem aCg (a b:Int):(a==b)=decide (a=b):=by
 by_cases h:a=b
 · rw [eI h,decide_eq_true h]
 rw [eB h,decide_eq_false h]
theorem lt_or_ge (a b:Int):a<b\/b<=a:=by omega
theorem aTP (a:Int):rL .u64 a 32=a / 4294967296:=by
 unfold rL;rw [show (min (32:Int).toNat (IntKind.bits .u64))=32 from by decide,show (2:Int)^32=4294967296 from by decide]
 exact dd _ (by decide)
theorem aAD {a:Int} (h:U64 a):HL .u64 a 4294967295=a%4294967296:=by
 obtain ⟨n,rfl⟩:=cu h.1;unfold HL;have e:(BitVec.ofInt (IntKind.bits .u64) (n:Int)&&&BitVec.ofInt (IntKind.bits .u64) 4294967295).toNat=n%4294967296:=by
  rw [BitVec.toNat_and];have e1:(BitVec.ofInt (IntKind.bits .u64) (n:Int)).toNat=n:=by
   rw [BitVec.toNat_ofInt]
   have:((2^(IntKind.bits .u64):Nat):Int)=18446744073709551616:=by decide
   rw [this];omega
  have e2:(BitVec.ofInt (IntKind.bits .u64) (4294967295:Int)).toNat=2^32-1:=by decide
  rw [e1,e2,Nat.and_two_pow_sub_one_eq_mod]
 rw [e]
 have:=wu ((n%4294967296:Nat):Int)
 rw [xQ] at this;rw [this];omega
theorem aMX {a b:Nat} (ha:a<1000000000) (hb:b<1000000000):aA .i64 (rL .u64 (aA .u64 (aA .i64 ((a:Int)+(b:Int)))) 1)=(((a+b) / 2:Nat):Int):=by
 unfold rL;rw [show (min (1:Int).toNat (IntKind.bits .u64))=1 from by decide,show (2:Int)^1=2 from by decide,dd _ (by decide),wi (_+_),wu,wi]
 omega
section
variable {σ ρ : Type} {body : σ -> Option (bR σ ρ)}
theorem cB (st:Nat->σ) (n:Nat) (h: ∀i,i<n->body (st i)=some (.next (st (i+1)))):aG body (st 0)=aG body (st n):=by
 induction n with
 |zero=>rfl
 |succ n ih=>
  rw [ih fun i hi=>h i (by omega)]
  exact bA (h n (by omega))
theorem dM (st:Nat->σ) (n:Nat) (c:Nat->Prop) {r e:ρ} (h: ∀i,i<n->(c i->body (st i)=some (.done r))/\(¬c i->body (st i)=some (.next (st (i+1)))))
 (hend:body (st n)=some (.done e)):((∃i,i<n/\c i)->aG body (st 0)=some r)/\((∀i,i<n-> ¬c i)->aG body (st 0)=some e):=by
 constructor
 · rintro ⟨i,hi,hc⟩
   have key: ∀k,k<=n->(∃i,i<n/\n-k<=i/\c i)->aG body (st (n-k))=some r:=by
    intro k
    induction k with
    |zero=>rintro _ ⟨i,h1,h2,_⟩;omega
    |succ k ih=>
     rintro hk ⟨i,h1,h2,h3⟩
     by_cases hc:c (n- (k+1))
     · exact aL ((h _ (by omega)).1 hc)
     rw [bA ((h _ (by omega)).2 hc),show n- (k+1)+1=n-k by omega]
     refine ih (by omega) ⟨i,h1,?_,h3⟩
     by_cases he:i=n- (k+1)
     · subst he;exact absurd h3 hc
     omega
   have:=key n (dy n) ⟨i,hi,by omega,hc⟩
   rwa [Nat.sub_self] at this
 intro hn
 rw [cB st n fun i hi=>(h i hi).2 (hn i hi)]
 exact aL hend
theorem E2 {c:Nat->Prop}: ∀{n:Nat},(∃i,i<n/\c i)-> ∃k,k<n/\c k/\ ∀j,j<k-> ¬c j
 |0,h=>by obtain ⟨i,hi,_⟩:=h;omega
 |n+1,h=>by
  by_cases hx: ∃i,i<n/\c i
  · obtain ⟨k,h1,h2,h3⟩:=E2 hx
    exact ⟨k,by omega,h2,h3⟩
  obtain ⟨i,hi,hc⟩:=h
  refine ⟨i,hi,hc,fun j hj hcj=>hx ⟨j,by omega,hcj⟩⟩
theorem jK (st:Nat->σ) (n:Nat) (c:Nat->Prop) (r:Nat->ρ) {e:ρ} (h: ∀i,i<n->(c i->body (st i)=some (.done (r i)))/\(¬c i->body (st i)=some (.next (st (i+1)))))
 (hend:body (st n)=some (.done e)):(∀k,k<n->c k->(∀j,j<k-> ¬c j)->aG body (st 0)=some (r k))/\((∀i,i<n-> ¬c i)->aG body (st 0)=some e):=by
 constructor
 · intro k hk hc hj
   rw [cB st k fun i hi=>(h i (by omega)).2 (hj i hi)]
   exact aL ((h k hk).1 hc)
 intro hn
 rw [cB st n fun i hi=>(h i hi).2 (hn i hi)]
 exact aL hend
theorem K6 (st:Nat->Nat->σ) (n m:Nat) (c:Nat->Prop)
 (h: ∀lo hi,lo<hi->hi<=n->(c ((lo+hi) / 2)->body (st lo hi)=some (.next (st ((lo+hi) / 2+1) hi)))/\(¬c ((lo+hi) / 2)->body (st lo hi)=some (.next (st lo ((lo+hi) / 2)))))
 (h1: ∀i,i<m->c i) (h2: ∀i,m<=i->i<n-> ¬c i): ∀d lo hi,hi-lo<=d->lo<=m->m<=hi->hi<=n->aG body (st lo hi)=aG body (st m m)
 |0,lo,hi,hd,a,b,_=>by
  have e1:lo=m:=by omega
  have e2:hi=m:=by omega
  rw [e1,e2]
 |d+1,lo,hi,hd,a,b,e=>by
  by_cases hl:lo<hi
  · by_cases hc:c ((lo+hi) / 2)
    · rw [bA ((h lo hi hl e).1 hc)]
      refine K6 st n m c h h1 h2 d _ _ (by omega) ?_ b e
      refine cb fun hx=>?_
      exact h2 ((lo+hi) / 2) (by omega) (by omega) hc
    rw [bA ((h lo hi hl e).2 hc)]
    refine K6 st n m c h h1 h2 d _ _ (by omega) a ?_ (by omega)
    refine cb fun hx=>?_
    exact hc (h1 ((lo+hi) / 2) (by omega))
  have e1:lo=m:=by omega
  have e2:hi=m:=by omega
  rw [e1,e2]
end
section
variable {α : Type} [Inhabited α]
theorem aE (l:List α) (n:Nat) (h:n<l.length):aN l (n:Int)=some l[n]!:=by
 show l[n]? =some l[n]!;rw [dp h,getElem!_pos l n h]
theorem eA {l:List α} {i:Int} (h0:0<=i) (h:i<l.length):aN l i=some l[i.toNat]!:=by
 obtain ⟨n,rfl⟩:=cu h0;exact aE l n (by omega)
theorem yP {β:Type} (l:List β) (n:Nat) (a:β):cL l (n:Int) a=l.set n a:=rfl
theorem aZ (l:List α) (n m:Nat) (a:α):(l.set n a)[m]! =if m=n/\n<l.length then a else l[m]!:=by
 by_cases hm:m<l.length
 · rw [getElem!_pos (l.set n a) m (by simpa using hm),getElem!_pos l m hm,List.getElem_set]
   split
   · rw [if_pos (by omega)]
   rw [if_neg (by omega)]
 rw [getElem!_neg (l.set n a) m (by simpa using hm),getElem!_neg l m hm]
 split
 · omega
 rfl
theorem aY {l:List α} {x:α}:x∈l↔ ∃i,i<l.length/\l[i]! =x:=by
 rw [List.mem_iff_getElem];constructor
 · rintro ⟨i,h,rfl⟩;exact ⟨i,h,getElem!_pos l i h⟩
 rintro ⟨i,h,rfl⟩;exact ⟨i,h,(getElem!_pos l i h).symm⟩
theorem bI {l:List α} {i:Nat} (h:i<l.length):l[i]!∈l:=aY.2 ⟨i,h,rfl⟩
theorem eX {l m:List α} {i:Nat} (h:i<l.length):(l++m)[i]! =l[i]!:=by
 rw [getElem!_pos (l++m) i (by simp;omega),getElem!_pos l i h,List.getElem_append_left h]
theorem gN {l m:List α} {i:Nat} (h:l.length<=i):(l++m)[i]! =m[i-l.length]!:=by
 by_cases hi:i<l.length+m.length
 · rw [getElem!_pos (l++m) i (by simp;omega),getElem!_pos m (i-l.length) (by omega),List.getElem_append_right h]
 rw [getElem!_neg (l++m) i (by simp;omega),getElem!_neg m (i-l.length) (by omega)]
theorem kN {l:List α} {n i:Nat} (h:i<n):(l.take n)[i]! =l[i]!:=by
 by_cases hi:i<l.length
 · rw [getElem!_pos (l.take n) i (by simp;omega),getElem!_pos l i hi,List.getElem_take]
 rw [getElem!_neg (l.take n) i (by simp;omega),getElem!_neg l i hi]
theorem pD {l:List α} {n i:Nat}:(l.drop n)[i]! =l[n+i]!:=by
 by_cases hi:n+i<l.length
 · rw [getElem!_pos (l.drop n) i (by simp;omega),getElem!_pos l (n+i) hi,List.getElem_drop]
 rw [getElem!_neg (l.drop n) i (by simp;omega),getElem!_neg l (n+i) hi]
theorem wB {l m:List α} (hl:l.length=m.length) (h: ∀i,i<l.length->l[i]! =m[i]!):l=m:=by
 apply List.ext_getElem hl;intro i h1 h2
 have:=h i h1
 rwa [getElem!_pos l i h1,getElem!_pos m i h2] at this
theorem aFA {l:List α} {i:Nat} (h:i<l.length):l=l.take i++l[i]!::l.drop (i+1):=by
 rw [getElem!_pos l i h,List.getElem_cons_drop,List.take_append_drop]
end
theorem aV {α:Type} {l:List α} (h:l.length<=1048576):bW l=some l:=by unfold bW;rw [if_pos h]
theorem dB {α:Type} {l m:List α} (h:l.length+m.length<=1048576):bP l m=some (l++m):=by unfold bP;rw [if_pos h]
@[simp] theorem aB {α β:Type} (a:α) (f:α->Option β):(some a).bind f=f a:=rfl
end Go.Proofs.YtbgoiokedpjgbaaGreat
namespace Go.Proofs.YtbgoiokedpjgbaaGreat
open Go.Vm Classical
theorem lC {n:Int} (h:C2 n):iU n=some (n.natAbs:Int):=by
 unfold iU;simp only [wi,wu]
 by_cases hn:n<0
 · simp only [hn,decide_true,cond_true,bq];omega
 simp only [hn,decide_false,cond_false,bq];omega
theorem sS {n:Int} (h:C2 n):nJ n=some (n.natAbs:Int):=by
 unfold nJ;simp only [wu]
 by_cases hn:n<0
 · simp only [hn,decide_true,cond_true,bq];omega
 simp only [hn,decide_false,cond_false,bq];omega
theorem tU (m n:Nat):sD m n=some (bu m n:Int):=by
 unfold sD
 induction n using eh generalizing m with
 |ind n ih=>
  by_cases h0:n=0
  · subst h0
    rw [eb];exact aL (by simp [pY])
  have e:pY ((m:Int),(n:Int))=some (.next ((n:Int),((m%n:Nat):Int))):=by
   have h1:((n:Int) !=0)=true:=by simp;omega
   have h2:((n:Int)==0)=false:=by simp;omega
   simp only [pY,h1,h2,cond_true,cond_false,eu]
  rw [bA e,ih (m%n) (Nat.mod_lt _ (by omega)) n,cw m n,Nat.gcd_rec n m,cw]
theorem G2 (m n:Nat):BN m n=some (bu m n:Int):=by
 unfold BN
 induction n using eh generalizing m with
 |ind n ih=>
  by_cases h0:n=0
  · subst h0
    rw [eb];exact aL (by simp [wY])
  have e:wY ((m:Int),(n:Int))=some (.next ((n:Int),((m%n:Nat):Int))):=by
   have h1:decide (0<(n:Int))=true:=by simp;omega
   have h2:((n:Int)==0)=false:=by simp;omega
   simp only [wY,h1,h2,cond_true,cond_false,eu]
  rw [bA e,ih (m%n) (Nat.mod_lt _ (by omega)) n,cw m n,Nat.gcd_rec n m,cw]
def cQ (r:Int×Int):Prop:=1<=r.2/\r.1≠ -9223372036854775808/\bu r.2.natAbs r.1.natAbs=1
abbrev tB (r:Int×Int):Prop:=C2 r.1/\C2 r.2
theorem gO {r:Int×Int} (h:tB r):iE r=some (if cQ r then 0 else 8):=by
 obtain ⟨a,b⟩:=r;obtain ⟨ha,hb⟩:=h;unfold iE cQ;dsimp only at ha hb ⊢
 by_cases h1:b<1
 · rw [if_neg (by omega)];simp [h1]
 by_cases h2:a= -9223372036854775808
 · rw [if_neg (by omega)];simp [h1,h2]
 have e2:(a== -9223372036854775808)=false:=by simpa using h2
 have e3:aA .u64 b=(b.natAbs:Int):=by rw [wu];omega
 simp only [h1,decide_false,cond_false,e2,sS ha,aB,e3,G2];have hp:0<bu b.natAbs a.natAbs:=Nat.gcd_pos_of_pos_left _ (by omega)
 by_cases h3:bu b.natAbs a.natAbs=1
 · rw [if_pos ⟨by omega,h2,h3⟩,h3];rfl
 rw [if_neg (fun h=>h3 h.2.2)]
 have:decide (1<(bu b.natAbs a.natAbs:Int))=true:=by simp;omega
 rw [this];rfl
theorem E3 {r:Int×Int} (h:tB r):vS r=some (if cQ r then 0 else 8):=by
 obtain ⟨a,b⟩:=r;obtain ⟨ha,hb⟩:=h;unfold vS cQ;dsimp only at ha hb ⊢
 by_cases h1:b<1
 · rw [if_neg (by omega)];simp [h1]
 by_cases h2:a= -9223372036854775808
 · rw [if_neg (by omega)];simp [h1,h2]
 have e2:(a== -9223372036854775808)=false:=by simpa using h2
 have e3:aA .u64 b=(b.natAbs:Int):=by rw [wu];omega
 simp only [h1,decide_false,cond_false,e2,lC ha,aB,e3,tU];rw [cw]
 by_cases h3:bu b.natAbs a.natAbs=1
 · rw [if_pos ⟨by omega,h2,h3⟩,h3];rfl
 rw [if_neg (fun h=>h3 h.2.2)]
 have:((bu b.natAbs a.natAbs:Int) !=1)=true:=by simp;omega
 rw [this];rfl
theorem aFB (x y:Int) (hx:U64 x) (hy:U64 y): ∃p q r s:Int,0<=p/\p<=18446744065119617025/\0<=q/\q<=18446744065119617025/\0<=r/\r<=18446744065119617025/\0<=s/\s<=18446744065119617025/\
 x / 4294967296*(y / 4294967296)=p/\x / 4294967296*(y%4294967296)=q/\x%4294967296*(y / 4294967296)=r/\x%4294967296*(y%4294967296)=s/\
 x*y=p*18446744073709551616+(q+r)*4294967296+s:=by
 have hx1:0<=x / 4294967296/\x / 4294967296<=4294967295:=by omega
 have hx0:0<=x%4294967296/\x%4294967296<=4294967295:=by omega
 have hy1:0<=y / 4294967296/\y / 4294967296<=4294967295:=by omega
 have hy0:0<=y%4294967296/\y%4294967296<=4294967295:=by omega
 have ex:x=x / 4294967296*4294967296+x%4294967296:=by omega
 have ey:y=y / 4294967296*4294967296+y%4294967296:=by omega
 generalize x / 4294967296=a at*;generalize x%4294967296=b at*;generalize y / 4294967296=c at*;generalize y%4294967296=d at*;have bd: ∀{u v:Int},0<=u/\u<=4294967295->0<=v/\v<=4294967295->0<=u*v/\u*v<=18446744065119617025:=by
  intro u v hu hv;refine ⟨dz hu.1 hv.1,?_⟩
  calc u*v<=4294967295*4294967295:=de hu.2 hv.2 hv.1 (by decide)
   _=_:=by decide
 refine ⟨a*c,a*d,b*c,b*d,(bd hx1 hy1).1,(bd hx1 hy1).2,(bd hx1 hy0).1,(bd hx1 hy0).2,(bd hx0 hy1).1,(bd hx0 hy1).2,(bd hx0 hy0).1,(bd hx0 hy0).2,rfl,rfl,rfl,rfl,?_⟩;rw [ex,ey]
 grind
theorem JM {x y:Int} (hx:U64 x) (hy:U64 y):gR x y=some (x*y / 18446744073709551616,x*y%18446744073709551616):=by
 unfold gR;obtain ⟨p,q,r,s,p0,p1,q0,q1,r0,r1,s0,s1,ep,eq,er,es,exy⟩:=aFB x y hx hy;have key: ∀z:Int,HL .u64 (z%18446744073709551616) 4294967295=z%18446744073709551616%4294967296:=fun z=>aAD (by constructor<;>omega)
 simp only [aTP,aAD hx,aAD hy,wu,key,ep,eq,er,es,exy,bq,ci,and_true];clear ep eq er es exy key hx hy;have e1:s%18446744073709551616=s:=by omega
 have e2:(q+s / 4294967296)%18446744073709551616=q+s / 4294967296:=by omega
 have ep:p%18446744073709551616=p:=by omega
 have eq:q%18446744073709551616=q:=by omega
 have er:r%18446744073709551616=r:=by omega
 rw [e1,ep,eq,er,e2];have e3:s=s / 4294967296*4294967296+s%4294967296:=by omega
 have e4:q+s / 4294967296=(q+s / 4294967296) / 4294967296*4294967296+(q+s / 4294967296)%4294967296:=by omega
 have b1:0<=s%4294967296/\s%4294967296<4294967296:=by omega
 have b2:0<=(q+s / 4294967296)%4294967296/\(q+s / 4294967296)%4294967296<4294967296:=by omega
 have b3:0<=(q+s / 4294967296) / 4294967296/\(q+s / 4294967296) / 4294967296<=4294967295:=by omega
 have b4:0<=s / 4294967296/\s / 4294967296<=4294967295:=by omega
 generalize (q+s / 4294967296) / 4294967296=t1 at*;generalize (q+s / 4294967296)%4294967296=t0 at*;generalize s / 4294967296=c1 at*;generalize s%4294967296=c0 at*;clear e1 e2;have e5:(t0+r)%18446744073709551616=t0+r:=by omega
 rw [e5];have e6:t0+r=(t0+r) / 4294967296*4294967296+(t0+r)%4294967296:=by omega
 have b5:0<=(t0+r)%4294967296/\(t0+r)%4294967296<4294967296:=by omega
 have b6:0<=(t0+r) / 4294967296/\(t0+r) / 4294967296<=4294967295:=by omega
 generalize (t0+r) / 4294967296=u1 at*;generalize (t0+r)%4294967296=u0 at*;omega
theorem aAE {x y:Int} (hx:U64 x) (hy:U64 y):uL x y=some (false,x*y / 18446744073709551616,x*y%18446744073709551616):=by
 unfold uL;obtain ⟨p,q,r,s,p0,p1,q0,q1,r0,r1,s0,s1,ep,eq,er,es,exy⟩:=aFB x y hx hy;have t1: ∀a:Int,0<=a->d5 a 4294967296=a / 4294967296:=fun a h=>df h
 have t2: ∀a:Int,0<=a->Int.tmod a 4294967296=a%4294967296:=fun a h=>Int.tmod_eq_emod_of_nonneg h
 simp only [wu];rw [t1 x hx.1,t1 y hy.1,t2 x hx.1,t2 y hy.1];have f1:x / 4294967296%18446744073709551616=x / 4294967296:=by omega
 have f2:y / 4294967296%18446744073709551616=y / 4294967296:=by omega
 simp only [f1,f2,ep,eq,er,es];have g: ∀a:Int,d5 (a%18446744073709551616) 4294967296=a%18446744073709551616 / 4294967296:=fun a=>t1 _ (by omega)
 have g2: ∀a:Int,Int.tmod (a%18446744073709551616) 4294967296=a%18446744073709551616%4294967296:=fun a=>t2 _ (by omega)
 simp only [g,g2,exy,bq,ci,true_and];constructor<;>omega
abbrev B64 (a:Bool×Int×Int):Prop:=U64 a.2.1/\U64 a.2.2
theorem F8 {n:Int} (h:C2 n):U64 (n.natAbs:Int):=by constructor<;>omega
theorem F9 {n:Int} (h:C2 n):(n.natAbs:Int)<=9223372036854775808:=by omega
theorem JN (a b:Int):((a.natAbs:Int)*(b.natAbs:Int))=((a*b).natAbs:Int):=by rw [Int.natAbs_mul];rfl
theorem yQ {a b:Int} (ha:C2 a) (hb:C2 b):((a*b).natAbs:Int)<=85070591730234615865843651857942052864:=by
 rw [<- JN]
 calc (a.natAbs:Int)*(b.natAbs:Int)<=9223372036854775808*9223372036854775808:=de (F9 ha) (F9 hb) (by omega) (by decide)
  _=_:=by decide
theorem C3 {a b:Int} (ha:C2 a) (hb:C2 b):
 lA a b=some (decide (a*b<0),((a*b).natAbs:Int) / 18446744073709551616,((a*b).natAbs:Int)%18446744073709551616):=by
 unfold lA;simp only [lC ha,lC hb,aB,aAE (F8 ha) (F8 hb),JN];have hs:(a*b<0)↔((a<0/\0<b)\/(0<a/\b<0)):=by
  constructor
  · intro h
    rcases dj a 0 with h1|h1|h1
    · rcases dj b 0 with h2|h2|h2
      · have:=Int.mul_pos_of_neg_of_neg h1 h2;omega
      · subst h2;simp at h
      exact .inl ⟨h1,h2⟩
    · subst h1;simp at h
    rcases dj b 0 with h2|h2|h2
    · exact .inr ⟨h1,h2⟩
    · subst h2;simp at h
    have:=Int.mul_pos h1 h2;omega
  rintro (⟨h1,h2⟩|⟨h1,h2⟩)
  · exact cp h1 h2
  exact Int.mul_neg_of_pos_of_neg h1 h2
 have hd:decide (a*b<0)=decide ((a<0/\0<b)\/(0<a/\b<0)):=by simp only [hs]
 rw [hd];clear hd hs;generalize ((a*b).natAbs:Int)=z
 by_cases h1:a<0
 · have h1': ¬0<a:=by omega
   have h1'':(a !=0)=true:=cP (by omega)
   by_cases h2:b<0
   · have h2': ¬0<b:=by omega
     simp [h1,h2,h1',h2']
   by_cases h3:b=0
   · simp [h1,h3,h1'']
   have h3':0<b:=by omega
   simp [h1,h2,h3',h1'',cP h3]
 by_cases h0:a=0
 · subst h0
   by_cases h2:b<0<;>simp [h2]
 have h1':0<a:=by omega
 by_cases h2:b<0
 · have h2':(b !=0)=true:=cP (by omega)
   simp [h1,h2,h1',cP h0,h2']
 simp [h1,h2,h1']
theorem X4 {a b:Int} (ha:C2 a) (hb:C2 b):
 vP a b=some (!(decide (a<0)==decide (b<0)),((a*b).natAbs:Int) / 18446744073709551616,((a*b).natAbs:Int)%18446744073709551616):=by
 unfold vP;simp only [sS ha,sS hb,aB,JM (F8 ha) (F8 hb),JN]
def lH (a b:Int):Int:=if a<b then -1 else if b<a then 1 else 0
theorem G3 (a b:Int):kT a b=some (lH a b):=by
 unfold kT pX lH
 by_cases h1:a<b<;>by_cases h2:b<a<;>simp [h1,h2]
theorem QX (a b:Int):jY a b=some (lH a b):=by
 unfold jY oV lH
 by_cases h1:a<b<;>by_cases h2:b<a<;>simp [h1,h2]
theorem mE (a b:Int):eW a b=some (lH a b):=by
 unfold eW uI lH
 by_cases h1:a<b<;>by_cases h2:b<a<;>simp [h1,h2]
theorem gP (a b:Int):(a<b/\lH a b= -1)\/(a=b/\lH a b=0)\/(b<a/\lH a b=1):=by
 unfold lH
 by_cases h1:a<b
 · exact .inl ⟨h1,by rw [if_pos h1]⟩
 by_cases h2:b<a
 · exact .inr (.inr ⟨h2,by rw [if_neg h1,if_pos h2]⟩)
 exact .inr (.inl ⟨by omega,by rw [if_neg h1,if_neg h2]⟩)
theorem US (a b:Bool×Int×Int) (ha:B64 a) (hb:B64 b):tP a b=some (lH (a.2.1*18446744073709551616+a.2.2) (b.2.1*18446744073709551616+b.2.2)):=by
 obtain ⟨s,ah,al⟩:=a;obtain ⟨t,bh,bl⟩:=b;obtain ⟨⟨a1,a2⟩,a3,a4⟩:=ha;obtain ⟨⟨b1,b2⟩,b3,b4⟩:=hb;dsimp only at*;unfold tP lH;dsimp only
 by_cases h1:ah=bh
 · subst h1
   by_cases h2:al=bl
   · subst h2;simp
   by_cases h3:al<bl
   · simp [cP h2,h3]
   rw [if_neg (by omega),if_pos (by omega)];simp [cP h2,h3]
 by_cases h3:ah<bh
 · rw [if_pos (by omega)];simp [cP h1,h3]
 rw [if_neg (by omega),if_pos (by omega)];simp [cP h1,h3]
theorem aAF (a b:Bool×Int×Int) (ha:B64 a) (hb:B64 b):uH a b=some (lH (a.2.1*18446744073709551616+a.2.2) (b.2.1*18446744073709551616+b.2.2)):=by
 obtain ⟨s,ah,al⟩:=a;obtain ⟨t,bh,bl⟩:=b;obtain ⟨⟨a1,a2⟩,a3,a4⟩:=ha;obtain ⟨⟨b1,b2⟩,b3,b4⟩:=hb;dsimp only at*;unfold uH;simp only [QX,aB];unfold lH
 by_cases h1:ah=bh
 · subst h1
   by_cases h3:al<bl
   · simp [h3]
   by_cases h2:bl<al
   · rw [if_neg (show¬(ah*18446744073709551616+al<ah*18446744073709551616+bl) by omega),if_pos (show ah*18446744073709551616+bl<ah*18446744073709551616+al by omega)];simp [h2,h3]
   have:al=bl:=by omega
   subst this;simp
 by_cases h3:ah<bh
 · rw [if_pos (show ah*18446744073709551616+al<bh*18446744073709551616+bl by omega)];simp [h3]
 rw [if_neg (show¬(ah*18446744073709551616+al<bh*18446744073709551616+bl) by omega),if_pos (show bh*18446744073709551616+bl<ah*18446744073709551616+al by omega)];simp [h3,show bh<ah by omega]
theorem AB (a:Bool) {n:Int} (h0:0<=n) (h:n<=85070591730234615865843651857942052864):B64 (a,n / 18446744073709551616,n%18446744073709551616):=by
 constructor<;>constructor<;>dsimp only<;>omega
theorem UT {n:Int} (h:(n.natAbs:Int)<=85070591730234615865843651857942052864):mY (decide (n<0),(n.natAbs:Int) / 18446744073709551616,(n.natAbs:Int)%18446744073709551616)=some (lH n 0):=by
 unfold mY lH;dsimp only
 by_cases h0:n=0
 · subst h0;simp
 by_cases h1:n<0
 · rw [if_pos h1]
   by_cases h2:(n.natAbs:Int) / 18446744073709551616=0
   · have h3: ¬((n.natAbs:Int)%18446744073709551616=0):=by omega
     simp [h1,h2,eB h3]
   simp [h1,eB h2]
 rw [if_neg h1,if_pos (by omega)]
 by_cases h2:(n.natAbs:Int) / 18446744073709551616=0
 · have h3: ¬((n.natAbs:Int)%18446744073709551616=0):=by omega
   simp [h1,h2,eB h3]
 simp [h1,eB h2]
def IB (a b:Int×Int):Int:=lH (a.1*b.2) (b.1*a.2)
theorem O5 {a b:Int×Int} (ha:tB a) (hb:tB b):uM a b=some (IB a b):=by
 unfold uM IB;have n1:=yQ ha.1 hb.2;have n2:=yQ hb.1 ha.2;simp only [C3 ha.1 hb.2,C3 hb.1 ha.2,aB,UT n1,UT n2];generalize a.1*b.2=x at*;generalize b.1*a.2=y at*;rw [US _ _ (AB _ (by omega) n1) (AB _ (by omega) n2),US _ _ (AB _ (by omega) n2) (AB _ (by omega) n1)]
 have ex:((x.natAbs:Int) / 18446744073709551616)*18446744073709551616+(x.natAbs:Int)%18446744073709551616=(x.natAbs:Int):=by omega
 have ey:((y.natAbs:Int) / 18446744073709551616)*18446744073709551616+(y.natAbs:Int)%18446744073709551616=(y.natAbs:Int):=by omega
 simp only [ex,ey,aB];rcases gP x 0 with ⟨h1,e1⟩|⟨h1,e1⟩|⟨h1,e1⟩<;>rcases gP y 0 with ⟨h2,e2⟩|⟨h2,e2⟩|⟨h2,e2⟩<;>rw [e1,e2]<;>simp<;>
  unfold lH<;>(repeat' split)<;>first|rfl|omega
theorem aMY {a b:Int×Int} (ha:tB a) (hb:tB b):CP a b=some (if cQ a/\cQ b then 0 else 8):=by
 unfold CP;simp only [gO ha,gO hb,aB]
 by_cases h1:cQ a<;>by_cases h2:cQ b<;>simp [h1,h2]
theorem aFC {a b:Int×Int} (ha:tB a) (hb:tB b):F0 a b=some (if cQ a/\cQ b then (IB a b,0) else (0,8)):=by
 unfold F0;rw [aMY ha hb]
 by_cases h:cQ a/\cQ b
 · rw [if_pos h,if_pos h]
   obtain ⟨⟨a1,a2,a3⟩,b1,b2,b3⟩:=h;have n1:=yQ ha.1 hb.2;have n2:=yQ hb.1 ha.2;simp only [aB,G3,X4 ha.1 hb.2,X4 hb.1 ha.2];rw [aAF _ _ (AB _ (by omega) n1) (AB _ (by omega) n2)]
   have ex:((a.1*b.2).natAbs:Int) / 18446744073709551616*18446744073709551616+((a.1*b.2).natAbs:Int)%18446744073709551616=((a.1*b.2).natAbs:Int):=by omega
   have ey:((b.1*a.2).natAbs:Int) / 18446744073709551616*18446744073709551616+((b.1*a.2).natAbs:Int)%18446744073709551616=((b.1*a.2).natAbs:Int):=by omega
   simp only [ex,ey,aB];unfold IB;have s1:(a.1<0↔a.1*b.2<0):=by
    constructor
    · intro h;exact cp h (by omega)
    intro h;rcases lt_or_ge a.1 0 with h1|h1
    · exact h1
    have:=dz h1 (show 0<=b.2 by omega);omega
   have s2:(b.1<0↔b.1*a.2<0):=by
    constructor
    · intro h;exact cp h (by omega)
    intro h;rcases lt_or_ge b.1 0 with h1|h1
    · exact h1
    have:=dz h1 (show 0<=a.2 by omega);omega
   generalize a.1*b.2=x at*;generalize b.1*a.2=y at*
   by_cases h1:a.1<0<;>by_cases h2:b.1<0
   · have h3:=s1.1 h1;have h4:=s2.1 h2
     have:aA .i64 (-lH (x.natAbs:Int) (y.natAbs:Int))=lH x y:=by
      rw [wi];unfold lH;(repeat' split)<;>omega
     simp [h1,h2,this]
   · have h3:=s1.1 h1;have h4: ¬y<0:=fun h=>h2 (s2.2 h)
     have:lH a.1 b.1=lH x y:=by unfold lH;(repeat' split)<;>omega
     simp [h1,h2,this]
   · have h3: ¬x<0:=fun h=>h1 (s1.2 h);have h4:=s2.1 h2
     have:lH a.1 b.1=lH x y:=by unfold lH;(repeat' split)<;>omega
     simp [h1,h2,this]
   have h3: ¬x<0:=fun h=>h1 (s1.2 h);have h4: ¬y<0:=fun h=>h2 (s2.2 h)
   have:lH (x.natAbs:Int) (y.natAbs:Int)=lH x y:=by unfold lH;(repeat' split)<;>omega
   simp [h1,h2,this]
 rw [if_neg h,if_neg h];rfl
abbrev Pt:=Int×Int×Int
def iV (p:Pt):Prop:=0<=p.1/\p.1<=65535/\ -1048576<=p.2.1/\p.2.1<=1048576/\ -1048576<=p.2.2/\p.2.2<=1048576
theorem DU (p:Pt):oU p=some (if iV p then 0 else 8):=by
 obtain ⟨i,a,b⟩:=p;unfold oU rW iV;dsimp only
 by_cases h1:i<0
 · rw [if_neg (by omega)];simp [h1]
 by_cases h2:65535<i
 · rw [if_neg (by omega)];simp [h1,h2]
 by_cases h3:a< -1048576
 · rw [if_neg (by omega)];simp [h1,h2,h3]
 by_cases h4:1048576<a
 · rw [if_neg (by omega)];simp [h1,h2,h3,h4]
 by_cases h5:b< -1048576
 · rw [if_neg (by omega)];simp [h1,h2,h3,h4,h5]
 by_cases h6:1048576<b
 · rw [if_neg (by omega)];simp [h1,h2,h3,h4,h5,h6]
 rw [if_pos (by omega)];simp [h1,h2,h3,h4,h5,h6]
theorem O6 (p:Pt):zR p=some (if iV p then 0 else 8):=by
 obtain ⟨i,a,b⟩:=p;unfold zR iV;dsimp only
 by_cases h1:i<0
 · rw [if_neg (by omega)];simp [h1]
 by_cases h2:65535<i
 · rw [if_neg (by omega)];simp [h1,h2]
 by_cases h3:a< -1048576
 · rw [if_neg (by omega)];simp [h1,h2,h3]
 by_cases h4:1048576<a
 · rw [if_neg (by omega)];simp [h1,h2,h3,h4]
 by_cases h5:b< -1048576
 · rw [if_neg (by omega)];simp [h1,h2,h3,h4,h5]
 by_cases h6:1048576<b
 · rw [if_neg (by omega)];simp [h1,h2,h3,h4,h5,h6]
 rw [if_pos (by omega)];simp [h1,h2,h3,h4,h5,h6]
theorem BP {x y:Int} (hx:C2 x) (hy:C2 y): -85070591730234615865843651857942052864<=x*y/\x*y<=85070591730234615865843651857942052864:=by
 have:=yQ hx hy;omega
theorem aNT {x y:Int} (hx:C2 x) (hy:C2 y):(x%18446744073709551616)*(y%18446744073709551616)=x*y+(if x<0 then y else 0)*18446744073709551616+(if y<0 then x else 0)*18446744073709551616+(if x<0/\y<0 then 340282366920938463463374607431768211456 else 0):=by
 by_cases h1:x<0<;>by_cases h2:y<0
 · have e1:x%18446744073709551616=x+18446744073709551616:=by omega
   have e2:y%18446744073709551616=y+18446744073709551616:=by omega
   rw [e1,e2,if_pos h1,if_pos h2,if_pos ⟨h1,h2⟩];grind
 · have e1:x%18446744073709551616=x+18446744073709551616:=by omega
   have e2:y%18446744073709551616=y:=by omega
   rw [e1,e2,if_pos h1,if_neg h2,if_neg (fun h=>h2 h.2)];grind
 · have e1:x%18446744073709551616=x:=by omega
   have e2:y%18446744073709551616=y+18446744073709551616:=by omega
   rw [e1,e2,if_neg h1,if_pos h2,if_neg (fun h=>h1 h.1)];grind
 have e1:x%18446744073709551616=x:=by omega
 have e2:y%18446744073709551616=y:=by omega
 rw [e1,e2,if_neg h1,if_neg h2,if_neg (fun h=>h1 h.1)];grind
theorem X5 {a b:Int} (ha:0<=a) (hb:0<=b):tJ a b 0=some ((a+b)%18446744073709551616,(a+b) / 18446744073709551616):=by
 unfold tJ;simp [ha,hb]
theorem aFD {a b c d u v:Int} (ha:C2 a) (hb:C2 b):pM (a,b,c,d,0,u,v,0,0)=some (.next (a,b,c,d,1,u,v,a*b / 18446744073709551616,a*b%18446744073709551616)):=by
 unfold pM;have hm:=JM (x:=aA .u64 a) (y:=aA .u64 b) (by rw [wu];constructor<;>omega) (by rw [wu];constructor<;>omega)
 have hb2:=BP ha hb;have hu:=aNT ha hb;simp only [hm,aB];simp only [wu,hu];generalize a*b=x at*
 by_cases h1:a<0<;>by_cases h2:b<0
 all_goals
  simp only [h1,h2,decide_true,decide_false,cond_true,cond_false,if_true,if_false,and_self,and_false,false_and];rw [X5 (by omega) (by omega)]
  simp only [wi,aB,show decide ((0:Int)<2)=true from rfl,cond_true,show ((0:Int)==0)=true from rfl,bq,bR.next.injEq,ci,true_and]
  refine ⟨by omega,?_,?_⟩<;>omega
theorem aFE {a b c d u v h l:Int} (hc:C2 c) (hd:C2 d) (hl:U64 l)
 (_hh: -9223372036854775808<=h/\h<9223372036854775808) (hs: -170141183460469231731687303715884105728<=h*18446744073709551616+l+c*d/\h*18446744073709551616+l+c*d<170141183460469231731687303715884105728):
 pM (a,b,c,d,1,u,v,h,l)=some (.next (a,b,c,d,2,u,v,(h*18446744073709551616+l+c*d) / 18446744073709551616,(h*18446744073709551616+l+c*d)%18446744073709551616)):=by
 unfold pM;have hm:=JM (x:=aA .u64 c) (y:=aA .u64 d) (by rw [wu];constructor<;>omega) (by rw [wu];constructor<;>omega)
 have hb2:=BP hc hd;have hu:=aNT hc hd;simp only [hm,aB];simp only [wu,hu];generalize c*d=x at*
 by_cases h1:c<0<;>by_cases h2:d<0
 all_goals
  simp only [h1,h2,decide_true,decide_false,cond_true,cond_false,if_true,if_false,and_self,and_false,false_and];rw [X5 (by omega) (by omega)]
  simp only [wi,aB,show decide ((1:Int)<2)=true from rfl,cond_true,cond_false,show ((1:Int)==0)=false from rfl,show ((1:Int)==1)=true from rfl,bq,bR.next.injEq,ci,true_and]
  refine ⟨by omega,?_,?_⟩<;>omega
theorem QY {a b c d:Int} (ha:C2 a) (hb:C2 b) (hc:C2 c) (hd:C2 d) (hs: -170141183460469231731687303715884105728<=a*b+c*d/\a*b+c*d<170141183460469231731687303715884105728):
 CR (a,b,c,d)=some ((a*b+c*d) / 18446744073709551616,(a*b+c*d)%18446744073709551616):=by
 unfold CR;dsimp only;have hb2:=BP ha hb;have e:a*b / 18446744073709551616*18446744073709551616+a*b%18446744073709551616+c*d=a*b+c*d:=by omega
 rw [bA (aFD ha hb),bA (aFE hc hd (by constructor<;>omega) (by constructor<;>omega) (by rw [e];exact hs)),e]
 exact aL rfl
def SC (p q:Pt) (t:Int×Int):Int:=(p.2.1-q.2.1)*t.2+(p.2.2-q.2.2)*t.1
def hY (p q:Pt) (t:Int×Int):Prop:=0<SC p q t\/(SC p q t=0/\(q.2.2<p.2.2\/(p.2.2=q.2.2/\p.1<q.1)))
def aAG (p q:Pt) (t:Int×Int):Int:=if SC p q t<0 then -1 else if 0<SC p q t then 1 else if p.2.2<q.2.2 then -1 else if q.2.2<p.2.2 then 1 else lH q.1 p.1
theorem O7 (p q:Pt) (t:Int×Int):0<aAG p q t↔hY p q t:=by
 unfold aAG hY
 by_cases h1:SC p q t<0
 · rw [if_pos h1];omega
 by_cases h2:0<SC p q t
 · rw [if_neg h1,if_pos h2];simp [h2]
 rw [if_neg h1,if_neg h2]
 by_cases h3:p.2.2<q.2.2
 · rw [if_pos h3];omega
 by_cases h4:q.2.2<p.2.2
 · rw [if_neg h3,if_pos h4];omega
 rw [if_neg h3,if_neg h4]
 rcases gP q.1 p.1 with ⟨h,e⟩|⟨h,e⟩|⟨h,e⟩<;>rw [e]<;>omega
theorem GA (a b:Int):xZ [a,b]=some (if a≠0 then a else b):=by
 unfold xZ
 by_cases h1:a=0
 · subst h1
   rw [bA (y:=(0,[0,b],2,1)) (by rfl)]
   by_cases h2:b=0
   · subst h2
     rw [bA (y:=(0,[0,0],2,2)) (by rfl)]
     exact aL rfl
   refine (aL (r:=b) ?_).trans (by simp)
   have e:AO (0,[0,b],2,1)=(bif b !=0 then some (.done b) else some (.next (0,[0,b],2,aA .i64 (1+1)))):=rfl
   rw [e,cP h2];rfl
 refine (aL (r:=a) ?_).trans (by simp [h1])
 have e:AO (0,[a,b],cq [a,b].length,0)=(bif a !=0 then some (.done a) else some (.next (0,[a,b],cq [a,b].length,aA .i64 (0+1)))):=rfl
 rw [e,cP h1];rfl
theorem aFF {p q:Pt} {t:Int×Int} (hp:iV p) (hq:iV q) (ht:tB t):C2 (p.2.1-q.2.1)/\C2 (p.2.2-q.2.2)/\ -170141183460469231731687303715884105728<=SC p q t/\SC p q t<170141183460469231731687303715884105728:=by
 obtain ⟨a1,a2,a3,a4,a5,a6⟩:=hp;obtain ⟨b1,b2,b3,b4,b5,b6⟩:=hq;have h1:C2 (p.2.1-q.2.1):=by constructor<;>omega
 have h2:C2 (p.2.2-q.2.2):=by constructor<;>omega
 refine ⟨h1,h2,?_⟩;have k: ∀{x y:Int},-2097152<=x/\x<=2097152->C2 y-> -19342813113834066795298816<=x*y/\x*y<=19342813113834066795298816:=by
  intro x y hx hy
  have:((x*y).natAbs:Int)<=2097152*9223372036854775808:=by
   rw [<- JN];exact de (by omega) (F9 hy) (by omega) (by decide)
  omega
 have k1:=k (x:=p.2.1-q.2.1) (by omega) ht.2
 have k2:=k (x:=p.2.2-q.2.2) (by omega) ht.1
 unfold SC;omega
theorem AC {p q:Pt} {t:Int×Int} (hp:iV p) (hq:iV q) (ht:tB t):oD p q t=some (aAG p q t):=by
 obtain ⟨g1,g2,g3⟩:=aFF hp hq ht;unfold oD;rw [mD g1,mD g2,QY g1 ht.2 g2 ht.1 g3];simp only [aB,G3,mE,GA];rw [show (p.2.1-q.2.1)*t.2+(p.2.2-q.2.2)*t.1=SC p q t from rfl];unfold aAG;generalize SC p q t=n at*
 by_cases h1:n<0
 · have e1:(n / 18446744073709551616==0)=false:=by simp;omega
   have e2:decide (n / 18446744073709551616<0)=true:=by simp;omega
   rw [if_pos h1];simp [e1,e2]
 by_cases h2:0<n
 · have e1:((n / 18446744073709551616==0)&&(n%18446744073709551616==0))=false:=by simp;omega
   have e2:decide (n / 18446744073709551616<0)=false:=by simp;omega
   rw [if_neg h1,if_pos h2];simp only [e1,e2,bv,cond_true,cond_false]
 have:n=0:=by omega
 subst this;rw [if_neg h1,if_neg h2];unfold lH
 by_cases h3:p.2.2<q.2.2
 · simp [h3]
 by_cases h4:q.2.2<p.2.2
 · simp [h3,h4]
 simp [h3,h4]
theorem aMZ {x y:Int} (hx: -85070591730234615865843651857942052864<=x/\x<=85070591730234615865843651857942052864) (hy: -85070591730234615865843651857942052864<=y/\y<=85070591730234615865843651857942052864):
 CV (decide (x<0),(x.natAbs:Int) / 18446744073709551616,(x.natAbs:Int)%18446744073709551616) (decide (y<0),(y.natAbs:Int) / 18446744073709551616,(y.natAbs:Int)%18446744073709551616)=
  some (decide (x+y<0),((x+y).natAbs:Int) / 18446744073709551616,((x+y).natAbs:Int)%18446744073709551616):=by
 have n1:(x.natAbs:Int)<=85070591730234615865843651857942052864:=by omega
 have n2:(y.natAbs:Int)<=85070591730234615865843651857942052864:=by omega
 unfold CV;rw [US _ _ (AB _ (by omega) n1) (AB _ (by omega) n2)]
 have ex:((x.natAbs:Int) / 18446744073709551616)*18446744073709551616+(x.natAbs:Int)%18446744073709551616=(x.natAbs:Int):=by omega
 have ey:((y.natAbs:Int) / 18446744073709551616)*18446744073709551616+(y.natAbs:Int)%18446744073709551616=(y.natAbs:Int):=by omega
 simp only [ex,ey,aB];have same: ∀{X Y Z:Int},0<=X->0<=Y->X<=85070591730234615865843651857942052864->Y<=85070591730234615865843651857942052864->Z=X+Y-> ∀b:Bool,
  (bif decide (aA .u64 (X%18446744073709551616+Y%18446744073709551616)<X%18446744073709551616) then some (b,aA .u64 (aA .u64 (X / 18446744073709551616+Y / 18446744073709551616)+1),aA .u64 (X%18446744073709551616+Y%18446744073709551616))
   else some (b,aA .u64 (X / 18446744073709551616+Y / 18446744073709551616),aA .u64 (X%18446744073709551616+Y%18446744073709551616)))=some (b,Z / 18446744073709551616,Z%18446744073709551616):=by
  intro X Y Z h1 h2 h3 h4 h5 b;subst h5;simp only [wu]
  by_cases h:(X%18446744073709551616+Y%18446744073709551616)%18446744073709551616<X%18446744073709551616
  · simp only [h,decide_true,cond_true,bq,ci,true_and];constructor<;>omega
  simp only [h,decide_false,cond_false,bq,ci,true_and];constructor<;>omega
 have minus: ∀{X Y Z:Int} (b c:Bool),0<=X->0<=Y->X<=85070591730234615865843651857942052864->Y<=X->Z=X-Y->vW (b,X / 18446744073709551616,X%18446744073709551616) (c,Y / 18446744073709551616,Y%18446744073709551616)=some (false,Z / 18446744073709551616,Z%18446744073709551616):=by
  intro X Y Z b c h1 h2 h3 h4 h5;subst h5;unfold vW;simp only [wu]
  by_cases h:X%18446744073709551616<Y%18446744073709551616
  · simp only [h,decide_true,cond_true,bq,ci,true_and];constructor<;>omega
  simp only [h,decide_false,cond_false,bq,ci,true_and];constructor<;>omega
 by_cases h1:x<0<;>by_cases h2:y<0
 · have h3:x+y<0:=by omega
   simp only [h1,h2,h3,decide_true,beq_self_eq_true,cond_true];exact same (by omega) (by omega) n1 n2 (by omega) true
 · simp only [h1,h2,decide_true,decide_false,show (true==false)=false from rfl,cond_false,cond_true]
   by_cases h3:(y.natAbs:Int)<=(x.natAbs:Int)
   · have e:decide (0<=lH (x.natAbs:Int) (y.natAbs:Int))=true:=by
      rcases gP (x.natAbs:Int) (y.natAbs:Int) with ⟨h,e⟩|⟨h,e⟩|⟨h,e⟩<;>rw [e]<;>first|rfl|omega
     rw [e,minus (Z:=((x+y).natAbs:Int)) _ _ (by omega) (by omega) n1 h3 (by omega)]
     simp only [cond_true,aB]
     by_cases h4:x+y=0
     · rw [h4];rfl
     have h5:x+y<0:=by omega
     by_cases h6:0<((x+y).natAbs:Int) / 18446744073709551616
     · simp [h5,h6]
     have h7:0<((x+y).natAbs:Int)%18446744073709551616:=by omega
     simp only [h5,h6,h7,decide_true,decide_false,cond_false]
   have e:decide (0<=lH (x.natAbs:Int) (y.natAbs:Int))=false:=by
    rcases gP (x.natAbs:Int) (y.natAbs:Int) with ⟨h,e⟩|⟨h,e⟩|⟨h,e⟩<;>rw [e]<;>first|rfl|omega
   rw [e,minus (Z:=((x+y).natAbs:Int)) _ _ (by omega) (by omega) n2 (by omega) (by omega)]
   have h5: ¬(x+y<0):=by omega
   simp [h5]
 · simp only [h1,h2,decide_true,decide_false,show (false==true)=false from rfl,cond_false]
   by_cases h3:(y.natAbs:Int)<=(x.natAbs:Int)
   · have e:decide (0<=lH (x.natAbs:Int) (y.natAbs:Int))=true:=by
      rcases gP (x.natAbs:Int) (y.natAbs:Int) with ⟨h,e⟩|⟨h,e⟩|⟨h,e⟩<;>rw [e]<;>first|rfl|omega
     rw [e,minus (Z:=((x+y).natAbs:Int)) _ _ (by omega) (by omega) n1 h3 (by omega)]
     have h5: ¬(x+y<0):=by omega
     simp [h5]
   have e:decide (0<=lH (x.natAbs:Int) (y.natAbs:Int))=false:=by
    rcases gP (x.natAbs:Int) (y.natAbs:Int) with ⟨h,e⟩|⟨h,e⟩|⟨h,e⟩<;>rw [e]<;>first|rfl|omega
   rw [e,minus (Z:=((x+y).natAbs:Int)) _ _ (by omega) (by omega) n2 (by omega) (by omega)]
   have h5:x+y<0:=by omega
   simp [h5]
 have h3: ¬(x+y<0):=by omega
 simp only [h1,h2,h3,decide_false,beq_self_eq_true,cond_true];exact same (by omega) (by omega) n1 n2 (by omega) false
theorem aTQ {p q:Pt} {t:Int×Int} (hp:iV p) (hq:iV q) (ht:tB t):F4 p q t=some (lH (SC p q t) 0):=by
 obtain ⟨g1,g2,g3⟩:=aFF hp hq ht;unfold F4;rw [mD g1,mD g2,C3 g1 ht.2,C3 g2 ht.1];simp only [aB];rw [aMZ (BP g1 ht.2) (BP g2 ht.1)];simp only [aB];rw [show (p.2.1-q.2.1)*t.2+(p.2.2-q.2.2)*t.1=SC p q t from rfl];obtain ⟨a1,a2,a3,a4,a5,a6⟩:=hp;obtain ⟨b1,b2,b3,b4,b5,b6⟩:=hq
 have k: ∀{x y:Int},-2097152<=x/\x<=2097152->C2 y-> -19342813113834066795298816<=x*y/\x*y<=19342813113834066795298816:=by
  intro x y hx hy
  have:((x*y).natAbs:Int)<=2097152*9223372036854775808:=by
   rw [<- JN];exact de (by omega) (F9 hy) (by omega) (by decide)
  omega
 have k1:=k (x:=p.2.1-q.2.1) (by omega) ht.2
 have k2:=k (x:=p.2.2-q.2.2) (by omega) ht.1
 have:((SC p q t).natAbs:Int)<=85070591730234615865843651857942052864:=by unfold SC;omega
 rw [UT this];rfl
theorem O8 {p q:Pt} {t:Int×Int} (hp:iV p) (hq:iV q) (ht:tB t):rB p q t=some (decide (hY p q t)):=by
 unfold rB hY;rw [aTQ hp hq ht];simp only [aB];rcases gP (SC p q t) 0 with ⟨h,e⟩|⟨h,e⟩|⟨h,e⟩<;>rw [e]
 · have h1: ¬(0<SC p q t):=by omega
   have h2: ¬(SC p q t=0):=by omega
   simp [h1,h2]
 · rw [h]
   by_cases h3:p.2.2=q.2.2
   · simp [h3]
   simp [h3,cP h3]
 simp [h]
theorem AV {p q:Pt} {t:Int×Int} (ht:tB t):tM p q t=some (if iV p/\iV q/\cQ t then (if p.1=q.1 then 2 else 0) else 8):=by
 unfold tM;simp only [DU,gO ht,aB]
 by_cases h4:p.1=q.1
 · by_cases h1:iV p<;>by_cases h2:iV q<;>by_cases h3:cQ t<;>simp [h1,h2,h3,h4]
 have h5:=eB h4
 by_cases h1:iV p<;>by_cases h2:iV q<;>by_cases h3:cQ t<;>simp [h1,h2,h3,h4,h5]
theorem aM0 {n d:Int} (hn:C2 n) (hd:C2 d):CS n d=oJ n d:=by
 unfold CS oJ
 by_cases h0:d=0
 · subst h0;rfl
 have e0:(d==0)=false:=by simpa using h0
 simp only [e0,cond_false,sS hn,sS hd,lC hn,lC hd,aB,G2,tU];have hp:0<bu n.natAbs d.natAbs:=dt _ (by omega)
 have e1:((bu n.natAbs d.natAbs:Int)==0)=false:=by simp;omega
 simp only [e1,cond_false];unfold EV tQ;simp only [show decide ((0:Int)<0)=false from rfl,cond_false]
 by_cases h3:n=0
 · subst h3
   have z: ∀k:Int,aA .u64 (d5 (((0:Int).natAbs:Nat):Int) k)=0:=fun k=>by
    rw [show (((0:Int).natAbs:Nat):Int)=0 from rfl,Int.zero_tdiv];rfl
   have z2:aA .i64 0=0:=rfl;have z3:aA .i64 (0-0)=0:=rfl;simp only [z,z2,z3,show ((0:Int) !=0)=false from rfl,cond_false,show decide ((0:Int)<0)=false from rfl];cases (!(false==decide (d<0)))<;>simp
 simp only [cP h3]
 cases (!(decide (n<0)==decide (d<0)))<;>rfl
noncomputable def met (p q:Pt):Int×Int:=((oJ (p.2.1-q.2.1) (q.2.2-p.2.2)).getD ((0,0),0)).1
theorem aAH {n d:Int} (hn: -2097152<=n/\n<=2097152) (hd: -2097152<=d/\d<=2097152) (h0:d≠0): ∃r,oJ n d=some (r,0)/\cQ r/\tB r/\r.1*d=n*r.2:=by
 have hn':C2 n:=by constructor<;>omega
 have hd':C2 d:=by constructor<;>omega
 unfold oJ;have e0:(d==0)=false:=by simpa using h0
 have hp:0<bu n.natAbs d.natAbs:=dt _ (by omega)
 have e1:((bu n.natAbs d.natAbs:Int)==0)=false:=by simp;omega
 simp only [e0,cond_false,lC hn',lC hd',aB,tU,e1];have q1:d5 (n.natAbs:Int) (bu n.natAbs d.natAbs:Int)=((n.natAbs / bu n.natAbs d.natAbs:Nat):Int):=by
  rw [ew]
 have q2:d5 (d.natAbs:Int) (bu n.natAbs d.natAbs:Int)=((d.natAbs / bu n.natAbs d.natAbs:Nat):Int):=by
  rw [ew]
 rw [q1,q2];have l1:n.natAbs / bu n.natAbs d.natAbs<=2097152:=ff (ei _ _) (by omega)
 have l2:d.natAbs / bu n.natAbs d.natAbs<=2097152:=ff (ei _ _) (by omega)
 have l3:1<=d.natAbs / bu n.natAbs d.natAbs:=Nat.div_pos (Nat.le_of_dvd (by omega) (dm _ _)) hp
 have co:bu (d.natAbs / bu n.natAbs d.natAbs) (n.natAbs / bu n.natAbs d.natAbs)=1:=by
  rw [cw,Nat.gcd_div (ed _ _) (dm _ _)];exact Nat.div_self hp
 have v1:n.natAbs=bu n.natAbs d.natAbs*(n.natAbs / bu n.natAbs d.natAbs):=(d7 (ed _ _)).symm;have v2:d.natAbs=bu n.natAbs d.natAbs*(d.natAbs / bu n.natAbs d.natAbs):=(d7 (dm _ _)).symm
 have val:(n.natAbs:Int)*((d.natAbs / bu n.natAbs d.natAbs:Nat):Int)=(d.natAbs:Int)*((n.natAbs / bu n.natAbs d.natAbs:Nat):Int):=by
  generalize n.natAbs / bu n.natAbs d.natAbs=a at*;generalize d.natAbs / bu n.natAbs d.natAbs=b at*;generalize bu n.natAbs d.natAbs=g at*;rw [v1,v2,ej,ej,ez,ez,db (a:Int) (b:Int)]
 clear v1 v2;generalize n.natAbs / bu n.natAbs d.natAbs=a at*;generalize d.natAbs / bu n.natAbs d.natAbs=b at*;have w1:aA .u64 (a:Int)=a:=by rw [wu];omega
 have w2:aA .u64 (b:Int)=b:=by rw [wu];omega
 have made: ∀s:Bool,tQ s (false,0,(a:Int)) (false,0,(b:Int))=some ((if s=true then -(a:Int) else a,(b:Int)),0):=by
  intro s;unfold tQ;have d1:decide (9223372036854775807<(a:Int))=false:=by simp;omega
  have d2:decide (9223372036854775807<(b:Int))=false:=by simp;omega
  have v1:aA .i64 (a:Int)=a:=by rw [wi];omega
  have v2:aA .i64 (b:Int)=b:=by rw [wi];omega
  have v3:aA .i64 (0- (a:Int))= -(a:Int):=by rw [wi];omega
  simp only [show decide ((0:Int)<0)=false from rfl,cond_false,d1,d2,v1,v2,v3];cases s<;>simp
 have fin: ∀s:Bool,(if s=true then -(a:Int) else a)*d=n*b-> ∃r,(some ((if s=true then -(a:Int) else a,(b:Int)),(0:Int)):Option ((Int×Int)×Int))=some (r,0)/\cQ r/\tB r/\r.1*d=n*r.2:=by
  intro s hv;refine ⟨_,rfl,?_,?_,hv⟩
  · unfold cQ
    dsimp only;refine ⟨by omega,?_,?_⟩
    · cases s
      · simp only [ec,if_false];omega
      simp only [if_true];omega
    rw [show (if s=true then -(a:Int) else (a:Int)).natAbs=a by cases s<;>simp,show ((b:Int)).natAbs=b by omega];exact co
  constructor
  · dsimp only;cases s
    · simp only [ec,if_false];constructor<;>omega
    simp only [if_true];constructor<;>omega
  dsimp only;constructor<;>omega
 simp only [w1,w2,made,aB]
 by_cases h1:(!(decide (n<0)==decide (d<0)))=true
 · rw [h1]
   refine fin (n !=0) ?_
   by_cases hn0:n=0
   · subst hn0
     have a0:(a:Int)=0:=by
      have:((d.natAbs:Nat):Int)*(a:Int)=0:=by rw [<- val];simp
      rcases Int.mul_eq_zero.1 this with h|h
      · omega
      exact h
     simp [a0]
   have e:(n !=0)=true:=by simpa using hn0
   rw [e,if_pos rfl]
   by_cases hneg:n<0
   · have hd0: ¬d<0:=fun k=>by simp [hneg,k] at h1
     have x1:(n.natAbs:Int)= -n:=by omega
     have x2:(d.natAbs:Int)=d:=by omega
     rw [x1,x2,cz] at val;rw [cz,db];omega
   have hd0:d<0:=by
    by_cases k:d<0
    · exact k
    simp [hneg,k] at h1
   have x1:(n.natAbs:Int)=n:=by omega
   have x2:(d.natAbs:Int)= -d:=by omega
   rw [x1,x2,cz] at val;rw [cz,db];omega
 rw [dv] at h1;rw [h1]
 refine fin false ?_;rw [if_neg (by simp)]
 by_cases hneg:n<0
 · have hd0:d<0:=by
    by_cases k:d<0
    · exact k
    simp [hneg,k] at h1
   have x1:(n.natAbs:Int)= -n:=by omega
   have x2:(d.natAbs:Int)= -d:=by omega
   rw [x1,x2,cz,cz] at val;rw [db];omega
 have hd0: ¬d<0:=fun k=>by simp [hneg,k] at h1
 have x1:(n.natAbs:Int)=n:=by omega
 have x2:(d.natAbs:Int)=d:=by omega
 rw [x1,x2] at val;rw [db];omega
theorem aAI {p q:Pt} (hp:iV p) (hq:iV q) (h:p.2.2≠q.2.2):oJ (p.2.1-q.2.1) (q.2.2-p.2.2)=some (met p q,0)/\cQ (met p q)/\tB (met p q)/\(met p q).1*(q.2.2-p.2.2)=(p.2.1-q.2.1)*(met p q).2:=by
 obtain ⟨a1,a2,a3,a4,a5,a6⟩:=hp;obtain ⟨b1,b2,b3,b4,b5,b6⟩:=hq;obtain ⟨r,h1,h2,h3⟩:=aAH (n:=p.2.1-q.2.1) (d:=q.2.2-p.2.2) (by omega) (by omega) (by omega)
 have:met p q=r:=by unfold met;rw [h1];rfl
 rw [this];exact ⟨h1,h2,h3⟩
theorem SD {p q:Pt} (hp:iV p) (hq:iV q):aA .i64 (p.2.1-q.2.1)=p.2.1-q.2.1/\aA .i64 (q.2.2-p.2.2)=q.2.2-p.2.2/\C2 (p.2.1-q.2.1)/\C2 (q.2.2-p.2.2):=by
 obtain ⟨a1,a2,a3,a4,a5,a6⟩:=hp;obtain ⟨b1,b2,b3,b4,b5,b6⟩:=hq;have h1:C2 (p.2.1-q.2.1):=by constructor<;>omega
 have h2:C2 (q.2.2-p.2.2):=by constructor<;>omega
 exact ⟨mD h1,mD h2,h1,h2⟩
noncomputable def G4 (h l:Pt) (t:Int×Int):(Int×Int)×Bool:=if hY l h t then (t,true) else if h.2.2<l.2.2 then (met h l,true) else ((0,0),false)
theorem aTR {p q:Pt} (hp:iV p) (hq:iV q) (h:p.2.2≠q.2.2):F5 p q=some (met p q):=by
 obtain ⟨w1,w2,_,_⟩:=SD hp hq;unfold F5;rw [w1,w2,(aAI hp hq h).1];rfl
theorem aAJ {h l:Pt} {t:Int×Int} (hh:iV h) (hl:iV l) (ht:tB t):uN h l t=some (G4 h l t):=by
 unfold uN G4;rw [O8 hl hh ht];simp only [aB]
 by_cases h1:hY l h t
 · simp [h1]
 simp only [h1,decide_false,cond_false,if_false]
 by_cases h2:h.2.2<l.2.2
 · simp [h2,aTR hh hl (by omega)]
 simp [h2]
theorem aFG:cQ (0,1):=by unfold cQ;decide
theorem MK {h l:Pt} {t:Int×Int} (ht:tB t):
 wZ h l t=some (if iV h/\iV l/\cQ t/\h.1≠l.1 then ((G4 h l t).1,(G4 h l t).2,0) else ((0,0),false,if iV h/\iV l/\cQ t then 2 else 8)):=by
 unfold wZ;rw [AV ht]
 by_cases h1:iV h/\iV l/\cQ t
 · rw [if_pos h1]
   by_cases h2:h.1=l.1
   · simp [h1,h2]
   obtain ⟨hh,hl,hr⟩:=h1
   rw [if_neg h2,if_pos ⟨hh,hl,hr,h2⟩];simp only [aB,show ((0:Int) !=0)=false from rfl,cond_false,AC hl hh ht];unfold G4
   by_cases h3:hY l h t
   · have:decide (0<aAG l h t)=true:=by simpa using (O7 l h t).2 h3
     rw [this];simp [h3]
   have:decide (0<aAG l h t)=false:=decide_eq_false fun k=>h3 ((O7 l h t).1 k)
   rw [this,if_neg h3];simp only [cond_false]
   by_cases h4:h.2.2<l.2.2
   · have e:decide (l.2.2<=h.2.2)=false:=by simp;omega
     rw [e,if_pos h4];unfold EW;obtain ⟨w1,w2,i1,i2⟩:=SD hh hl;have e2:(h.2.2==l.2.2)=false:=by simp;omega
     rw [AV (by constructor<;>constructor<;>decide),if_pos ⟨hh,hl,aFG⟩,if_neg h2]
     simp only [aB,show ((0:Int) !=0)=false from rfl,cond_false,e2,w1,w2,aM0 i1 i2,(aAI hh hl (by omega)).1]
     rfl
   have e:decide (l.2.2<=h.2.2)=true:=by simp;omega
   rw [e,if_neg h4];rfl
 rw [if_neg h1,if_neg (fun h=>h1 ⟨h.1,h.2.1,h.2.2.1⟩),if_neg h1];rfl
theorem O9 {h l:Pt} {t:Int×Int} (hh:iV h) (hl:iV l) (ht:tB t) (hr:cQ t) (h2:(G4 h l t).2=true):cQ (G4 h l t).1/\tB (G4 h l t).1:=by
 unfold G4 at*
 by_cases h3:hY l h t
 · rw [if_pos h3];exact ⟨hr,ht⟩
 rw [if_neg h3] at h2 ⊢
 by_cases h4:h.2.2<l.2.2
 · rw [if_pos h4];have:=(aAI hh hl (by omega)).2;exact ⟨this.1,this.2.1⟩
 rw [if_neg h4] at h2;cases h2
theorem aAK: ∀(n:Nat) (l:List Nat),l.Nodup->(∀x∈l,x<n)->l.length<=n
 |0,l,_,h=>by
  cases l with
  |nil=>simp
  |cons a l=>exact absurd (h a (by simp)) (by omega)
 |n+1,l,hd,h=>by
  have h1:=aAK n (l.filter (fun x=>x≠n)) (hd.filter _) (by
   intro x hx;rw [ek] at hx
   have:=h x hx.1
   have h2:x≠n:=by simpa using hx.2
   omega)
  have h2:l.length<=(l.filter (fun x=>x≠n)).length+1:=by
   clear h1 h
   induction l with
   |nil=>simp
   |cons a l ih=>
    rw [c6] at hd
    have:=ih hd.2
    by_cases ha:a=n
    · subst ha
      have e:l.filter (fun x=>decide (x≠a))=l:=by
       rw [List.filter_eq_self];intro x hx;simp only [ne_eq,decide_eq_true_eq];rintro rfl;exact hd.1 hx
      rw [List.filter_cons_of_neg (by simp),e];simp
    rw [List.filter_cons_of_pos (by simpa using ha)]
    simp only [ef];omega
  omega
theorem L3 {n:Nat} {l:List Nat} (hd:l.Nodup) (h: ∀x∈l,x<n) (hn:n<=l.length): ∀x,x<n->x∈l:=by
 intro x hx;refine cb fun hc=>?_
 have:=aAK n (x::l) (by rw [c6];exact ⟨hc,hd⟩) (by
  intro y hy;rcases fa.1 hy with rfl|hy
  · exact hx
  exact h y hy)
 simp only [ef] at this;omega
def gS (l:List Pt):Prop:= ∀i,i+1<l.length->(l[i]!).1<(l[i+1]!).1
def cE (l:List Pt):Prop:=l.length<=64/\(∀p∈l,iV p)/\gS l
noncomputable def yR (l:List Pt):Int:=if 64<l.length then 4 else if¬(∀p∈l,iV p) then 8 else if¬gS l then 32 else 0
theorem iH {l:List Pt}:yR l=0↔cE l:=by
 unfold yR cE
 by_cases h1:64<l.length
 · rw [if_pos h1];simp;omega
 rw [if_neg h1]
 by_cases h2: ∀p∈l,iV p
 · rw [if_neg (bn.2 h2)]
   by_cases h3:gS l
   · rw [if_neg (bn.2 h3)]
     exact ⟨fun _=>⟨by omega,h2,h3⟩,fun _=>rfl⟩
   rw [if_pos h3]
   exact ⟨fun h=>(by cases h),fun h=>absurd h.2.2 h3⟩
 rw [if_pos h2]
 constructor
 · intro h;cases h
 intro h;exact absurd h.2.1 h2
theorem aU {n:Nat} (h:n<1000000000):aA .i64 ((n:Int)+1)=((n+1:Nat):Int):=by rw [wi];omega
theorem qB {n:Nat} (h:n<1000000000) (h1:1<=n):aA .i64 ((n:Int) -1)=((n-1:Nat):Int):=by rw [wi];omega
theorem aF (n:Nat):cq n=(n:Int):=rfl
theorem X6 (l:List Pt) (h:l.length<=64):aG kB (1,l)=some (.done (if gS l then 0 else 32)):=by
 by_cases hl:l.length<=1
 · have:gS l:=fun i hi=>by omega
   rw [if_pos this];refine aL ?_;unfold kB;rw [aF]
   have:decide ((1:Int)<(l.length:Int))=false:=by simp;omega
   simp [this]
 have key:=dM (body:=kB) (fun i=>(((i+1:Nat):Int),l)) (l.length-1) (fun i=>(l[i+1]!).1<=(l[i]!).1) (r:= .done 32) (e:= .done 0) (by
  intro i hi;have e1:decide (((i+1:Nat):Int)<(l.length:Int))=true:=by simp;omega
  have e2:aA .i64 (((i+1:Nat):Int) -1)=(i:Int):=by rw [wi];omega
  have hb:kB (((i+1:Nat):Int),l)=bif decide ((l[i+1]!).1<=(l[i]!).1) then some (.done (.done 32)) else some (.next (((i+1+1:Nat):Int),l)):=by
   unfold kB;simp only [aF,e1,cond_true,e2,aE l i (by omega),aE l (i+1) (by omega),aB,aU (show i+1<1000000000 by omega)]
  constructor
  · intro hc;rw [hb,decide_eq_true hc];rfl
  · intro hc;rw [hb,decide_eq_false hc];rfl) (by
  unfold kB
  have:decide (((l.length-1+1:Nat):Int)<cq l.length)=false:=by rw [aF];simp;omega
  simp only [this,cond_false])
 by_cases hs:gS l
 · rw [if_pos hs]
   refine key.2 fun i hi=>?_
   have:=hs i (by omega)
   omega
 rw [if_neg hs]
 refine key.1 ?_;unfold gS at hs;simp only [bw] at hs;obtain ⟨i,hi,h2⟩:=hs;exact ⟨i,by omega,by omega⟩
theorem yS (f:Field):oI f=some (yR f.aa):=by
 unfold oI yR;rw [aF]
 by_cases h:64<f.aa.length
 · have:decide ((64:Int)<(f.aa.length:Int))=true:=by simp;omega
   rw [this,if_pos h];rfl
 have:decide ((64:Int)<(f.aa.length:Int))=false:=by simp;omega
 rw [this,if_neg h];simp only [cond_false];generalize f.aa=l at*;have key:=dM (body:=oH) (fun i=>((i:Int),l)) l.length (fun i=> ¬iV l[i]!) (r:=8) (e:=if gS l then 0 else 32) (by
  intro i hi;have e1:decide ((i:Int)<(l.length:Int))=true:=by simp;omega
  have hb:oH ((i:Int),l)=bif (if iV l[i]! then (0:Int) else 8) !=0 then some (.done 8) else some (.next (((i+1:Nat):Int),l)):=by
   unfold oH;simp only [aF,e1,cond_true,aE l i (by omega),aB,O6,aU (show i<1000000000 by omega)]
  constructor
  · intro hc;rw [hb,if_neg hc];rfl
  · intro hc;rw [hb,if_pos (bn.1 hc)];rfl) (by
  unfold oH
  have:decide ((l.length:Int)<cq l.length)=false:=by rw [aF];simp
  simp only [this,cond_false];exact X6 l (by omega))
 by_cases hp: ∀p∈l,iV p
 · rw [if_neg (bn.2 hp)]
   refine (key.2 fun i hi=>?_).trans ?_
   · exact bn.2 (hp _ (bI hi))
   by_cases hs:gS l
   · simp [hs]
   simp [hs]
 rw [if_pos hp]
 refine key.1 ?_;obtain ⟨p,hp⟩:=bw.1 hp;obtain ⟨hm,h2⟩:=cy.1 hp;obtain ⟨i,hi,rfl⟩:=aY.1 hm;exact ⟨i,hi,h2⟩
theorem X7 (l:List Pt) (h:l.length<=64):aG jX (l,(l.length:Int),0,l)=some (.done (if gS l then 0 else 32)):=by
 have key:=dM (body:=jX) (fun i=>(l,(l.length:Int),(i:Int),l)) l.length (fun i=>0<i/\(l[i]!).1<=(l[i-1]!).1) (r:= .done 32) (e:= .done 0) (by
  intro i hi;have e1:decide ((i:Int)<(l.length:Int))=true:=by simp;omega
  by_cases h0:0<i
  · have e3:decide ((0:Int)<(i:Int))=true:=by simp;omega
    have hb:jX (l,(l.length:Int),(i:Int),l)=bif decide ((l[i]!).1<=(l[i-1]!).1) then some (.done (.done 32)) else some (.next (l,(l.length:Int),((i+1:Nat):Int),l)):=by
     unfold jX;simp only [e1,e3,cond_true,aE l i (by omega),qB (show i<1000000000 by omega) h0,aE l (i-1) (by omega),aB,aU (show i<1000000000 by omega)]
    constructor
    · intro hc;rw [hb,decide_eq_true hc.2];rfl
    intro hc
    have: ¬(l[i]!).1<=(l[i-1]!).1:=fun h=>hc ⟨h0,h⟩
    rw [hb,decide_eq_false this];rfl
  · have e3:decide ((0:Int)<(i:Int))=false:=by simp;omega
    constructor
    · intro hc;exact absurd hc.1 h0
    intro _
    unfold jX;simp only [e1,e3,cond_true,cond_false,aE l i (by omega),aB,aU (show i<1000000000 by omega)]) (by
  unfold jX
  have:decide ((l.length:Int)<(l.length:Int))=false:=by simp
  simp only [this,cond_false])
 by_cases hs:gS l
 · rw [if_pos hs]
   refine key.2 fun i hi=>?_
   rintro ⟨h0,h1⟩
   have:=hs (i-1) (by omega)
   rw [show i-1+1=i by omega] at this
   omega
 rw [if_neg hs]
 refine key.1 ?_;unfold gS at hs;simp only [bw] at hs;obtain ⟨i,hi,h2⟩:=hs;exact ⟨i+1,by omega,by omega,by rw [show i+1-1=i by omega];omega⟩
theorem kD (f:Field):fI f=some (yR f.aa):=by
 unfold fI yR;rw [aF]
 by_cases h:64<f.aa.length
 · have:decide ((64:Int)<(f.aa.length:Int))=true:=by simp;omega
   rw [this,if_pos h];rfl
 have:decide ((64:Int)<(f.aa.length:Int))=false:=by simp;omega
 rw [this,if_neg h];simp only [cond_false];generalize f.aa=l at*;have key:=dM (body:=oC) (fun i=>(l,(l.length:Int),(i:Int),l)) l.length (fun i=> ¬iV l[i]!) (r:=8) (e:=if gS l then 0 else 32) (by
  intro i hi;have e1:decide ((i:Int)<(l.length:Int))=true:=by simp;omega
  have hb:oC (l,(l.length:Int),(i:Int),l)=bif (if iV l[i]! then (0:Int) else 8) !=0 then some (.done (if iV l[i]! then (0:Int) else 8)) else some (.next (l,(l.length:Int),((i+1:Nat):Int),l)):=by
   unfold oC;simp only [e1,cond_true,aE l i (by omega),aB,DU,aU (show i<1000000000 by omega)]
  constructor
  · intro hc;rw [hb,if_neg hc];rfl
  · intro hc;rw [hb,if_pos (bn.1 hc)];rfl) (by
  unfold oC
  have:decide ((l.length:Int)<(l.length:Int))=false:=by simp
  simp only [this,cond_false];exact X7 l (by omega))
 by_cases hp: ∀p∈l,iV p
 · rw [if_neg (bn.2 hp)]
   refine (key.2 fun i hi=>?_).trans ?_
   · exact bn.2 (hp _ (bI hi))
   by_cases hs:gS l
   · simp [hs]
   simp [hs]
 rw [if_pos hp]
 refine key.1 ?_;obtain ⟨p,hp⟩:=bw.1 hp;obtain ⟨hm,h2⟩:=cy.1 hp;obtain ⟨i,hi,rfl⟩:=aY.1 hm;exact ⟨i,hi,h2⟩
theorem hJ {l:List Pt} (h:gS l) {i j:Nat} (hij:i<j) (hj:j<l.length):(l[i]!).1<(l[j]!).1:=by
 induction j with
 |zero=>omega
 |succ j ih=>
  have h1:=h j hj
  by_cases he:i=j
  · subst he;exact h1
  have:=ih (by omega) (by omega);omega
theorem IC {l:List Pt} (h:gS l) {i j:Nat} (hi:i<l.length) (hj:j<l.length) (he:(l[i]!).1=(l[j]!).1):i=j:=by
 rcases Nat.lt_trichotomy i j with h1|h1|h1
 · have:=hJ h h1 hj;omega
 · exact h1
 have:=hJ h h1 hi;omega
theorem L4 (l:List Pt) (id:Int) (hl:l.length<=1000000):(∀k,k<l.length->(l[k]!).1=id->(∀j,j<k->(l[j]!).1≠id)->gU ⟨l⟩ id=some (k:Int))/\((∀k,k<l.length->(l[k]!).1≠id)->gU ⟨l⟩ id=some (-1)):=by
 unfold gU;refine jK (body:=vU) (fun i=>(id,(i:Int),l)) l.length (fun i=>(l[i]!).1=id) (fun i=>(i:Int)) (fun i hi=>?_) ?_
 · have e1:decide ((i:Int)<(l.length:Int))=true:=by simp;omega
   have hb:vU (id,(i:Int),l)=bif (l[i]!).1==id then some (.done (i:Int)) else some (.next (id,((i+1:Nat):Int),l)):=by
    unfold vU;simp only [aF,e1,cond_true,aE l i hi,aB,aU (show i<1000000000 by omega)]
   constructor
   · intro hc;rw [hb,eI hc];rfl
   intro hc;rw [hb,eB hc];rfl
 unfold vU
 have:decide ((l.length:Int)<(l.length:Int))=false:=by simp
 simp only [aF,this,cond_false]
theorem SF {l:List Pt} (hs:gS l) (hl:l.length<=1000000) {k:Nat} (hk:k<l.length) {id:Int} (he:(l[k]!).1=id):gU ⟨l⟩ id=some (k:Int):=by
 refine (L4 l id hl).1 k hk he fun j hj hc=>?_
 have:=hJ hs hj hk
 omega
theorem aM2 {l:List Pt} (hl:l.length<=1000000) {id:Int} (h: ∀k,k<l.length->(l[k]!).1≠id):gU ⟨l⟩ id=some (-1):=(L4 l id hl).2 h
theorem X8 (f:Nat->Int) (id:Int): ∀(n:Nat),(∀i j,i<j->j<n->f i<f j)-> ∃m,m<=n/\(∀i,i<m->f i<id)/\(∀i,m<=i->i<n->id<=f i)
 |0,_=>⟨0,dy _,fun i h=>by omega,fun i _ h=>by omega⟩
 |n+1,h=>by
  obtain ⟨m,h1,h2,h3⟩:=X8 f id n fun i j a b=>h i j a (by omega)
  by_cases hm:m=n
  · by_cases hf:f n<id
    · refine ⟨n+1,dy _,fun i hi=>?_,fun i a b=>by omega⟩
      by_cases he:i=n
      · subst he;exact hf
      exact h2 i (by omega)
    refine ⟨n,by omega,fun i hi=>h2 i (by omega),fun i a b=>?_⟩
    have:i=n:=by omega
    subst this;omega
  refine ⟨m,by omega,h2,fun i a b=>?_⟩
  by_cases he:i=n
  · subst he
    have:=h m i (by omega) (by omega)
    have:=h3 m (dy _) (by omega)
    omega
  exact h3 i a (by omega)
theorem iW {α:Type} [Inhabited α] {l:List α}:l.Nodup↔ ∀i j,i<j->j<l.length->l[i]!≠l[j]!:=by
 unfold List.Nodup;rw [List.pairwise_iff_getElem];constructor
 · intro h i j hij hj
   rw [getElem!_pos l i (by omega),getElem!_pos l j hj]
   exact h i j (by omega) hj hij
 intro h i j hi hj hij
 have:=h i j hij hj
 rwa [getElem!_pos l i hi,getElem!_pos l j hj] at this
theorem cH {α:Type} [Inhabited α] {l:List α} {k:Nat} {x:α}:x∈l.take k↔ ∃i,i<k/\i<l.length/\l[i]! =x:=by
 rw [aY];constructor
 · rintro ⟨i,hi,rfl⟩
   rw [cm] at hi;exact ⟨i,by omega,by omega,(kN (by omega)).symm⟩
 rintro ⟨i,h1,h2,rfl⟩
 exact ⟨i,by rw [cm];omega,kN h1⟩
theorem fQ {α:Type} [Inhabited α] {l:List α} {k:Nat} (h:k<l.length):l.take (k+1)=l.take k++[l[k]!]:=by
 rw [List.take_add_one,dp h,getElem!_pos l k h];rfl
def fX (l:List Bool):List Int->List Bool
 | []=>l
 |x::r=>fX (cL l x true) r
theorem pE: ∀(r:List Int) (l:List Bool),(fX l r).length=l.length
 | [],_=>rfl
 |x::r,l=>by rw [fX,pE r,EG]
theorem ID: ∀(r:List Int) (l:List Bool) (x:Int),fX l (r++[x])=cL (fX l r) x true
 | [],_,_=>rfl
 |y::r,l,x=>by
  show fX (cL l y true) (r++[x])=_;rw [ID r];rfl
theorem rE : ∀ (r : List Int) (l : List Bool) (i : Nat), (∀ x ∈ r, 0 <= x) -> i < l.length -> (fX l r)[i]! = (l[i]! || decide ((i : Int) ∈ r))
  | [], l, i, _, _ => by simp [fX]
  | x :: r, l, i, h, hi => by
    rw [fX, rE r _ i (fun y hy => h y (by simp [hy])) (by rw [EG]; exact hi)]
    obtain ⟨k, rfl⟩ := cu (h x (by simp))
    rw [yP, aZ]
    by_cases e : i = k
    · subst e; rw [if_pos ⟨rfl, hi⟩]; simp
    rw [if_neg (fun h => e h.1)]
    have : ((i : Int) ∈ (k : Int) :: r) ↔ (i : Int) ∈ r := by
      rw [fa]
      constructor
      · rintro (h | h)
        · omega
        exact h
      exact .inr
    simp only [this]
theorem PA (l:List Bool) (h:l.length<=1000000):eN l false=some (decide (false∈l)):=by
 unfold eN rX;have key:=jK (body:=iF) (fun i=>(l,false,(l.length:Int),(i:Int))) l.length (fun i=>l[i]! =false) (fun i=>(i:Int)) (e:= -1) (fun i hi=>by
  have e1:decide ((i:Int)<(l.length:Int))=true:=by simp;omega
  have hb:iF (l,false,(l.length:Int),(i:Int))=bif false==l[i]! then some (.done (i:Int)) else some (.next (l,false,(l.length:Int),((i+1:Nat):Int))):=by
   unfold iF;simp only [e1,cond_true,aE l i hi,aB,aU (show i<1000000000 by omega)]
  constructor
  · intro hc;rw [hb,hc];rfl
  · intro hc
    have:l[i]! =true:=by simpa using hc
    rw [hb,this];rfl) (by
  unfold iF
  have:decide ((l.length:Int)<(l.length:Int))=false:=by simp
  simp only [this,cond_false])
 rw [aF]
 by_cases hx:false∈l
 · obtain ⟨i,hi,he⟩:=aY.1 hx
   obtain ⟨k,h1,h2,h3⟩:=E2 (c:=fun i=>l[i]! =false) ⟨i,hi,he⟩
   have:=key.1 k h1 h2 h3
   rw [show ((0:Nat):Int)=0 from rfl] at this;rw [this];have e:decide ((0:Int)<=(k:Int))=true:=by simp
   simp [hx]
 have:=key.2 fun i hi he=>hx (aY.2 ⟨i,hi,he⟩)
 rw [show ((0:Nat):Int)=0 from rfl] at this;rw [this];simp [hx]
structure fJ (s:bD):Prop where
 n1:1<=s.ac.length
 n2:s.ac.length<=200
 ul:s.ae.length=s.ac.length
 fr: ∀x∈s.af,0<=x/\x<s.ac.length
 fd:s.af.Nodup
 uf: ∀i,i<s.ac.length->(s.ae[i]! =true↔(i:Int)∉s.af)
 us: ∀i,i<s.ac.length->0<=s.ac[i]!/\s.ac[i]!<=1000000/\(s.ae[i]! =true->1<=s.ac[i]!)
theorem aAL (ac:List Int) (ae:List Bool) (fr:List Int) (h1:ac.length<=200) (h2:ae.length=ac.length):
 aG iB (ac,(ac.length:Int),0,ac,ae,fr)=some (.done (if∀i,i<ac.length->0<=ac[i]!/\ac[i]!<=1000000/\(ae[i]! =true->1<=ac[i]!) then 0 else 8)):=by
 have key:=dM (body:=iB) (fun i=>(ac,(ac.length:Int),(i:Int),ac,ae,fr)) ac.length (fun i=> ¬(0<=ac[i]!/\ac[i]!<=1000000/\(ae[i]! =true->1<=ac[i]!))) (r:= .done 8) (e:= .done 0) (fun i hi=>by
  have e1:decide ((i:Int)<(ac.length:Int))=true:=by simp;omega
  have hb:iB (ac,(ac.length:Int),(i:Int),ac,ae,fr)=bif decide (ac[i]!<0) then some (.done (.done 8)) else bif decide (1000000<ac[i]!) then some (.done (.done 8)) else bif ac[i]! ==0 then (bif ae[i]! then some (.done (.done 8)) else some (.next (ac,(ac.length:Int),((i+1:Nat):Int),ac,ae,fr))) else some (.next (ac,(ac.length:Int),((i+1:Nat):Int),ac,ae,fr)):=by
   unfold iB;simp only [e1,cond_true,aE ac i hi,aE ae i (by omega),aB,aU (show i<1000000000 by omega)]
  rw [hb];generalize ac[i]! =u at*
  by_cases a1:u<0
  · simp [a1];omega
  · by_cases a2:1000000<u
    · simp [a1,a2];omega
    by_cases a3:u=0
    · subst a3
      cases ae[i]!<;>simp
    have a4:1<=u:=by omega
    have a5:0<=u:=by omega
    have a6:u<=1000000:=by omega
    simp [a1,a2,eB a3,a4,a5,a6]) (by
  unfold iB
  have:decide ((ac.length:Int)<(ac.length:Int))=false:=by simp
  simp only [this,cond_false])
 by_cases hc: ∀i,i<ac.length->0<=ac[i]!/\ac[i]!<=1000000/\(ae[i]! =true->1<=ac[i]!)
 · rw [if_pos hc]
   exact key.2 fun i hi=>bn.2 (hc i hi)
 rw [if_neg hc]
 simp only [bw] at hc;obtain ⟨i,hi,hx⟩:=hc;exact key.1 ⟨i,hi,by simpa only [bw] using hx⟩
theorem AW (s:bD) (hf:s.af.length<=1000000):tL s=some (if fJ s then 0 else 8):=by
 obtain ⟨ac,ae,fr⟩:=s;dsimp only at hf;unfold tL;simp only [aF]
 by_cases a1:ac.length<1
 · have e:decide ((ac.length:Int)<1)=true:=by simp;omega
   rw [e,if_neg (fun h=>by have:=h.n1;dsimp only at this;omega)];rfl
 have e1:decide ((ac.length:Int)<1)=false:=by simp;omega
 by_cases a2:200<ac.length
 · have e:decide (200<(ac.length:Int))=true:=by simp;omega
   rw [e1,e,if_neg (fun h=>by have:=h.n2;dsimp only at this;omega)];rfl
 have e2:decide (200<(ac.length:Int))=false:=by simp;omega
 by_cases a3:ae.length=ac.length
 case neg=>
  have e:((ae.length:Int) !=(ac.length:Int))=true:=by simp;omega
  rw [e1,e2,e,if_neg (fun h=>a3 h.ul)];rfl
 have e3:((ae.length:Int) !=(ac.length:Int))=false:=by simp;omega
 simp only [e1,e2,e3,cond_false,aV (show ae.length<=1048576 by omega),aB]
 have inner:=aAL ac ae fr (by omega) a3
 have key:=dM (body:=uG ae) (fun k=>(fr,(fr.length:Int),(k:Int),ac,ae,fr,(ac.length:Int),fX ae (fr.take k))) fr.length
  (fun k=>fr[k]!<0\/(ac.length:Int)<=fr[k]!\/(fX ae (fr.take k))[(fr[k]!).toNat]! =true) (r:=8)
  (e:=if false∈fX ae fr then 8 else if∀i,i<ac.length->0<=ac[i]!/\ac[i]!<=1000000/\(ae[i]! =true->1<=ac[i]!) then 0 else 8) (fun k hk=>by
   have f1:decide ((k:Int)<(fr.length:Int))=true:=by simp;omega
   have f2:((fX ae (fr.take k)).length==ae.length)=true:=by rw [pE];simp
   have f3:decide ((0:Int)<=(k:Int))=true:=by simp
   have f4: ∀x:Int,((cL (fX ae (fr.take k)) x true).length==(fX ae (fr.take k)).length)=true:=by intro x;rw [EG];simp
   have f5:fX ae (fr.take (k+1))=cL (fX ae (fr.take k)) fr[k]! true:=by rw [fQ hk,ID]
   unfold uG;simp only [f1,f2,f3,f4,cond_true,beq_self_eq_true,aE fr k hk,aB,aU (show k<1000000000 by omega),f5]
   clear f5;generalize fr[k]! =x
   by_cases b1:x<0
   · simp [b1]
   · by_cases b2:(ac.length:Int)<=x
     · simp [b1,b2]
     simp only [b1,b2,decide_false,cond_false,false_or]
     rw [eA (l:=fX ae (fr.take k)) (i:=x) (by omega) (by rw [pE];omega)]
     simp only [aB];cases (fX ae (fr.take k))[x.toNat]!<;>simp) (by
   have f1:decide ((fr.length:Int)<(fr.length:Int))=false:=by simp
   unfold uG;simp only [f1,cond_false,eg];rw [PA _ (by rw [pE];omega)]
   have f2:((fX ae fr).length==ae.length)=true:=by rw [pE];simp
   simp only [f2,cond_true,aB,aF,inner]
   by_cases hx:false∈fX ae fr
   · simp [hx]
   simp [hx])
 have h0:fX ae (fr.take 0)=ae:=rfl;rw [show ((0:Nat):Int)=0 from rfl,h0] at key
 by_cases bad: ∃k,k<fr.length/\(fr[k]!<0\/(ac.length:Int)<=fr[k]!\/(fX ae (fr.take k))[(fr[k]!).toNat]! =true)
 · rw [key.1 bad,if_neg]
   intro ok;obtain ⟨k,hk,hb⟩:=bad;have hr:=ok.fr fr[k]! (bI hk);dsimp only at hr;rcases hb with hb|hb|hb
   · omega
   · omega
   rw [rE _ _ _ (fun x hx=>(ok.fr x (ck hx)).1) (by omega)] at hb
   have hi:((fr[k]!).toNat:Int)=fr[k]!:=by omega
   rw [hi,Bool.or_eq_true] at hb;rcases hb with hb|hb
   · have:=(ok.uf (fr[k]!).toNat (by show _<ac.length;omega)).1 hb
     rw [hi] at this;exact this (bI hk)
   have hm:fr[k]!∈fr.take k:=by simpa using hb
   obtain ⟨j,h1,h2,h3⟩:=cH.1 hm;exact iW.1 ok.fd j k h1 hk h3
 have good: ∀k,k<fr.length->0<=fr[k]!/\fr[k]!<ac.length/\(fX ae (fr.take k))[(fr[k]!).toNat]! =false:=by
  intro k hk;refine ⟨?_,?_,?_⟩
  · exact Int.not_lt.1 fun h=>bad ⟨k,hk,.inl h⟩
  · exact Int.not_le.1 fun h=>bad ⟨k,hk,.inr (.inl h)⟩
  exact dv _▸fun h=>bad ⟨k,hk,.inr (.inr h)⟩
 rw [key.2 fun k hk hb=>bad ⟨k,hk,hb⟩]
 have rng: ∀x∈fr,0<=x/\x<(ac.length:Int):=by
  intro x hx;obtain ⟨k,hk,rfl⟩:=aY.1 hx;exact ⟨(good k hk).1,(good k hk).2.1⟩
 have g2: ∀k,k<fr.length->ae[(fr[k]!).toNat]! =false/\fr[k]!∉fr.take k:=by
  intro k hk;obtain ⟨c1,c2,c3⟩:=good k hk;rw [rE _ _ _ (fun x hx=>(rng x (ck hx)).1) (by omega),show ((fr[k]!).toNat:Int)=fr[k]! by omega,d6] at c3
  exact ⟨c3.1,by simpa using c3.2⟩
 have nd:fr.Nodup:=iW.2 fun i j hij hj he=>(g2 j hj).2 (cH.2 ⟨i,hij,by omega,he⟩)
 by_cases hx:false∈fX ae fr
 · rw [if_pos hx,if_neg]
   intro ok;obtain ⟨i,hi,he⟩:=aY.1 hx;rw [pE] at hi;rw [rE _ _ _ (fun x hx=>(rng x hx).1) hi,d6] at he
   have h3:(i:Int)∉fr:=by simpa using he.2
   have:=(ok.uf i (by show _<ac.length;omega)).2 h3
   rw [show ae[i]! =false from he.1] at this;cases this
 rw [if_neg hx]
 by_cases hu: ∀i,i<ac.length->0<=ac[i]!/\ac[i]!<=1000000/\(ae[i]! =true->1<=ac[i]!)
 · rw [if_pos hu,if_pos]
   refine ⟨by show 1<=ac.length;omega,by show ac.length<=200;omega,a3,rng,nd,fun i hi=>?_,hu⟩
   dsimp only at hi ⊢;constructor
   · intro h1 h2
     obtain ⟨k,hk,he⟩:=aY.1 h2
     have:=(g2 k hk).1
     rw [he,show ((i:Int)).toNat=i by omega,h1] at this
     cases this
   intro h1
   refine cb fun h2=>hx ?_
   refine aY.2 ⟨i,by rw [pE];omega,?_⟩
   rw [rE _ _ _ (fun x hx=>(rng x hx).1) (by omega)]
   have:ae[i]! =false:=by simpa using h2
   rw [this];simpa using h1
 rw [if_neg hu,if_neg]
 intro ok;exact hu ok.us
theorem fJ.fl {s:bD} (ok:fJ s):s.af.length<=s.ac.length:=by
 have h:=aAK s.ac.length (s.af.map fb) (by
  rw [iW];intro i j hij hj he;rw [c7] at hj;have e: ∀k,k<s.af.length->(s.af.map fb)[k]! =(s.af[k]!).toNat:=by
   intro k hk;rw [getElem!_pos _ k (by simpa using hk),List.getElem_map,getElem!_pos s.af k hk]
  rw [e i (by omega),e j hj] at he
  have h1:=(ok.fr _ (bI (show i<s.af.length by omega))).1
  have h2:=(ok.fr _ (bI hj)).1;exact iW.1 ok.fd i j hij hj (by omega)) (by
  intro x hx;obtain ⟨y,hy,rfl⟩:=cj.1 hx
  have:=ok.fr y hy
  omega)
 rwa [c7] at h
def AD (s:bD) (h:Int×Int):Prop:=0<=h.1/\h.1<s.ac.length/\s.ae[h.1.toNat]! =true/\s.ac[h.1.toNat]! =h.2
def gD (s:bD) (h:Int×Int):bD:=⟨s.ac,s.ae.set h.1.toNat false,s.af++[h.1]⟩
def dI (s:bD):Nat:=(s.af[s.af.length-1]!).toNat
def DV (s:bD):Prop:=0<s.af.length/\s.ac[dI s]!<1000000
def iI (s:bD):bD:=⟨s.ac.set (dI s) (s.ac[dI s]!+1),s.ae.set (dI s) true,s.af.take (s.af.length-1)⟩
def nA (s:bD):Int×Int:=((dI s:Int),s.ac[dI s]!+1)
theorem L5 {s:bD} (ok:fJ s) (h:Int×Int):EY s h=some (decide (AD s h),0):=by
 have hl:=ok.fl;have hn:=ok.n2;have hu:=ok.ul;unfold EY AD;rw [AW s (by omega),if_pos ok]
 simp only [aB,show ((0:Int) !=0)=false from rfl,cond_false,aF]
 by_cases a1:0<=h.1
 · by_cases a2:h.1<s.ac.length
   · have e2:decide (h.1<(s.ae.length:Int))=true:=by simp;omega
     simp only [a1,a2,e2,decide_true,cond_true,eA (l:=s.ae) a1 (by omega),eA (l:=s.ac) a1 a2,aB,true_and]
     generalize s.ac[h.1.toNat]! =u;cases s.ae[h.1.toNat]!<;>simp [aCg]
   have e2:decide (h.1<(s.ae.length:Int))=false:=by simp;omega
   simp [a1,a2,e2]
 simp [a1]
theorem UU {s:bD} (ok:fJ s) {h:Int×Int} (lv:AD s h):F1 s h=some (gD s h,0):=by
 have hl:=ok.fl;have hn:=ok.n2;have hu:=ok.ul;unfold F1;rw [L5 ok,decide_eq_true lv];unfold wL;obtain ⟨l1,l2,l3,l4⟩:=lv;have e1:cL s.ae h.1 false=s.ae.set h.1.toNat false:=rfl
 simp only [aB,show ((0:Int) !=0)=false from rfl,cond_false,bz,aV (show s.ac.length<=1048576 by omega),aV (show s.ae.length<=1048576 by omega),aV (show s.af.length<=1048576 by omega),
  dB (show s.af.length+[h.1].length<=1048576 by simp;omega),eA (l:=s.ae) l1 (by omega),e1,gD]
theorem AX {s:bD} (ok:fJ s):oB s=some s:=by
 have hl:=ok.fl;have hn:=ok.n2;have hu:=ok.ul;unfold oB;simp only [aB,aV (show s.ac.length<=1048576 by omega),aV (show s.ae.length<=1048576 by omega),aV (show s.af.length<=1048576 by omega)]
theorem PB {s:bD} (ok:fJ s) {h:Int×Int} (lv:AD s h):rD s h=some (gD s h):=by
 have hl:=ok.fl;have hn:=ok.n2;have hu:=ok.ul;obtain ⟨l1,l2,l3,l4⟩:=lv;unfold rD;rw [AX ok];have e1:cL s.ae h.1 false=s.ae.set h.1.toNat false:=rfl;simp only [aB,dB (show s.af.length+[h.1].length<=1048576 by simp;omega),eA (l:=s.ae) l1 (by omega),e1,gD]
theorem aFH {s:bD} (ok:fJ s) {h:Int×Int} (lv:AD s h):fJ (gD s h):=by
 have hl:=ok.fl;have hn:=ok.n2;have hu:=ok.ul;obtain ⟨l1,l2,l3,l4⟩:=lv;have nf:h.1∉s.af:=by
  have:=(ok.uf h.1.toNat (by omega)).1 l3
  rwa [show (h.1.toNat:Int)=h.1 by omega] at this
 refine ⟨ok.n1,ok.n2,?_,?_,?_,?_,?_⟩
 · show (s.ae.set _ _).length=_;rw [bm];exact hu
 · intro x hx
   rcases dw.1 hx with hx|hx
   · exact ok.fr x hx
   rw [dh] at hx;subst hx;exact ⟨l1,l2⟩
 · show (s.af++[h.1]).Nodup
   rw [List.nodup_append];refine ⟨ok.fd,by simp,?_⟩
   intro x hx y hy he;rw [dh] at hy;subst hy;subst he;exact nf hx
 · intro i hi
   change i<s.ac.length at hi;show (s.ae.set h.1.toNat false)[i]! =true↔(i:Int)∉s.af++[h.1];rw [aZ,dw,dh]
   by_cases e:i=h.1.toNat
   · rw [if_pos ⟨e,by omega⟩]
     have:(i:Int)=h.1:=by omega
     simp [this]
   rw [if_neg (fun k=>e k.1),ok.uf i hi]
   have: ¬(i:Int)=h.1:=by omega
   simp [this]
 intro i hi
 change i<s.ac.length at hi;obtain ⟨u1,u2,u3⟩:=ok.us i hi;refine ⟨u1,u2,?_⟩;show (s.ae.set h.1.toNat false)[i]! =true->_;rw [aZ];split
 · intro h;cases h
 exact u3
theorem GB {s:bD} (ok:fJ s) (h:0<s.af.length):dI s<s.ac.length/\(dI s:Int)=s.af[s.af.length-1]!/\(dI s:Int)∈s.af:=by
 have hm:=bI (l:=s.af) (i:=s.af.length-1) (by omega)
 have:=ok.fr _ hm
 have e:(dI s:Int)=s.af[s.af.length-1]!:=by unfold dI;omega
 refine ⟨by omega,e,by rw [e];exact hm⟩
theorem mF {α:Type} (l:List α) (n:Nat) (h:n<=l.length):gW l 0 (n:Int)=some (l.take n):=by
 unfold gW;rw [if_pos ⟨by omega,by omega,by omega⟩]
 simp
theorem JO {s:bD} (ok:fJ s):F2 s=some (if DV s then (iI s,nA s,0) else (⟨[],[],[]⟩,(0,0),18)):=by
 have hl:=ok.fl;have hn:=ok.n2;have hu:=ok.ul;unfold F2 DV;rw [AW s (by omega),if_pos ok]
 simp only [aB,show ((0:Int) !=0)=false from rfl,cond_false,aF]
 by_cases a1:0<s.af.length
 · obtain ⟨n1,n2,n3⟩:=GB ok a1
   have e1:((s.af.length:Int)==0)=false:=eB (by omega)
   have e2:aA .i64 ((s.af.length:Int) -1)=((s.af.length-1:Nat):Int):=qB (by omega) (by omega)
   unfold yF;simp only [e1,cond_false,aF,e2,mF s.af (s.af.length-1) (by omega),aB,aV (show (s.af.take (s.af.length-1)).length<=1048576 by rw [cm];omega),
    aE s.af (s.af.length-1) (by omega),<- n2,aE s.ac (dI s) n1]
   obtain ⟨u1,u2,u3⟩:=ok.us (dI s) n1
   by_cases a2:s.ac[dI s]! =1000000
   · have e3:(s.ac[dI s]! ==1000000)=true:=by simpa using a2
     rw [e3,if_neg (by omega)];rfl
   have e3:(s.ac[dI s]! ==1000000)=false:=by simpa using a2
   have e4:aA .i64 (s.ac[dI s]!+1)=s.ac[dI s]!+1:=by rw [wi];omega
   rw [e3,if_pos (by omega)]
   simp only [cond_false,aV (show s.ac.length<=1048576 by omega),aV (show s.ae.length<=1048576 by omega),aB,aE s.ae (dI s) (by omega),aE s.ac (dI s) n1,e4,yP,
    aE (s.ac.set (dI s) (s.ac[dI s]!+1)) (dI s) (by rw [bm];exact n1),aZ,n1,and_self,if_true,iI,nA]
 have e1:((s.af.length:Int)==0)=true:=eI (by omega)
 rw [e1,if_neg (fun h=>a1 h.1)];rfl
theorem uY {s:bD} (ok:fJ s):gZ s=some (decide (DV s)):=by
 have hl:=ok.fl;have hn:=ok.n2;have hu:=ok.ul;unfold gZ DV;simp only [aF]
 by_cases a1:0<s.af.length
 · obtain ⟨n1,n2,n3⟩:=GB ok a1
   have e1:decide ((0:Int)<(s.af.length:Int))=true:=by simp;omega
   have e2:aA .i64 ((s.af.length:Int) -1)=((s.af.length-1:Nat):Int):=qB (by omega) (by omega)
   simp only [e1,e2,cond_true,aE s.af (s.af.length-1) (by omega),aB,<- n2,aE s.ac (dI s) n1,a1,true_and]
 have e1:decide ((0:Int)<(s.af.length:Int))=false:=decide_eq_false (by omega)
 rw [e1];simp [a1]
theorem PC {s:bD} (ok:fJ s) (h:DV s):AA s=some (iI s,nA s):=by
 have hl:=ok.fl;have hn:=ok.n2;have hu:=ok.ul;obtain ⟨a1,a2⟩:=h;obtain ⟨n1,n2,n3⟩:=GB ok a1;obtain ⟨u1,u2,u3⟩:=ok.us (dI s) n1;unfold AA;rw [AX ok];have e2:aA .i64 ((s.af.length:Int) -1)=((s.af.length-1:Nat):Int):=qB (by omega) (by omega)
 have e4:aA .i64 (s.ac[dI s]!+1)=s.ac[dI s]!+1:=by rw [wi];omega
 simp only [aB,aF,e2,aE s.af (s.af.length-1) (by omega),mF s.af (s.af.length-1) (by omega),<- n2,aE s.ac (dI s) n1,aE s.ae (dI s) (by omega),e4,yP,
  aE (s.ac.set (dI s) (s.ac[dI s]!+1)) (dI s) (by rw [bm];exact n1),aZ,n1,and_self,if_true,iI,nA,Int.toNat_natCast]
theorem aFI {s:bD} (ok:fJ s) (h:DV s):fJ (iI s):=by
 have hl:=ok.fl;have hn:=ok.n2;have hu:=ok.ul;obtain ⟨a1,a2⟩:=h;obtain ⟨n1,n2,n3⟩:=GB ok a1;have mt: ∀x:Int,x∈s.af.take (s.af.length-1)↔(x∈s.af/\x≠(dI s:Int)):=by
  intro x;rw [cH];constructor
  · rintro ⟨i,h1,h2,rfl⟩
    refine ⟨bI h2,?_⟩;rw [n2];exact iW.1 ok.fd i (s.af.length-1) h1 (by omega)
  rintro ⟨h1,h2⟩
  obtain ⟨i,hi,rfl⟩:=aY.1 h1;refine ⟨i,?_,hi,rfl⟩;refine cb fun hc=>h2 ?_
  rw [n2,show i=s.af.length-1 by omega]
 refine ⟨?_,?_,?_,?_,?_,?_,?_⟩
 · show 1<=(s.ac.set _ _).length;rw [bm];exact ok.n1
 · show (s.ac.set _ _).length<=200;rw [bm];exact ok.n2
 · show (s.ae.set _ _).length=(s.ac.set _ _).length;rw [bm,bm];exact hu
 · intro x hx
   show 0<=x/\x<((s.ac.set _ _).length:Int);rw [bm];exact ok.fr x ((mt x).1 hx).1
 · exact ok.fd.sublist (List.take_sublist _ _)
 · intro i hi
   change i<(s.ac.set _ _).length at hi;rw [bm] at hi;show (s.ae.set (dI s) true)[i]! =true↔(i:Int)∉s.af.take (s.af.length-1);rw [aZ,mt]
   by_cases e:i=dI s
   · rw [if_pos ⟨e,by omega⟩]
     simp [e]
   rw [if_neg (fun k=>e k.1),ok.uf i hi]
   have:(i:Int)≠(dI s:Int):=by omega
   simp [this]
 intro i hi
 change i<(s.ac.set _ _).length at hi;rw [bm] at hi;obtain ⟨u1,u2,u3⟩:=ok.us i hi;show 0<=(s.ac.set (dI s) (s.ac[dI s]!+1))[i]!/\(s.ac.set (dI s) (s.ac[dI s]!+1))[i]!<=1000000/\((s.ae.set (dI s) true)[i]! =true->1<=(s.ac.set (dI s) (s.ac[dI s]!+1))[i]!);rw [aZ,aZ]
 by_cases e:i=dI s
 · subst e
   rw [if_pos ⟨rfl,n1⟩];refine ⟨by omega,by omega,fun _=>by omega⟩
 rw [if_neg (fun k=>e k.1),if_neg (fun k=>e k.1)]
 exact ⟨u1,u2,u3⟩
abbrev Ev:=Int×Int×Int×Int×Int
abbrev Ev.at (x:Ev):Int×Int:=(x.1,x.2.1)
abbrev Ev.num (x:Ev):Int:=x.2.2.1
abbrev Ev.ix (x:Ev):Int:=x.2.2.2.1
abbrev Ev.n (x:Ev):Nat:=x.2.2.2.1.toNat
theorem aWv {x:Ev} {k:Nat} (h:x.ix<(k:Int)) (h0:0<=x.ix):x.n<k:=by
 show x.ix.toNat<k;omega
theorem aWw {x y:Ev} (h0:0<=x.ix) (h1:0<=y.ix) (h:x.ix≠y.ix):x.n≠y.n:=by
 show x.ix.toNat≠y.ix.toNat
 omega
def dY (x y:Ev):Prop:=IB (x.1,x.2.1) (y.1,y.2.1)<0\/(IB (x.1,x.2.1) (y.1,y.2.1)=0/\x.2.2.1<y.2.2.1)
theorem aCh {a b:Int×Int}:IB a b<0↔a.1*b.2<b.1*a.2:=by
 unfold IB;rcases gP (a.1*b.2) (b.1*a.2) with ⟨h,e⟩|⟨h,e⟩|⟨h,e⟩<;>rw [e]<;>constructor<;>intro<;>omega
theorem aCi {a b:Int×Int}:IB a b=0↔a.1*b.2=b.1*a.2:=by
 unfold IB;rcases gP (a.1*b.2) (b.1*a.2) with ⟨h,e⟩|⟨h,e⟩|⟨h,e⟩<;>rw [e]<;>constructor<;>intro<;>omega
theorem tV {x y:Ev} (h:dY x y): ¬dY y x:=by
 unfold dY at*;rw [aCh,aCi] at*;dsimp only at*;rintro (k|k)<;>rcases h with h|h<;>omega
theorem aAM {a1 a2 b1 b2 c1 c2:Int} (ha:1<=a2) (hb:1<=b2) (hc:1<=c2) (h1:a1*b2<=b1*a2) (h2:b1*c2<=c1*b2):a1*c2<=c1*a2:=by
 have e1:a1*b2*c2<=b1*a2*c2:=cd h1 (by omega)
 have e2:b1*c2*a2<=c1*b2*a2:=cd h2 (by omega)
 have e3:(a1*c2)*b2<=(c1*a2)*b2:=by
  have r1:(a1*c2)*b2=a1*b2*c2:=by grind
  have r2:b1*a2*c2=b1*c2*a2:=by grind
  have r3:c1*b2*a2=(c1*a2)*b2:=by grind
  omega
 exact Int.le_of_mul_le_mul_right e3 (by omega)
theorem QZ {a1 a2 b1 b2 c1 c2:Int} (ha:1<=a2) (hb:1<=b2) (hc:1<=c2) (h1:a1*b2<b1*a2) (h2:b1*c2<=c1*b2):a1*c2<c1*a2:=by
 have e1:a1*b2*c2<b1*a2*c2:=dc h1 (by omega)
 have e2:b1*c2*a2<=c1*b2*a2:=cd h2 (by omega)
 have e3:(a1*c2)*b2<(c1*a2)*b2:=by
  have r1:(a1*c2)*b2=a1*b2*c2:=by grind
  have r2:b1*a2*c2=b1*c2*a2:=by grind
  have r3:c1*b2*a2=(c1*a2)*b2:=by grind
  omega
 exact di e3 (by omega)
theorem PD {a1 a2 b1 b2 c1 c2:Int} (ha:1<=a2) (hb:1<=b2) (hc:1<=c2) (h1:a1*b2<=b1*a2) (h2:b1*c2<c1*b2):a1*c2<c1*a2:=by
 have e1:a1*b2*c2<=b1*a2*c2:=cd h1 (by omega)
 have e2:b1*c2*a2<c1*b2*a2:=dc h2 (by omega)
 have e3:(a1*c2)*b2<(c1*a2)*b2:=by
  have r1:(a1*c2)*b2=a1*b2*c2:=by grind
  have r2:b1*a2*c2=b1*c2*a2:=by grind
  have r3:c1*b2*a2=(c1*a2)*b2:=by grind
  omega
 exact di e3 (by omega)
theorem GC {x y z:Ev} (hx:1<=x.2.1) (hy:1<=y.2.1) (hz:1<=z.2.1) (h1: ¬dY y x) (h2: ¬dY z y): ¬dY z x:=by
 unfold dY at*;rw [aCh,aCi] at*;dsimp only at*;have t1:= @aAM x.1 x.2.1 y.1 y.2.1 z.1 z.2.1 hx hy hz;have t2:= @QZ x.1 x.2.1 y.1 y.2.1 z.1 z.2.1 hx hy hz;have t3:= @PD x.1 x.2.1 y.1 y.2.1 z.1 z.2.1 hx hy hz;generalize x.1*y.2.1=p at*;generalize y.1*x.2.1=q at*;generalize y.1*z.2.1=r at*;generalize z.1*y.2.1=s at*;generalize x.1*z.2.1=u at*
 generalize z.1*x.2.1=v at*;have a1:p<=q:=by omega
 have a2:r<=s:=by omega
 have a3:=t1 a1 a2;rintro (k|k)
 · omega
 by_cases b1:p<q
 · have:=t2 b1 a2;omega
 by_cases b2:r<s
 · have:=t3 a1 b2;omega
 omega
structure IE (n:Nat) (x:Ev) (M:Ev->Prop) (H:List Ev) (W:List Int) (i:Nat):Prop where
 lt:i<n
 hn:n<=H.length
 ix: ∀w,w<n->w≠i->0<=(H[w]!).ix/\(H[w]!).ix<W.length/\W[(H[w]!).n]! =(w:Int)/\(H[w]!).ix≠x.ix
 x0:0<=x.ix
 x1:x.ix<W.length
 mem: ∀e,(∃w,w<n/\w≠i/\H[w]! =e)↔M e
theorem IE.move {n:Nat} {x:Ev} {M:Ev->Prop} {H:List Ev} {W:List Int} {i j:Nat} (h:IE n x M H W i) (hj:j<n) (hij:j≠i):IE n x M (H.set i H[j]!) (W.set (H[j]!).n (i:Int)) j:=by
 have hn:=h.hn;have hi:=h.lt;obtain ⟨j1,j2,j3,j4⟩:=h.ix j hj hij;have cell: ∀w,(H.set i H[j]!)[w]! =if w=i then H[j]! else H[w]!:=by
  intro w;rw [aZ]
  by_cases e:w=i
  · rw [if_pos ⟨e,by omega⟩,if_pos e]
  rw [if_neg (fun k=>e k.1),if_neg e]
 refine ⟨hj,by rw [bm];exact hn,?_,h.x0,by rw [bm];exact h.x1,?_⟩
 · intro w hw hwj
   rw [cell,bm]
   by_cases e:w=i
   · rw [if_pos e,aZ,if_pos ⟨rfl,aWv j2 j1⟩]
     exact ⟨j1,j2,by rw [e],j4⟩
   rw [if_neg e,aZ]
   obtain ⟨k1,k2,k3,k4⟩:=h.ix w hw e;refine ⟨k1,k2,?_,k4⟩;rw [if_neg,k3];rintro ⟨c,_⟩;rw [c,j3] at k3;omega
 intro e
 rw [<- h.mem e];constructor
 · rintro ⟨w,hw,hwj,he⟩
   rw [cell] at he
   by_cases c:w=i
   · rw [if_pos c] at he;exact ⟨j,hj,hij,he⟩
   rw [if_neg c] at he;exact ⟨w,hw,c,he⟩
 rintro ⟨w,hw,hwi,he⟩
 by_cases c:w=j
 · refine ⟨i,hi,fun h=>hij h.symm,?_⟩
   rw [cell,if_pos rfl,<- c];exact he
 exact ⟨w,hw,c,by rw [cell,if_neg hwi];exact he⟩
theorem IE.fill {n:Nat} {x:Ev} {M:Ev->Prop} {H:List Ev} {W:List Int} {i:Nat} (h:IE n x M H W i):
 (∀w,w<n->0<=((H.set i x)[w]!).ix/\((H.set i x)[w]!).ix<W.length/\(W.set x.n (i:Int))[((H.set i x)[w]!).n]! =(w:Int))/\
  (∀e,(∃w,w<n/\(H.set i x)[w]! =e)↔(e=x\/M e)):=by
 have hn:=h.hn;have hi:=h.lt;have x0:=h.x0;have x1:=h.x1;have cell: ∀w,(H.set i x)[w]! =if w=i then x else H[w]!:=by
  intro w;rw [aZ]
  by_cases e:w=i
  · rw [if_pos ⟨e,by omega⟩,if_pos e]
  rw [if_neg (fun k=>e k.1),if_neg e]
 constructor
 · intro w hw
   rw [cell]
   by_cases e:w=i
   · rw [if_pos e,aZ,if_pos ⟨rfl,aWv x1 x0⟩]
     exact ⟨x0,x1,by rw [e]⟩
   rw [if_neg e,aZ]
   obtain ⟨k1,k2,k3,k4⟩:=h.ix w hw e;exact ⟨k1,k2,by rw [if_neg (fun c=>aWw k1 x0 k4 c.1),k3]⟩
 intro e
 rw [<- h.mem e];constructor
 · rintro ⟨w,hw,he⟩
   rw [cell] at he
   by_cases c:w=i
   · rw [if_pos c] at he;exact .inl he.symm
   rw [if_neg c] at he;exact .inr ⟨w,hw,c,he⟩
 rintro (he|⟨w,hw,hwi,he⟩)
 · exact ⟨i,hi,by rw [cell,if_pos rfl,he]⟩
 exact ⟨w,hw,by rw [cell,if_neg hwi];exact he⟩
noncomputable def kE (x:Ev):Nat->List Ev->List Int->Nat×List Ev×List Int
 |0,H,W=>(0,H,W)
 |i+1,H,W=>if dY x H[i / 2]! then kE x (i / 2) (H.set (i+1) H[i / 2]!) (W.set (H[i / 2]!).n ((i+1:Nat):Int)) else (i+1,H,W)
termination_by i=>i
decreasing_by omega
noncomputable def iX (n:Nat) (H:List Ev) (i:Nat):Nat:=if 2*i+2<n/\dY H[2*i+2]! H[2*i+1]! then 2*i+2 else 2*i+1
theorem rF (n:Nat) (H:List Ev) (i:Nat):iX n H i=2*i+1\/(iX n H i=2*i+2/\2*i+2<n):=by
 unfold iX;split
 · rename_i h;exact .inr ⟨rfl,h.1⟩
 exact .inl rfl
noncomputable def eE (n:Nat) (x:Ev) (i:Nat) (H:List Ev) (W:List Int):Nat×List Ev×List Int:=
 if _h:2*i+1<n then
  if dY H[iX n H i]! x then eE n x (iX n H i) (H.set i H[iX n H i]!) (W.set (H[iX n H i]!).n (i:Int)) else (i,H,W)
 else (i,H,W)
termination_by n-i
decreasing_by
 rcases rF n H i with h|h<;>omega
structure IK (n:Nat) (H:List Ev) (i:Nat):Prop where
 den: ∀w,w<n->1<=(H[w]!).2.1
 ord: ∀k,0<k->k<n->k≠i->(k-1) / 2≠i-> ¬dY H[k]! H[(k-1) / 2]!
 grand:0<i-> ∀k,0<k->k<n->(k-1) / 2=i-> ¬dY H[k]! H[(i-1) / 2]!
theorem M2 {n : Nat} {x : Ev} {M : Ev -> Prop} (dx : 1 <= x.2.1) : ∀ (i : Nat) (H : List Ev) (W : List Int), IE n x M H W i -> IK n H i ->
    ∃ j H1 W1, kE x i H W = (j, H1, W1) /\ IE n x M H1 W1 j /\ IK n H1 j /\ H1.length = H.length /\ W1.length = W.length /\ (0 < j -> ¬ dY x H1[(j - 1) / 2]!) /\
      (∀ k, n <= k -> H1[k]! = H[k]!) /\ (∀ k, (∀ w, w < n -> w ≠ i -> (H[w]!).n ≠ k) -> W1[k]! = W[k]!) /\
      ((∀ k, 0 < k -> k < n -> (k - 1) / 2 = i -> ¬ dY H[k]! x) -> ∀ k, 0 < k -> k < n -> (k - 1) / 2 = j -> ¬ dY H1[k]! x)
  | 0, H, W, h, o => ⟨0, H, W, by rw [kE], h, o, rfl, rfl, fun h => by omega, fun _ _ => rfl, fun _ _ => rfl, fun h => h⟩
  | i + 1, H, W, h, o => by
    rw [kE]
    by_cases hl : dY x H[i / 2]!
    · rw [if_pos hl]
      have hi := h.lt
      have hn := h.hn
      have hp : i / 2 < n := by omega
      have hne : i / 2 ≠ i + 1 := by omega
      have hm := h.move hp hne
      have cell : ∀ w, (H.set (i + 1) H[i / 2]!)[w]! = if w = i + 1 then H[i / 2]! else H[w]! := by
        intro w
        rw [aZ]
        by_cases e : w = i + 1
        · rw [if_pos ⟨e, by omega⟩, if_pos e]
        rw [if_neg (fun k => e k.1), if_neg e]
      have o' : IK n (H.set (i + 1) H[i / 2]!) (i / 2) := by
        refine ⟨?_, ?_, ?_⟩
        · intro w hw
          rw [cell]
          split
          · exact o.den _ hp
          exact o.den _ hw
        · intro k k0 kn k1 k2
          rw [cell, cell]
          by_cases e : k = i + 1
          · subst e; exact absurd (by omega) k2
          rw [if_neg e]
          by_cases e2 : (k - 1) / 2 = i + 1
          · rw [if_pos e2]
            have := o.grand (by omega) k k0 kn e2
            rwa [show (i + 1 - 1) / 2 = i / 2 by omega] at this
          rw [if_neg e2]
          exact o.ord k k0 kn e e2
        intro p0 k k0 kn k1
        rw [cell, cell, if_neg (show (i / 2 - 1) / 2 ≠ i + 1 by omega)]
        have up1 : ¬ dY H[i / 2]! H[(i / 2 - 1) / 2]! := o.ord (i / 2) p0 hp hne (by omega)
        by_cases e : k = i + 1
        · rw [if_pos e]; exact up1
        rw [if_neg e]
        have up2 : ¬ dY H[k]! H[i / 2]! := by
          have := o.ord k k0 kn e (by omega)
          rwa [k1] at this
        exact GC (o.den _ (by omega)) (o.den _ hp) (o.den _ kn) up1 up2
      obtain ⟨j, H1, W1, e1, e3, e4, e5, e6, e7, e8, e9, e10⟩ := M2 dx (i / 2) _ _ hm o'
      rw [bm] at e5 e6
      refine ⟨j, H1, W1, e1, e3, e4, e5, e6, e7, ?_, ?_, ?_⟩
      · intro k hk
        rw [e8 k hk, cell, if_neg (by omega)]
      · intro k hk
        rw [e9 k ?_, aZ, if_neg (fun c => hk (i / 2) hp hne c.1.symm)]
        intro w hw hwp
        rw [cell]
        split
        · exact hk (i / 2) hp hne
        rename_i e; exact hk w hw e
      intro _
      refine e10 fun k k0 kn k1 => ?_
      rw [cell]
      by_cases e : k = i + 1
      · rw [if_pos e]; exact tV hl
      rw [if_neg e]
      have up2 : ¬ dY H[k]! H[i / 2]! := by
        have := o.ord k k0 kn e (by omega)
        rwa [k1] at this
      exact GC dx (o.den _ hp) (o.den _ kn) (tV hl) up2
    rw [if_neg hl]
    refine ⟨i + 1, H, W, rfl, h, o, rfl, rfl, fun _ => ?_, fun _ _ => rfl, fun _ _ => rfl, fun h => h⟩
    rwa [show (i + 1 - 1) / 2 = i / 2 by omega]
termination_by i=>i
decreasing_by omega
theorem aDn {n:Nat} {x:Ev} {i:Nat} {H:List Ev} {W:List Int} (h: ∀k,0<k->k<n->(k-1) / 2=i-> ¬dY H[k]! x):eE n x i H W=(i,H,W):=by
 rw [eE];split
 · rename_i hk
   rw [if_neg];rcases rF n H i with e|⟨e,e2⟩
   · rw [e];exact h _ (by omega) hk (by omega)
   rw [e];exact h _ (by omega) e2 (by omega)
 rfl
theorem SG {n : Nat} {x : Ev} {M : Ev -> Prop} (dx : 1 <= x.2.1) : ∀ (d i : Nat) (H : List Ev) (W : List Int), n - i <= d -> IE n x M H W i -> IK n H i -> (0 < i -> ¬ dY x H[(i - 1) / 2]!) ->
    ∃ j H1 W1, eE n x i H W = (j, H1, W1) /\ IE n x M H1 W1 j /\ IK n H1 j /\ H1.length = H.length /\ W1.length = W.length /\ (0 < j -> ¬ dY x H1[(j - 1) / 2]!) /\
      (∀ k, n <= k -> H1[k]! = H[k]!) /\ (∀ k, (∀ w, w < n -> w ≠ i -> (H[w]!).n ≠ k) -> W1[k]! = W[k]!) /\ (∀ k, 0 < k -> k < n -> (k - 1) / 2 = j -> ¬ dY H1[k]! x)
  | 0, i, H, W, hd, h, o, u => by have := h.lt; omega
  | d + 1, i, H, W, hd, h, o, u => by
    have hi := h.lt
    have hn := h.hn
    rw [eE]
    by_cases hk : 2 * i + 1 < n
    · rw [dif_pos hk]
      have kc := rF n H i
      have kn : iX n H i < n := by omega
      have kne : iX n H i ≠ i := by omega
      have kp : (iX n H i - 1) / 2 = i := by omega
      have kb : ∀ k, 0 < k -> k < n -> (k - 1) / 2 = i -> ¬ dY H[k]! H[iX n H i]! := by
        intro k k0 k1 k2
        have kk : k = 2 * i + 1 \/ k = 2 * i + 2 := by omega
        unfold iX
        split
        · rename_i hc
          rcases kk with e | e
          · rw [e]; exact tV hc.2
          rw [e]; exact fun h => tV h h
        rename_i hc
        rcases kk with e | e
        · rw [e]; exact fun h => tV h h
        rw [e] at k1 ⊢; exact fun h => hc ⟨k1, h⟩
      by_cases hl : dY H[iX n H i]! x
      · rw [if_pos hl]
        have hm := h.move kn kne
        have cell : ∀ w, (H.set i H[iX n H i]!)[w]! = if w = i then H[iX n H i]! else H[w]! := by
          intro w
          rw [aZ]
          by_cases e : w = i
          · rw [if_pos ⟨e, by omega⟩, if_pos e]
          rw [if_neg (fun k => e k.1), if_neg e]
        have o' : IK n (H.set i H[iX n H i]!) (iX n H i) := by
          refine ⟨?_, ?_, ?_⟩
          · intro w hw
            rw [cell]
            split
            · exact o.den _ kn
            exact o.den _ hw
          · intro k k0 k1 k2 k3
            rw [cell, cell]
            by_cases e : k = i
            · rw [if_pos e, if_neg (by omega)]
              have := o.grand (by omega) (iX n H i) (by omega) kn kp
              rwa [e]
            rw [if_neg e]
            by_cases e2 : (k - 1) / 2 = i
            · rw [if_pos e2]; exact kb k k0 k1 e2
            rw [if_neg e2]; exact o.ord k k0 k1 e e2
          intro _ k k0 k1 k2
          rw [cell, cell, if_pos kp, if_neg (by omega)]
          have := o.ord k k0 k1 (by omega) (by omega)
          rwa [k2] at this
        obtain ⟨j, H1, W1, e1, e3, e4, e5, e6, e7, e8, e9, e10⟩ := SG dx d (iX n H i) _ _ (by omega) hm o' (by
          intro _
          rw [cell, if_pos kp]
          exact tV hl)
        rw [bm] at e5 e6
        refine ⟨j, H1, W1, e1, e3, e4, e5, e6, e7, ?_, ?_, e10⟩
        · intro k hk
          rw [e8 k hk, cell, if_neg (by omega)]
        intro k hk
        rw [e9 k ?_, aZ, if_neg (fun c => hk (iX n H i) kn kne c.1.symm)]
        intro w hw hwp
        rw [cell]
        split
        · exact hk (iX n H i) kn kne
        rename_i e; exact hk w hw e
      rw [if_neg hl]
      refine ⟨i, H, W, rfl, h, o, rfl, rfl, u, fun _ _ => rfl, fun _ _ => rfl, ?_⟩
      intro k k0 k1 k2
      exact GC dx (o.den _ kn) (o.den _ k1) hl (kb k k0 k1 k2)
    rw [dif_neg hk]
    refine ⟨i, H, W, rfl, h, o, rfl, rfl, u, fun _ _ => rfl, fun _ _ => rfl, ?_⟩
    intro k k0 k1 k2
    omega
structure GD (n:Nat) (x:Ev) (M:Ev->Prop) (K:Nat->Prop) (H:List Ev) (W:List Int) (H1:List Ev) (W1:List Int):Prop where
 hl:H1.length=H.length
 wl:W1.length=W.length
 ix: ∀w,w<n->0<=(H1[w]!).ix/\(H1[w]!).ix<W.length/\W1[(H1[w]!).n]! =(w:Int)
 mem: ∀e,(∃w,w<n/\H1[w]! =e)↔(e=x\/M e)
 ord: ∀k,0<k->k<n-> ¬dY H1[k]! H1[(k-1) / 2]!
 out: ∀k,K k->W1[k]! =W[k]!
theorem UV {n:Nat} {x:Ev} {M:Ev->Prop} {H H1:List Ev} {W W1:List Int} {i j:Nat} (h1:IE n x M H1 W1 j) (o1:IK n H1 j) (hl:H1.length=H.length) (wl:W1.length=W.length)
 (u:0<j-> ¬dY x H1[(j-1) / 2]!) (kd: ∀k,0<k->k<n->(k-1) / 2=j-> ¬dY H1[k]! x) (out: ∀k,(∀w,w<n->w≠i->(H[w]!).n≠k)->W1[k]! =W[k]!):
 GD n x M (fun k=>k≠x.n/\ ∀w,w<n->w≠i->(H[w]!).n≠k) H W (H1.set j x) (W1.set x.n (j:Int)):=by
 have hn:=h1.hn;have hj:=h1.lt;have f:=h1.fill;have cell: ∀w,(H1.set j x)[w]! =if w=j then x else H1[w]!:=by
  intro w;rw [aZ]
  by_cases e:w=j
  · rw [if_pos ⟨e,by omega⟩,if_pos e]
  rw [if_neg (fun k=>e k.1),if_neg e]
 refine ⟨by rw [bm];exact hl,by rw [bm];exact wl,?_,f.2,?_,?_⟩
 · rw [<- wl];exact f.1
 · intro k k0 kn
   rw [cell,cell]
   by_cases e:k=j
   · rw [if_pos e,if_neg (by omega),e];exact u (by omega)
   rw [if_neg e]
   by_cases e2:(k-1) / 2=j
   · rw [if_pos e2];exact kd k k0 kn e2
   rw [if_neg e2];exact o1.ord k k0 kn e e2
 rintro k ⟨k1,k2⟩
 rw [aZ,if_neg (fun c=>k1 c.1)]
 exact out k k2
noncomputable def cS (n:Nat) (x:Ev) (i:Nat) (H:List Ev) (W:List Int):List Ev×List Int:=
 let u:=kE x i H W
 let d:=eE n x u.1 u.2.1 u.2.2
 (d.2.1.set d.1 x,d.2.2.set x.n (d.1:Int))
theorem E4 {n:Nat} {x:Ev} {M:Ev->Prop} (dx:1<=x.2.1) {i:Nat} {H:List Ev} {W:List Int} (h:IE n x M H W i) (o:IK n H i):
 GD n x M (fun k=>k≠x.n/\ ∀w,w<n->w≠i->(H[w]!).n≠k) H W (cS n x i H W).1 (cS n x i H W).2:=by
 obtain ⟨j,H1,W1,e1,e3,e4,e5,e6,e7,e8,e9,e10⟩:=M2 dx i H W h o;obtain ⟨k,H2,W2,f1,f3,f4,f5,f6,f7,f8,f9,f10⟩:=SG dx n j H1 W1 (by omega) e3 e4 e7
 have e:cS n x i H W=(H2.set k x,W2.set x.n (k:Int)):=by
  unfold cS;rw [e1];dsimp only;rw [f1]
 rw [e];refine UV f3 f4 (by omega) (by omega) f7 f10 ?_
 intro c hc;rw [f9 c ?_,e9 c hc];intro w hw hwj hcw;have hm:M H1[w]!:=(e3.mem _).1 ⟨w,hw,hwj,rfl⟩;obtain ⟨v,v1,v2,v3⟩:=(h.mem _).2 hm;exact hc v v1 v2 (by rw [v3];exact hcw)
theorem X9 {n:Nat} {x:Ev} {M:Ev->Prop} (dx:1<=x.2.1) {i:Nat} {H:List Ev} {W:List Int} (h:IE n x M H W i) (o:IK n H i) (hk: ∀k,0<k->k<n->(k-1) / 2=i-> ¬dY H[k]! x):
 cS n x i H W=((kE x i H W).2.1.set (kE x i H W).1 x,(kE x i H W).2.2.set x.n ((kE x i H W).1:Int)):=by
 obtain ⟨j,H1,W1,e1,e3,e4,e5,e6,e7,e8,e9,e10⟩:=M2 dx i H W h o;unfold cS;rw [e1];dsimp only;rw [aDn (e10 hk)]
def tX (x:Ev):Prop:=cQ (x.1,x.2.1)/\tB (x.1,x.2.1)/\0<=x.2.2.1/\x.2.2.1<=1000000
theorem tX.den {x:Ev} (h:tX x):1<=x.2.1:=h.1.1
noncomputable def PE (x y:Ev):Int:=if IB (x.1,x.2.1) (y.1,y.2.1)≠0 then IB (x.1,x.2.1) (y.1,y.2.1) else lH x.2.2.1 y.2.2.1
theorem JP (x y:Ev):PE x y<0↔dY x y:=by
 unfold PE dY
 by_cases h:IB (x.1,x.2.1) (y.1,y.2.1)=0
 · rw [if_neg (by simpa using h),h]
   rcases gP x.2.2.1 y.2.2.1 with ⟨h1,e⟩|⟨h1,e⟩|⟨h1,e⟩<;>rw [e]<;>constructor<;>intro<;>omega
 rw [if_pos h];constructor<;>intro<;>omega
theorem dX {x y:Ev} (hx:tX x) (hy:tX y):cN x y=some (PE x y):=by
 unfold cN PE;rw [aFC hx.2.1 hy.2.1,if_pos ⟨hx.1,hy.1⟩];simp only [aB,mE,GA]
theorem qC {x y:Ev} (hx:tX x) (hy:tX y):eU x y=some (decide (dY x y)):=by
 unfold eU dY;rw [O5 hx.2.1 hy.2.1];simp only [aB];generalize IB (x.1,x.2.1) (y.1,y.2.1)=c
 by_cases h1:c<0
 · simp [h1]
 by_cases h2:c=0
 · subst h2;simp
 simp only [h1,eB h2,h2,decide_false,cond_false,false_or,false_and]
theorem K7 {x y:Ev}:decide (PE x y<0)=decide (dY x y):=by simp only [JP]
theorem UW {x y:Ev}:decide (0<=PE x y)=!decide (dY x y):=by
 have:=JP x y
 by_cases h:dY x y
 · have h2:=this.2 h
   have: ¬0<=PE x y:=by omega
   simp [h,this]
 have h2: ¬PE x y<0:=fun k=>h (this.1 k)
 have:0<=PE x y:=by omega
 simp [h,this]
structure oP (n:Nat) (H:List Ev) (W:List Int):Prop where
 hn:n<=H.length
 hb:H.length<=1000000
 ev: ∀w,w<n->tX H[w]!/\0<=(H[w]!).ix/\(H[w]!).ix<W.length
theorem oP.move {n:Nat} {H:List Ev} {W:List Int} (c:oP n H W) {i j:Nat} (_hi:i<n) (hj:j<n) (k:Nat) (v:Int):oP n (H.set i H[j]!) (W.set k v):=by
 have hn:=c.hn;refine ⟨by rw [bm];exact hn,by rw [bm];exact c.hb,?_⟩
 intro w hw;rw [aZ,bm];split
 · exact c.ev j hj
 exact c.ev w hw
theorem M3 {H:List Ev} {W:List Int} {x:Ev} {u fr:List Int} {us:List Bool} {i:Nat} (hi:i<H.length) (h0:0<=x.ix) (h1:x.ix<W.length):
 cD (u,us,fr,(i:Int),x.1,x.2.1,x.2.2.1,x.2.2.2.1,x.2.2.2.2,H,W)=some (H.set i x,W.set x.n (i:Int)):=by
 unfold cD;have e1:=aE H i hi;have e2:=eA (l:=W) h0 h1;simp only [e1,e2,aB,EG,beq_self_eq_true,cond_true];rfl
theorem M4 {n cap:Nat} {H:List Ev} {W:List Int} {x:Ev} {u fr:List Int} {us:List Bool} {i:Nat} (hi:i<n) (hn:n<=H.length) (h0:0<=x.ix) (h1:x.ix<W.length):
 cC (u,us,fr,n,cap,(i:Int),x.1,x.2.1,x.2.2.1,x.2.2.2.1,x.2.2.2.2,H,W)=some (H.set i x,W.set x.n (i:Int)):=by
 unfold cC;have e1:=aE (H.take n) i (by rw [cm];omega)
 have e2:=eA (l:=W) h0 h1;simp only [e1,e2,aB,EG,beq_self_eq_true,cond_true];rfl
theorem wM {i:Nat} (h:i<1000000000):aA .i64 (d5 (aA .i64 (((i+1:Nat):Int) -1)) 2)=((i / 2:Nat):Int):=by
 have e:aA .i64 (((i+1:Nat):Int) -1)=(i:Int):=by rw [wi];omega
 rw [e,df (by omega),wi];omega
theorem AY {i:Nat} (h:i<1000000000):aA .i64 ((aA .i64 (2*(i:Int)))+1)=((2*i+1:Nat):Int):=by
 have e:aA .i64 (2*(i:Int))=((2*i:Nat):Int):=by rw [wi];omega
 rw [e,wi];omega
theorem E5 {n:Nat} {x:Ev}: ∀{i:Nat} {H:List Ev} {W:List Int} {j:Nat} {H1:List Ev} {W1:List Int},oP n H W->i<n->kE x i H W=(j,H1,W1)-> ∀w,w<n->tX H1[w]!/\0<=(H1[w]!).ix/\(H1[w]!).ix<W.length
 |0,H,W,j,H1,W1,c,hi,e=>by
  rw [kE] at e;injection e with e1 e;injection e with e2 e3;subst e2;exact c.ev
 |i+1,H,W,j,H1,W1,c,hi,e=>by
  rw [kE] at e;split at e
  · have:=E5 (c.move hi (show i / 2<n by omega) (H[i / 2]!).n ((i+1:Nat):Int)) (by omega) e
    rw [bm] at this;exact this
  injection e with e1 e;injection e with e2 e3
  subst e2;exact c.ev
termination_by i=>i
decreasing_by omega
theorem aAN {c0:List Int×List Bool×List Int×Int×Int×Int×Int×Int×Int×List Ev×List Int} {n i:Nat} {H:List Ev} {W:List Int} {u fr:List Int} {us:List Bool} {x:Ev}
 (c:oP n H W) (hn:H.length=n) (hi:i<n) (hx:tX x) (x0:0<=x.ix) (x1:x.ix<W.length) (l1:c0.2.2.2.2.2.2.2.2.2.1.length=n) (l2:c0.2.2.2.2.2.2.2.2.2.2.length=W.length):
 gL c0 ((i:Int),((2*i+1:Nat):Int),H,W,u,us,fr,x)=
  some (if 2*i+1<n/\dY H[iX n H i]! x then .next (((iX n H i:Nat):Int),((2*iX n H i+1:Nat):Int),H.set i H[iX n H i]!,W.set (H[iX n H i]!).n (i:Int),u,us,fr,x)
   else .done (.done (H.set i x,W.set x.n (i:Int)))):=by
 have hb:=c.hb;have fin:(cD (u,us,fr,(i:Int),x.1,x.2.1,x.2.2.1,x.2.2.2.1,x.2.2.2.2,H,W))=some (H.set i x,W.set x.n (i:Int)):=M3 (by omega) x0 x1
 have ln1:(H.set i x).length=c0.2.2.2.2.2.2.2.2.2.1.length:=by rw [bm];omega
 have ln2:(W.set x.n (i:Int)).length=c0.2.2.2.2.2.2.2.2.2.2.length:=by rw [bm];omega
 unfold gL;simp only [aF,hn,fin,aB,ln1,ln2,beq_self_eq_true,cond_true]
 by_cases h1:2*i+1<n
 · have e1:decide (((2*i+1:Nat):Int)<(n:Int))=true:=by simp;omega
   have e2:aA .i64 (((2*i+1:Nat):Int)+1)=((2*i+2:Nat):Int):=aU (by omega)
   obtain ⟨ok1,a1,a2⟩:=c.ev (2*i+1) h1;have g1:=aE H (2*i+1) (by omega)
   have s1:(cD (u,us,fr,(i:Int),(H[2*i+1]!).1,(H[2*i+1]!).2.1,(H[2*i+1]!).2.2.1,(H[2*i+1]!).2.2.2.1,(H[2*i+1]!).2.2.2.2,H,W))=some (H.set i H[2*i+1]!,W.set (H[2*i+1]!).n (i:Int)):=M3 (by omega) a1 a2
   simp only [e1,e2,cond_true,g1,aB,s1,dX ok1 hx,UW,AY (show 2*i+1<1000000000 by omega)]
   by_cases h2:2*i+2<n
   · have e3:decide (((2*i+2:Nat):Int)<(n:Int))=true:=by simp;omega
     obtain ⟨ok2,b1,b2⟩:=c.ev (2*i+2) h2;have g2:=aE H (2*i+2) (by omega)
     have s2:(cD (u,us,fr,(i:Int),(H[2*i+2]!).1,(H[2*i+2]!).2.1,(H[2*i+2]!).2.2.1,(H[2*i+2]!).2.2.2.1,(H[2*i+2]!).2.2.2.2,H,W))=some (H.set i H[2*i+2]!,W.set (H[2*i+2]!).n (i:Int)):=M3 (by omega) b1 b2
     simp only [e3,cond_true,g2,aB,s2,dX ok2 hx,dX ok2 ok1,K7,UW,AY (show 2*i+2<1000000000 by omega)]
     by_cases h3:dY H[2*i+2]! H[2*i+1]!
     · have k:iX n H i=2*i+2:=by unfold iX;rw [if_pos ⟨h2,h3⟩]
       rw [k]
       by_cases h4:dY H[2*i+2]! x
       · simp only [h1,h3,h4,decide_true,cond_true,cond_false,bz,and_self,if_true]
       simp only [h1,h3,h4,decide_true,decide_false,cond_true,bv,and_false,if_false]
     have k:iX n H i=2*i+1:=by unfold iX;rw [if_neg (fun h=>h3 h.2)]
     rw [k]
     by_cases h4:dY H[2*i+1]! x
     · simp only [h1,h3,h4,decide_true,decide_false,cond_false,bz,and_self,if_true]
     simp only [h1,h3,h4,decide_false,cond_true,cond_false,bv,and_false,if_false]
   have e3:decide (((2*i+2:Nat):Int)<(n:Int))=false:=by simp;omega
   have k:iX n H i=2*i+1:=by unfold iX;rw [if_neg (fun h=>h2 h.1)]
   rw [k];simp only [e3,cond_false]
   by_cases h4:dY H[2*i+1]! x
   · simp only [h1,h4,decide_true,cond_false,bz,and_self,if_true]
   simp only [h1,h4,decide_false,cond_true,bv,and_false,if_false]
 have e1:decide (((2*i+1:Nat):Int)<(n:Int))=false:=by simp;omega
 rw [if_neg (fun h=>h1 h.1),e1];rfl
theorem C4 {c0 : List Int × List Bool × List Int × Int × Int × Int × Int × Int × Int × List Ev × List Int} {n : Nat} {u fr : List Int} {us : List Bool} {x : Ev} (hx : tX x) (x0 : 0 <= x.ix) (l1 : c0.2.2.2.2.2.2.2.2.2.1.length = n) :
    ∀ (d i : Nat) (H : List Ev) (W : List Int), n - i <= d -> oP n H W -> H.length = n -> i < n -> x.ix < W.length -> c0.2.2.2.2.2.2.2.2.2.2.length = W.length ->
      aG (gL c0) ((i : Int), ((2 * i + 1 : Nat) : Int), H, W, u, us, fr, x) = some (.done ((eE n x i H W).2.1.set (eE n x i H W).1 x, (eE n x i H W).2.2.set x.n ((eE n x i H W).1 : Int)))
  | 0, i, H, W, hd, c, hn, hi, x1, l2 => by omega
  | d + 1, i, H, W, hd, c, hn, hi, x1, l2 => by
    have r := aAN (u := u) (us := us) (fr := fr) c hn hi hx x0 x1 l1 l2
    by_cases h : 2 * i + 1 < n /\ dY H[iX n H i]! x
    · rw [if_pos h] at r
      have kc := rF n H i
      have kn : iX n H i < n := by omega
      rw [bA r, C4 hx x0 l1 d (iX n H i) _ _ (by omega) (c.move hi kn _ _) (by rw [bm]; exact hn) kn (by rw [bm]; exact x1) (by rw [bm]; exact l2)]
      have e : eE n x i H W = eE n x (iX n H i) (H.set i H[iX n H i]!) (W.set (H[iX n H i]!).n (i : Int)) := by
        rw [eE, dif_pos h.1, if_pos h.2]
      rw [e]
    rw [if_neg h] at r
    rw [aL r]
    have e : eE n x i H W = (i, H, W) := by
      rw [eE]
      split
      · rename_i h1; rw [if_neg (fun k => h ⟨h1, k⟩)]
      rfl
    rw [e]
theorem PF {c0 : List Int × List Bool × List Int × Int × Int × Int × Int × Int × Int × List Ev × List Int} {n : Nat} {u fr : List Int} {us : List Bool} {x : Ev} (hx : tX x) (x0 : 0 <= x.ix) (l1 : c0.2.2.2.2.2.2.2.2.2.1.length = n) :
    ∀ (i : Nat) (H : List Ev) (W : List Int), oP n H W -> H.length = n -> i < n -> x.ix < W.length -> c0.2.2.2.2.2.2.2.2.2.2.length = W.length ->
      aG (eZ c0) ((i : Int), H, W, u, us, fr, x) = some (cS n x i H W)
  | 0, H, W, c, hn, hi, x1, l2 => by
    have hb := c.hb
    have dn := C4 (u := u) (us := us) (fr := fr) hx x0 l1 n 0 H W (by omega) c hn hi x1 l2
    refine (aL (r := cS n x 0 H W) ?_)
    unfold eZ
    have e1 : decide ((0 : Int) < ((0 : Nat) : Int)) = false := by simp
    simp only [e1, cond_false, AY (show 0 < 1000000000 by omega)]
    rw [dn]
    unfold cS
    rw [kE]
  | i + 1, H, W, c, hn, hi, x1, l2 => by
    have hb := c.hb
    have e1 : decide ((0 : Int) < ((i + 1 : Nat) : Int)) = true := decide_eq_true (by omega)
    have hp : i / 2 < n := by omega
    obtain ⟨ok1, a1, a2⟩ := c.ev (i / 2) hp
    have g1 := aE H (i / 2) (by omega)
    have s1 : (cD (u, us, fr, ((i + 1 : Nat) : Int), (H[i / 2]!).1, (H[i / 2]!).2.1, (H[i / 2]!).2.2.1, (H[i / 2]!).2.2.2.1, (H[i / 2]!).2.2.2.2, H, W)) = some (H.set (i + 1) H[i / 2]!, W.set (H[i / 2]!).n ((i + 1 : Nat) : Int)) := M3 (by omega) a1 a2
    by_cases h : dY x H[i / 2]!
    · have r : eZ c0 (((i + 1 : Nat) : Int), H, W, u, us, fr, x) = some (.next (((i / 2 : Nat) : Int), H.set (i + 1) H[i / 2]!, W.set (H[i / 2]!).n ((i + 1 : Nat) : Int), u, us, fr, x)) := by
        unfold eZ
        simp only [e1, cond_true, wM (show i < 1000000000 by omega), g1, aB, dX hx ok1, K7, h, decide_true, s1]
      rw [bA r, PF hx x0 l1 (i / 2) _ _ (c.move hi hp _ _) (by rw [bm]; exact hn) hp (by rw [bm]; exact x1) (by rw [bm]; exact l2)]
      have e : kE x (i + 1) H W = kE x (i / 2) (H.set (i + 1) H[i / 2]!) (W.set (H[i / 2]!).n ((i + 1 : Nat) : Int)) := by
        rw [kE, if_pos h]
      unfold cS
      rw [e]
    have dn := C4 (u := u) (us := us) (fr := fr) hx x0 l1 n (i + 1) H W (by omega) c hn hi x1 l2
    refine (aL (r := cS n x (i + 1) H W) ?_)
    unfold eZ
    simp only [e1, cond_true, wM (show i < 1000000000 by omega), g1, aB, dX hx ok1, K7, h, decide_false, cond_false, AY (show i + 1 < 1000000000 by omega)]
    rw [dn]
    unfold cS
    rw [kE, if_neg h]
termination_by i=>i
decreasing_by omega
theorem PG {n:Nat} {u fr:List Int} {us:List Bool} {x:Ev} (hx:tX x) (x0:0<=x.ix) {i:Nat} {H:List Ev} {W:List Int} (c:oP n H W) (hn:H.length=n) (hi:i<n) (x1:x.ix<W.length):
 fG (u,us,fr,(i:Int),x.1,x.2.1,x.2.2.1,x.2.2.2.1,x.2.2.2.2,H,W)=some (cS n x i H W):=by
 unfold fG;exact PF hx x0 hn i H W c hn hi x1 rfl
theorem gQ {l:List Ev} {n i:Nat} (h:i<n) (hn:n<=l.length):aN (l.take n) (i:Int)=some l[i]!:=by
 rw [aE (l.take n) i (by rw [cm];omega),kN h]
theorem aAO {c0:List Int×List Bool×List Int×Nat×Nat×Int×Int×Int×Int×Int×Int×List Ev×List Int} {n cap i:Nat} {H:List Ev} {W:List Int} {u fr:List Int} {us:List Bool} {x:Ev}
 (c:oP n H W) (hi:i<n) (hx:tX x) (x0:0<=x.ix) (x1:x.ix<W.length) (l1:c0.2.2.2.2.2.2.2.2.2.2.2.1.length=H.length) (l2:c0.2.2.2.2.2.2.2.2.2.2.2.2.length=W.length):
 gK c0 ((i:Int),((2*i+1:Nat):Int),H,W,u,us,fr,n,cap,x)=
  some (if 2*i+1<n/\dY H[iX n H i]! x then .next (((iX n H i:Nat):Int),((2*iX n H i+1:Nat):Int),H.set i H[iX n H i]!,W.set (H[iX n H i]!).n (i:Int),u,us,fr,n,cap,x)
   else .done (.done (H.set i x,W.set x.n (i:Int)))):=by
 have hb:=c.hb;have hnn:=c.hn;have fin:(cC (u,us,fr,n,cap,(i:Int),x.1,x.2.1,x.2.2.1,x.2.2.2.1,x.2.2.2.2,H,W))=some (H.set i x,W.set x.n (i:Int)):=M4 (cap:=cap) (by omega) c.hn x0 x1
 have ln1:(H.set i x).length=c0.2.2.2.2.2.2.2.2.2.2.2.1.length:=by rw [bm];omega
 have ln2:(W.set x.n (i:Int)).length=c0.2.2.2.2.2.2.2.2.2.2.2.2.length:=by rw [bm];omega
 unfold gK;simp only [aF,fin,aB,ln1,ln2,beq_self_eq_true,cond_true]
 by_cases h1:2*i+1<n
 · have e1:decide (((2*i+1:Nat):Int)<(n:Int))=true:=by simp;omega
   have e2:aA .i64 (((2*i+1:Nat):Int)+1)=((2*i+2:Nat):Int):=aU (by omega)
   obtain ⟨ok1,a1,a2⟩:=c.ev (2*i+1) h1;have g1:=gQ (l:=H) (n:=n) (i:=2*i+1) (by omega) c.hn
   have s1:(cC (u,us,fr,n,cap,(i:Int),(H[2*i+1]!).1,(H[2*i+1]!).2.1,(H[2*i+1]!).2.2.1,(H[2*i+1]!).2.2.2.1,(H[2*i+1]!).2.2.2.2,H,W))=some (H.set i H[2*i+1]!,W.set (H[2*i+1]!).n (i:Int)):=M4 (cap:=cap) (by omega) c.hn a1 a2
   simp only [e1,e2,cond_true,g1,aB,s1,dX ok1 hx,UW,AY (show 2*i+1<1000000000 by omega)]
   by_cases h2:2*i+2<n
   · have e3:decide (((2*i+2:Nat):Int)<(n:Int))=true:=by simp;omega
     obtain ⟨ok2,b1,b2⟩:=c.ev (2*i+2) h2;have g2:=gQ (l:=H) (n:=n) (i:=2*i+2) (by omega) c.hn
     have s2:(cC (u,us,fr,n,cap,(i:Int),(H[2*i+2]!).1,(H[2*i+2]!).2.1,(H[2*i+2]!).2.2.1,(H[2*i+2]!).2.2.2.1,(H[2*i+2]!).2.2.2.2,H,W))=some (H.set i H[2*i+2]!,W.set (H[2*i+2]!).n (i:Int)):=M4 (cap:=cap) (by omega) c.hn b1 b2
     simp only [e3,cond_true,g2,aB,s2,dX ok2 hx,dX ok2 ok1,K7,UW,AY (show 2*i+2<1000000000 by omega)]
     by_cases h3:dY H[2*i+2]! H[2*i+1]!
     · have k:iX n H i=2*i+2:=by unfold iX;rw [if_pos ⟨h2,h3⟩]
       rw [k]
       by_cases h4:dY H[2*i+2]! x
       · simp only [h1,h3,h4,decide_true,cond_true,cond_false,bz,and_self,if_true]
       simp only [h1,h3,h4,decide_true,decide_false,cond_true,bv,and_false,if_false]
     have k:iX n H i=2*i+1:=by unfold iX;rw [if_neg (fun h=>h3 h.2)]
     rw [k]
     by_cases h4:dY H[2*i+1]! x
     · simp only [h1,h3,h4,decide_true,decide_false,cond_false,bz,and_self,if_true]
     simp only [h1,h3,h4,decide_false,cond_true,cond_false,bv,and_false,if_false]
   have e3:decide (((2*i+2:Nat):Int)<(n:Int))=false:=by simp;omega
   have k:iX n H i=2*i+1:=by unfold iX;rw [if_neg (fun h=>h2 h.1)]
   rw [k];simp only [e3,cond_false]
   by_cases h4:dY H[2*i+1]! x
   · simp only [h1,h4,decide_true,cond_false,bz,and_self,if_true]
   simp only [h1,h4,decide_false,cond_true,bv,and_false,if_false]
 have e1:decide (((2*i+1:Nat):Int)<(n:Int))=false:=by simp;omega
 rw [if_neg (fun h=>h1 h.1),e1];rfl
theorem C5 {c0 : List Int × List Bool × List Int × Nat × Nat × Int × Int × Int × Int × Int × Int × List Ev × List Int} {n cap : Nat} {u fr : List Int} {us : List Bool} {x : Ev} (hx : tX x) (x0 : 0 <= x.ix) :
    ∀ (d i : Nat) (H : List Ev) (W : List Int), n - i <= d -> oP n H W -> c0.2.2.2.2.2.2.2.2.2.2.2.1.length = H.length -> i < n -> x.ix < W.length -> c0.2.2.2.2.2.2.2.2.2.2.2.2.length = W.length ->
      aG (gK c0) ((i : Int), ((2 * i + 1 : Nat) : Int), H, W, u, us, fr, n, cap, x) = some (.done ((eE n x i H W).2.1.set (eE n x i H W).1 x, (eE n x i H W).2.2.set x.n ((eE n x i H W).1 : Int)))
  | 0, i, H, W, hd, c, hn, hi, x1, l2 => by omega
  | d + 1, i, H, W, hd, c, hn, hi, x1, l2 => by
    have r := aAO (u := u) (us := us) (fr := fr) (cap := cap) c hi hx x0 x1 hn l2
    by_cases h : 2 * i + 1 < n /\ dY H[iX n H i]! x
    · rw [if_pos h] at r
      have kc := rF n H i
      have kn : iX n H i < n := by omega
      rw [bA r, C5 hx x0 d (iX n H i) _ _ (by omega) (c.move hi kn _ _) (by rw [bm]; exact hn) kn (by rw [bm]; exact x1) (by rw [bm]; exact l2)]
      have e : eE n x i H W = eE n x (iX n H i) (H.set i H[iX n H i]!) (W.set (H[iX n H i]!).n (i : Int)) := by
        rw [eE, dif_pos h.1, if_pos h.2]
      rw [e]
    rw [if_neg h] at r
    rw [aL r]
    have e : eE n x i H W = (i, H, W) := by
      rw [eE]
      split
      · rename_i h1; rw [if_neg (fun k => h ⟨h1, k⟩)]
      rfl
    rw [e]
theorem PH {c0 : List Int × List Bool × List Int × Nat × Nat × Int × Int × Int × Int × Int × Int × List Ev × List Int} {n cap : Nat} {u fr : List Int} {us : List Bool} {x : Ev} (hx : tX x) (x0 : 0 <= x.ix) :
    ∀ (i : Nat) (H : List Ev) (W : List Int), oP n H W -> c0.2.2.2.2.2.2.2.2.2.2.2.1.length = H.length -> i < n -> x.ix < W.length -> c0.2.2.2.2.2.2.2.2.2.2.2.2.length = W.length ->
      aG (eY c0) ((i : Int), H, W, u, us, fr, n, cap, x) = some (cS n x i H W)
  | 0, H, W, c, hn, hi, x1, l2 => by
    have hb := c.hb
    have hnn := c.hn
    have dn := C5 (u := u) (us := us) (fr := fr) (cap := cap) hx x0 n 0 H W (by omega) c hn hi x1 l2
    refine (aL (r := cS n x 0 H W) ?_)
    unfold eY
    have e1 : decide ((0 : Int) < ((0 : Nat) : Int)) = false := by simp
    simp only [e1, cond_false, AY (show 0 < 1000000000 by omega)]
    rw [dn]
    unfold cS
    rw [kE]
  | i + 1, H, W, c, hn, hi, x1, l2 => by
    have hb := c.hb
    have hnn := c.hn
    have e1 : decide ((0 : Int) < ((i + 1 : Nat) : Int)) = true := decide_eq_true (by omega)
    have hp : i / 2 < n := by omega
    obtain ⟨ok1, a1, a2⟩ := c.ev (i / 2) hp
    have g1 := gQ (l := H) (n := n) (i := i / 2) (by omega) c.hn
    have s1 : (cC (u, us, fr, n, cap, ((i + 1 : Nat) : Int), (H[i / 2]!).1, (H[i / 2]!).2.1, (H[i / 2]!).2.2.1, (H[i / 2]!).2.2.2.1, (H[i / 2]!).2.2.2.2, H, W)) = some (H.set (i + 1) H[i / 2]!, W.set (H[i / 2]!).n ((i + 1 : Nat) : Int)) := M4 (cap := cap) (by omega) c.hn a1 a2
    by_cases h : dY x H[i / 2]!
    · have r : eY c0 (((i + 1 : Nat) : Int), H, W, u, us, fr, n, cap, x) = some (.next (((i / 2 : Nat) : Int), H.set (i + 1) H[i / 2]!, W.set (H[i / 2]!).n ((i + 1 : Nat) : Int), u, us, fr, n, cap, x)) := by
        unfold eY
        simp only [e1, cond_true, wM (show i < 1000000000 by omega), g1, aB, dX hx ok1, K7, h, decide_true, s1]
      rw [bA r, PH hx x0 (i / 2) _ _ (c.move hi hp _ _) (by rw [bm]; exact hn) hp (by rw [bm]; exact x1) (by rw [bm]; exact l2)]
      have e : kE x (i + 1) H W = kE x (i / 2) (H.set (i + 1) H[i / 2]!) (W.set (H[i / 2]!).n ((i + 1 : Nat) : Int)) := by
        rw [kE, if_pos h]
      unfold cS
      rw [e]
    have dn := C5 (u := u) (us := us) (fr := fr) (cap := cap) hx x0 n (i + 1) H W (by omega) c hn hi x1 l2
    refine (aL (r := cS n x (i + 1) H W) ?_)
    unfold eY
    simp only [e1, cond_true, wM (show i < 1000000000 by omega), g1, aB, dX hx ok1, K7, h, decide_false, cond_false, AY (show i + 1 < 1000000000 by omega)]
    rw [dn]
    unfold cS
    rw [kE, if_neg h]
termination_by i=>i
decreasing_by omega
theorem aAP {n cap:Nat} {u fr:List Int} {us:List Bool} {x:Ev} (hx:tX x) (x0:0<=x.ix) {i:Nat} {H:List Ev} {W:List Int} (c:oP n H W) (hi:i<n) (x1:x.ix<W.length):
 lL (u,us,fr,n,cap,(i:Int),x.1,x.2.1,x.2.2.1,x.2.2.2.1,x.2.2.2.2,H,W)=some (cS n x i H W):=by
 unfold lL;exact PH hx x0 i H W c rfl hi x1 rfl
theorem PI {n cap:Nat} {H:List Ev} {W:List Int} {x:Ev} {u fr:List Int} {us:List Bool} {i k:Nat} (hi:i<n) (hk:k<n) (hik:k≠i) (hn:n<=H.length) (x0:0<=x.ix) (x1:x.ix<W.length) (k0:0<=(H[k]!).ix) (k1:(H[k]!).ix<W.length):
 gY (u,us,fr,n,cap,(i:Int),(k:Int),H.set i x,W.set x.n (i:Int))=some ((H.set i H[k]!).set k x,(W.set (H[k]!).n (i:Int)).set x.n (k:Int)):=by
 have cell: ∀w,(H.set i x)[w]! =if w=i then x else H[w]!:=by
  intro w;rw [aZ]
  by_cases e:w=i
  · rw [if_pos ⟨e,by omega⟩,if_pos e]
  rw [if_neg (fun k=>e k.1),if_neg e]
 have sh:((H.set i x).set i H[k]!).set k x=(H.set i H[k]!).set k x:=by rw [cf]
 have sw:((W.set x.n (i:Int)).set (H[k]!).n (i:Int)).set x.n (k:Int)=(W.set (H[k]!).n (i:Int)).set x.n (k:Int):=by
  by_cases e:x.n=(H[k]!).n
  · simp only [e,cf]
  rw [d8 _ _ (fun h=>e h),cf]
 have g1:aN ((H.set i x).take n) (k:Int)=some H[k]!:=by rw [gQ (by omega) (by rw [bm];omega),cell,if_neg hik]
 have g2:aN ((H.set i x).take n) (i:Int)=some x:=by rw [gQ (by omega) (by rw [bm];omega),cell,if_pos rfl]
 have g3:aN (((H.set i x).set i H[k]!).take n) (k:Int)=some H[k]!:=by rw [gQ (by omega) (by rw [bm,bm];omega),aZ,if_neg (fun h=>hik h.1),cell,if_neg hik]
 have g4:aN (((H.set i H[k]!).set k x).take n) (i:Int)=some H[k]!:=by rw [gQ (by omega) (by rw [bm,bm];omega),aZ,if_neg (fun h=>hik h.1.symm),aZ,if_pos ⟨rfl,by omega⟩]
 have g5:aN (((H.set i H[k]!).set k x).take n) (k:Int)=some x:=by rw [gQ (by omega) (by rw [bm,bm];omega),aZ,if_pos ⟨rfl,by rw [bm];omega⟩]
 have w6:=eA (l:=W.set x.n (i:Int)) k0 (by rw [bm];exact k1)
 have w7:=eA (l:=(W.set x.n (i:Int)).set (H[k]!).n (i:Int)) x0 (by rw [bm,bm];exact x1)
 have q1: ∀(l:List Int) (a:Int) (y:Ev),cL l y.2.2.2.1 a=l.set y.n a:=fun _ _ _=>rfl
 unfold gY;simp only [yP,g1,g2,g3,aB,sh,g4,g5,q1,w6,w7,sw,bm,beq_self_eq_true,cond_true]
theorem aFJ {c0:List Int×List Bool×List Int×Nat×Nat×Int×List Ev×List Int} {n cap:Nat} {u fr:List Int} {us:List Bool} {x:Ev} (hx:tX x) (x0:0<=x.ix):
 ∀(i:Nat) (H:List Ev) (W:List Int),oP n H W->i<n->x.ix<W.length->c0.2.2.2.2.2.2.1.length=H.length->c0.2.2.2.2.2.2.2.length=W.length->
  aG (iP c0) ((i:Int),H.set i x,W.set x.n (i:Int),u,us,fr,n,cap)=some (((kE x i H W).1:Int),(kE x i H W).2.1.set (kE x i H W).1 x,(kE x i H W).2.2.set x.n ((kE x i H W).1:Int))
 |0,H,W,c,hi,x1,l1,l2=>by
  have hnn:=c.hn;refine aL ?_;unfold iP;have e1:decide ((0:Int)<((0:Nat):Int))=false:=by simp
  rw [kE];simp only [e1,cond_false,bm,l1,l2,beq_self_eq_true,cond_true]
 |i+1,H,W,c,hi,x1,l1,l2=>by
  have hb:=c.hb;have hnn:=c.hn;have e1:decide ((0:Int)<((i+1:Nat):Int))=true:=decide_eq_true (by omega)
  have hp:i / 2<n:=by omega
  have hne:i / 2≠i+1:=by omega
  obtain ⟨ok1,a1,a2⟩:=c.ev (i / 2) hp;have cell: ∀w,(H.set (i+1) x)[w]! =if w=i+1 then x else H[w]!:=by
   intro w;rw [aZ]
   by_cases e:w=i+1
   · rw [if_pos ⟨e,by omega⟩,if_pos e]
   rw [if_neg (fun k=>e k.1),if_neg e]
  have g0:aN ((H.set (i+1) x).take n) ((i+1:Nat):Int)=some x:=by rw [gQ (by omega) (by rw [bm];omega),cell,if_pos rfl]
  have g1:aN ((H.set (i+1) x).take n) ((i / 2:Nat):Int)=some H[i / 2]!:=by rw [gQ (by omega) (by rw [bm];omega),cell,if_neg hne]
  by_cases h:dY x H[i / 2]!
  · have sw:=PI (cap:=cap) (u:=u) (us:=us) (fr:=fr) (x:=x) hi hp hne hnn x0 x1 a1 a2
    have r:iP c0 (((i+1:Nat):Int),H.set (i+1) x,W.set x.n ((i+1:Nat):Int),u,us,fr,n,cap)=some (.next (((i / 2:Nat):Int),(H.set (i+1) H[i / 2]!).set (i / 2) x,(W.set (H[i / 2]!).n ((i+1:Nat):Int)).set x.n ((i / 2:Nat):Int),u,us,fr,n,cap)):=by
     unfold iP;simp only [e1,cond_true,wM (show i<1000000000 by omega),g0,g1,aB,qC hx ok1,h,decide_true,sw]
    rw [bA r,aFJ hx x0 (i / 2) _ _ (c.move hi hp _ _) hp (by rw [bm];exact x1) (by rw [bm];exact l1) (by rw [bm];exact l2)]
    have e:kE x (i+1) H W=kE x (i / 2) (H.set (i+1) H[i / 2]!) (W.set (H[i / 2]!).n ((i+1:Nat):Int)):=by
     rw [kE,if_pos h]
    rw [e]
  refine aL ?_
  unfold iP;have e:kE x (i+1) H W=(i+1,H,W):=by rw [kE,if_neg h]
  rw [e];simp only [e1,cond_true,wM (show i<1000000000 by omega),g0,g1,aB,qC hx ok1,h,decide_false,cond_false,bm,l1,l2,beq_self_eq_true]
termination_by i=>i
decreasing_by omega
theorem YA {c0:List Int×List Bool×List Int×Nat×Nat×Int×List Ev×List Int} {n cap:Nat} {u fr:List Int} {us:List Bool} {x:Ev} (hx:tX x) (x0:0<=x.ix):
 ∀(d i:Nat) (H:List Ev) (W:List Int),n-i<=d->oP n H W->i<n->x.ix<W.length->c0.2.2.2.2.2.2.1.length=H.length->c0.2.2.2.2.2.2.2.length=W.length->
  aG (lM c0) ((i:Int),H.set i x,W.set x.n (i:Int),u,us,fr,n,cap)=some (((eE n x i H W).2.1.set (eE n x i H W).1 x,(eE n x i H W).2.2.set x.n ((eE n x i H W).1:Int)))
 |0,i,H,W,hd,c,hi,x1,l1,l2=>by omega
 |d+1,i,H,W,hd,c,hi,x1,l1,l2=>by
  have hb:=c.hb;have hnn:=c.hn;have cell: ∀w,(H.set i x)[w]! =if w=i then x else H[w]!:=by
   intro w;rw [aZ]
   by_cases e:w=i
   · rw [if_pos ⟨e,by omega⟩,if_pos e]
   rw [if_neg (fun k=>e k.1),if_neg e]
  have len0:(H.set i x).length=H.length:=bm;have body:lM c0 ((i:Int),H.set i x,W.set x.n (i:Int),u,us,fr,n,cap)=some (if 2*i+1<n/\dY H[iX n H i]! x then .next (((iX n H i:Nat):Int),(H.set i H[iX n H i]!).set (iX n H i) x,(W.set (H[iX n H i]!).n (i:Int)).set x.n ((iX n H i:Nat):Int),u,us,fr,n,cap) else .done ((H.set i x,W.set x.n (i:Int)))):=by
   have k1:=AY (show i<1000000000 by omega)
   unfold lM
   by_cases h1:2*i+1<n
   · have e1:decide ((n:Int)<=((2*i+1:Nat):Int))=false:=decide_eq_false (by omega)
     have e2:aA .i64 (((2*i+1:Nat):Int)+1)=((2*i+2:Nat):Int):=aU (by omega)
     obtain ⟨ok1,a1,a2⟩:=c.ev (2*i+1) h1;have g0:aN ((H.set i x).take n) (i:Int)=some x:=by rw [gQ (by omega) (by rw [bm];omega),cell,if_pos rfl]
     have g1:aN ((H.set i x).take n) ((2*i+1:Nat):Int)=some H[2*i+1]!:=by rw [gQ (by omega) (by rw [bm];omega),cell,if_neg (by omega)]
     have s1:=PI (cap:=cap) (u:=u) (us:=us) (fr:=fr) (x:=x) hi h1 (by omega) hnn x0 x1 a1 a2
     simp only [aF,k1,len0,e1,e2,cond_false,g0,g1,aB,qC ok1 hx,s1,bm,l1,l2,beq_self_eq_true,cond_true]
     by_cases h2:2*i+2<n
     · have e3:decide (((2*i+2:Nat):Int)<(n:Int))=true:=decide_eq_true (by omega)
       obtain ⟨ok2,b1,b2⟩:=c.ev (2*i+2) h2;have g2:aN ((H.set i x).take n) ((2*i+2:Nat):Int)=some H[2*i+2]!:=by rw [gQ (by omega) (by rw [bm];omega),cell,if_neg (by omega)]
       have s2:=PI (cap:=cap) (u:=u) (us:=us) (fr:=fr) (x:=x) hi h2 (by omega) hnn x0 x1 b1 b2
       simp only [e3,cond_true,g2,aB,s2,qC ok2 hx,qC ok2 ok1]
       by_cases h3:dY H[2*i+2]! H[2*i+1]!
       · have k:iX n H i=2*i+2:=by unfold iX;rw [if_pos ⟨h2,h3⟩]
         rw [k]
         by_cases h4:dY H[2*i+2]! x
         · simp only [h1,h3,h4,decide_true,cond_true,cond_false,bz,and_self,if_true]
         simp only [h1,h3,h4,decide_true,decide_false,cond_true,bv,and_false,if_false]
       have k:iX n H i=2*i+1:=by unfold iX;rw [if_neg (fun h=>h3 h.2)]
       rw [k]
       by_cases h4:dY H[2*i+1]! x
       · simp only [h1,h3,h4,decide_true,decide_false,cond_false,bz,and_self,if_true]
       simp only [h1,h3,h4,decide_false,cond_true,cond_false,bv,and_false,if_false]
     have e3:decide (((2*i+2:Nat):Int)<(n:Int))=false:=decide_eq_false (by omega)
     have k:iX n H i=2*i+1:=by unfold iX;rw [if_neg (fun h=>h2 h.1)]
     rw [k];simp only [e3,cond_false]
     by_cases h4:dY H[2*i+1]! x
     · simp only [h1,h4,decide_true,cond_false,bz,and_self,if_true]
     simp only [h1,h4,decide_false,cond_true,bv,and_false,if_false]
   have e1:decide ((n:Int)<=((2*i+1:Nat):Int))=true:=decide_eq_true (by omega)
   rw [if_neg (fun h=>h1 h.1)]
   simp only [aF,k1,len0,e1,cond_true,bm,l1,l2,beq_self_eq_true]
  by_cases h:2*i+1<n/\dY H[iX n H i]! x
  · rw [if_pos h] at body
    have kc:=rF n H i;have kn:iX n H i<n:=by omega
    rw [bA body,YA hx x0 d (iX n H i) _ _ (by omega) (c.move hi kn _ _) kn (by rw [bm];exact x1) (by rw [bm];exact l1) (by rw [bm];exact l2)]
    have e:eE n x i H W=eE n x (iX n H i) (H.set i H[iX n H i]!) (W.set (H[iX n H i]!).n (i:Int)):=by
     rw [eE,dif_pos h.1,if_pos h.2]
    rw [e]
  rw [if_neg h] at body
  rw [aL body];have e:eE n x i H W=(i,H,W):=by
   rw [eE];split
   · rename_i h1;rw [if_neg (fun k=>h ⟨h1,k⟩)]
   rfl
  rw [e]
theorem JQ {n:Nat} {H:List Ev} {W:List Int} {x:Ev} {u fr:List Int} {us:List Bool} {i k:Nat} (hi:i<n) (hk:k<n) (hik:k≠i) (hn:n=H.length) (x0:0<=x.ix) (x1:x.ix<W.length) (k0:0<=(H[k]!).ix) (k1:(H[k]!).ix<W.length):
 fW ((i:Int),(k:Int),u,us,fr,H.set i x,W.set x.n (i:Int))=some (u,us,fr,(H.set i H[k]!).set k x,(W.set (H[k]!).n (i:Int)).set x.n (k:Int)):=by
 have cell: ∀w,(H.set i x)[w]! =if w=i then x else H[w]!:=by
  intro w;rw [aZ]
  by_cases e:w=i
  · rw [if_pos ⟨e,by omega⟩,if_pos e]
  rw [if_neg (fun k=>e k.1),if_neg e]
 have sh:((H.set i x).set i H[k]!).set k x=(H.set i H[k]!).set k x:=by rw [cf]
 have sw:((W.set x.n (i:Int)).set (H[k]!).n (i:Int)).set x.n (k:Int)=(W.set (H[k]!).n (i:Int)).set x.n (k:Int):=by
  by_cases e:x.n=(H[k]!).n
  · simp only [e,cf]
  rw [d8 _ _ (fun h=>e h),cf]
 have g1:aN ((H.set i x)) (k:Int)=some H[k]!:=by rw [aE _ _ (by rw [bm];omega),cell,if_neg hik]
 have g2:aN ((H.set i x)) (i:Int)=some x:=by rw [aE _ _ (by rw [bm];omega),cell,if_pos rfl]
 have g3:aN (((H.set i x).set i H[k]!)) (k:Int)=some H[k]!:=by rw [aE _ _ (by rw [bm,bm];omega),aZ,if_neg (fun h=>hik h.1),cell,if_neg hik]
 have g4:aN (((H.set i H[k]!).set k x)) (i:Int)=some H[k]!:=by rw [aE _ _ (by rw [bm,bm];omega),aZ,if_neg (fun h=>hik h.1.symm),aZ,if_pos ⟨rfl,by omega⟩]
 have g5:aN (((H.set i H[k]!).set k x)) (k:Int)=some x:=by rw [aE _ _ (by rw [bm,bm];omega),aZ,if_pos ⟨rfl,by rw [bm];omega⟩]
 have w6:=eA (l:=W.set x.n (i:Int)) k0 (by rw [bm];exact k1)
 have w7:=eA (l:=(W.set x.n (i:Int)).set (H[k]!).n (i:Int)) x0 (by rw [bm,bm];exact x1)
 have q1: ∀(l:List Int) (a:Int) (y:Ev),cL l y.2.2.2.1 a=l.set y.n a:=fun _ _ _=>rfl
 unfold fW;simp only [yP,g1,g2,g3,aB,sh,g4,g5,q1,w6,w7,sw,bm,beq_self_eq_true,cond_true]
theorem aFK {c0:Int×List Int×List Bool×List Int×List Ev×List Int} {n:Nat} {u fr:List Int} {us:List Bool} {x:Ev} (hx:tX x) (x0:0<=x.ix) (l3:c0.2.1.length=u.length) (l4:c0.2.2.1.length=us.length) (l5:c0.2.2.2.1.length=fr.length):
 ∀(i:Nat) (H:List Ev) (W:List Int),oP n H W->i<n->H.length=n->x.ix<W.length->c0.2.2.2.2.1.length=H.length->c0.2.2.2.2.2.length=W.length->
  aG (iQ c0) ((i:Int),u,us,fr,H.set i x,W.set x.n (i:Int))=some (((kE x i H W).1:Int),u,us,fr,(kE x i H W).2.1.set (kE x i H W).1 x,(kE x i H W).2.2.set x.n ((kE x i H W).1:Int))
 |0,H,W,c,hi,hln,x1,l1,l2=>by
  have hnn:=c.hn;refine aL ?_;unfold iQ;have e1:decide ((0:Int)<((0:Nat):Int))=false:=by simp
  rw [kE];simp only [e1,cond_false,bm,l1,l2,l3,l4,l5,beq_self_eq_true,cond_true]
 |i+1,H,W,c,hi,hln,x1,l1,l2=>by
  have hb:=c.hb;have hnn:=c.hn;have e1:decide ((0:Int)<((i+1:Nat):Int))=true:=decide_eq_true (by omega)
  have hp:i / 2<n:=by omega
  have hne:i / 2≠i+1:=by omega
  obtain ⟨ok1,a1,a2⟩:=c.ev (i / 2) hp;have cell: ∀w,(H.set (i+1) x)[w]! =if w=i+1 then x else H[w]!:=by
   intro w;rw [aZ]
   by_cases e:w=i+1
   · rw [if_pos ⟨e,by omega⟩,if_pos e]
   rw [if_neg (fun k=>e k.1),if_neg e]
  have g0:aN ((H.set (i+1) x)) ((i+1:Nat):Int)=some x:=by rw [aE _ _ (by rw [bm];omega),cell,if_pos rfl]
  have g1:aN ((H.set (i+1) x)) ((i / 2:Nat):Int)=some H[i / 2]!:=by rw [aE _ _ (by rw [bm];omega),cell,if_neg hne]
  by_cases h:dY x H[i / 2]!
  · have sw:=JQ (u:=u) (us:=us) (fr:=fr) (x:=x) hi hp hne hln.symm x0 x1 a1 a2
    have r:iQ c0 (((i+1:Nat):Int),u,us,fr,H.set (i+1) x,W.set x.n ((i+1:Nat):Int))=some (.next (((i / 2:Nat):Int),u,us,fr,(H.set (i+1) H[i / 2]!).set (i / 2) x,(W.set (H[i / 2]!).n ((i+1:Nat):Int)).set x.n ((i / 2:Nat):Int))):=by
     unfold iQ;simp only [e1,cond_true,wM (show i<1000000000 by omega),g0,g1,aB,qC hx ok1,h,decide_true,sw]
    rw [bA r,aFK hx x0 l3 l4 l5 (i / 2) _ _ (c.move hi hp _ _) hp (by rw [bm];exact hln) (by rw [bm];exact x1) (by rw [bm];exact l1) (by rw [bm];exact l2)]
    have e:kE x (i+1) H W=kE x (i / 2) (H.set (i+1) H[i / 2]!) (W.set (H[i / 2]!).n ((i+1:Nat):Int)):=by
     rw [kE,if_pos h]
    rw [e]
  refine aL ?_
  unfold iQ;have e:kE x (i+1) H W=(i+1,H,W):=by rw [kE,if_neg h]
  rw [e];simp only [e1,cond_true,wM (show i<1000000000 by omega),g0,g1,aB,qC hx ok1,h,decide_false,cond_false,bm,l1,l2,l3,l4,l5,beq_self_eq_true]
termination_by i=>i
decreasing_by omega
theorem YB {c0:Int×List Int×List Bool×List Int×List Ev×List Int} {n:Nat} {u fr:List Int} {us:List Bool} {x:Ev} (hx:tX x) (x0:0<=x.ix) (l3:c0.2.1.length=u.length) (l4:c0.2.2.1.length=us.length) (l5:c0.2.2.2.1.length=fr.length):
 ∀(d i:Nat) (H:List Ev) (W:List Int),n-i<=d->oP n H W->i<n->H.length=n->x.ix<W.length->c0.2.2.2.2.1.length=H.length->c0.2.2.2.2.2.length=W.length->
  aG (lN c0) ((i:Int),u,us,fr,H.set i x,W.set x.n (i:Int))=some ((u,us,fr,(eE n x i H W).2.1.set (eE n x i H W).1 x,(eE n x i H W).2.2.set x.n ((eE n x i H W).1:Int)))
 |0,i,H,W,hd,c,hi,hln,x1,l1,l2=>by omega
 |d+1,i,H,W,hd,c,hi,hln,x1,l1,l2=>by
  have hb:=c.hb;have hnn:=c.hn;have cell: ∀w,(H.set i x)[w]! =if w=i then x else H[w]!:=by
   intro w;rw [aZ]
   by_cases e:w=i
   · rw [if_pos ⟨e,by omega⟩,if_pos e]
   rw [if_neg (fun k=>e k.1),if_neg e]
  have len0:(H.set i x).length=H.length:=bm;have body:lN c0 ((i:Int),u,us,fr,H.set i x,W.set x.n (i:Int))=some (if 2*i+1<n/\dY H[iX n H i]! x then .next (((iX n H i:Nat):Int),u,us,fr,(H.set i H[iX n H i]!).set (iX n H i) x,(W.set (H[iX n H i]!).n (i:Int)).set x.n ((iX n H i:Nat):Int)) else .done ((u,us,fr,H.set i x,W.set x.n (i:Int)))):=by
   have k1:=AY (show i<1000000000 by omega)
   unfold lN
   by_cases h1:2*i+1<n
   · have e1:decide ((n:Int)<=((2*i+1:Nat):Int))=false:=decide_eq_false (by omega)
     have e2:aA .i64 (((2*i+1:Nat):Int)+1)=((2*i+2:Nat):Int):=aU (by omega)
     obtain ⟨ok1,a1,a2⟩:=c.ev (2*i+1) h1;have g0:aN ((H.set i x)) (i:Int)=some x:=by rw [aE _ _ (by rw [bm];omega),cell,if_pos rfl]
     have g1:aN ((H.set i x)) ((2*i+1:Nat):Int)=some H[2*i+1]!:=by rw [aE _ _ (by rw [bm];omega),cell,if_neg (by omega)]
     have s1:=JQ (u:=u) (us:=us) (fr:=fr) (x:=x) hi h1 (by omega) hln.symm x0 x1 a1 a2
     simp only [aF,k1,len0,hln,e1,e2,cond_false,g0,g1,aB,qC ok1 hx,s1,bm,l1,l2,l3,l4,l5,beq_self_eq_true,cond_true]
     by_cases h2:2*i+2<n
     · have e3:decide (((2*i+2:Nat):Int)<(n:Int))=true:=decide_eq_true (by omega)
       obtain ⟨ok2,b1,b2⟩:=c.ev (2*i+2) h2;have g2:aN ((H.set i x)) ((2*i+2:Nat):Int)=some H[2*i+2]!:=by rw [aE _ _ (by rw [bm];omega),cell,if_neg (by omega)]
       have s2:=JQ (u:=u) (us:=us) (fr:=fr) (x:=x) hi h2 (by omega) hln.symm x0 x1 b1 b2
       simp only [e3,cond_true,g2,aB,s2,qC ok2 hx,qC ok2 ok1]
       by_cases h3:dY H[2*i+2]! H[2*i+1]!
       · have k:iX n H i=2*i+2:=by unfold iX;rw [if_pos ⟨h2,h3⟩]
         rw [k]
         by_cases h4:dY H[2*i+2]! x
         · simp only [h1,h3,h4,decide_true,cond_true,cond_false,bz,and_self,if_true]
         simp only [h1,h3,h4,decide_true,decide_false,cond_true,bv,and_false,if_false]
       have k:iX n H i=2*i+1:=by unfold iX;rw [if_neg (fun h=>h3 h.2)]
       rw [k]
       by_cases h4:dY H[2*i+1]! x
       · simp only [h1,h3,h4,decide_true,decide_false,cond_false,bz,and_self,if_true]
       simp only [h1,h3,h4,decide_false,cond_true,cond_false,bv,and_false,if_false]
     have e3:decide (((2*i+2:Nat):Int)<(n:Int))=false:=decide_eq_false (by omega)
     have k:iX n H i=2*i+1:=by unfold iX;rw [if_neg (fun h=>h2 h.1)]
     rw [k];simp only [e3,cond_false]
     by_cases h4:dY H[2*i+1]! x
     · simp only [h1,h4,decide_true,cond_false,bz,and_self,if_true]
     simp only [h1,h4,decide_false,cond_true,bv,and_false,if_false]
   have e1:decide ((n:Int)<=((2*i+1:Nat):Int))=true:=decide_eq_true (by omega)
   rw [if_neg (fun h=>h1 h.1)]
   simp only [aF,k1,len0,hln,e1,cond_true,bm,l1,l2,l3,l4,l5,beq_self_eq_true]
  by_cases h:2*i+1<n/\dY H[iX n H i]! x
  · rw [if_pos h] at body
    have kc:=rF n H i;have kn:iX n H i<n:=by omega
    rw [bA body,YB hx x0 l3 l4 l5 d (iX n H i) _ _ (by omega) (c.move hi kn _ _) kn (by rw [bm];exact hln) (by rw [bm];exact x1) (by rw [bm];exact l1) (by rw [bm];exact l2)]
    have e:eE n x i H W=eE n x (iX n H i) (H.set i H[iX n H i]!) (W.set (H[iX n H i]!).n (i:Int)):=by
     rw [eE,dif_pos h.1,if_pos h.2]
    rw [e]
  rw [if_neg h] at body
  rw [aL body];have e:eE n x i H W=(i,H,W):=by
   rw [eE];split
   · rename_i h1;rw [if_neg (fun k=>h ⟨h1,k⟩)]
   rfl
  rw [e]
theorem aFL {n:Nat} {H:List Ev} {W:List Int} {x:Ev} {u fr:List Int} {us:List Bool} {i k:Nat} (hi:i<n) (hk:k<n) (hik:k≠i) (hn:n=H.length) (x0:0<=x.ix) (x1:x.ix<W.length) (k0:0<=(H[k]!).ix) (k1:(H[k]!).ix<W.length):
 pB (u,us,fr,(i:Int),(k:Int),H.set i x,W.set x.n (i:Int))=some ((H.set i H[k]!).set k x,(W.set (H[k]!).n (i:Int)).set x.n (k:Int)):=by
 have cell: ∀w,(H.set i x)[w]! =if w=i then x else H[w]!:=by
  intro w;rw [aZ]
  by_cases e:w=i
  · rw [if_pos ⟨e,by omega⟩,if_pos e]
  rw [if_neg (fun k=>e k.1),if_neg e]
 have sh:((H.set i x).set i H[k]!).set k x=(H.set i H[k]!).set k x:=by rw [cf]
 have sw:((W.set x.n (i:Int)).set (H[k]!).n (i:Int)).set x.n (k:Int)=(W.set (H[k]!).n (i:Int)).set x.n (k:Int):=by
  by_cases e:x.n=(H[k]!).n
  · simp only [e,cf]
  rw [d8 _ _ (fun h=>e h),cf]
 have g1:aN ((H.set i x)) (k:Int)=some H[k]!:=by rw [aE _ _ (by rw [bm];omega),cell,if_neg hik]
 have g2:aN ((H.set i x)) (i:Int)=some x:=by rw [aE _ _ (by rw [bm];omega),cell,if_pos rfl]
 have g3:aN (((H.set i x).set i H[k]!)) (k:Int)=some H[k]!:=by rw [aE _ _ (by rw [bm,bm];omega),aZ,if_neg (fun h=>hik h.1),cell,if_neg hik]
 have g4:aN (((H.set i H[k]!).set k x)) (i:Int)=some H[k]!:=by rw [aE _ _ (by rw [bm,bm];omega),aZ,if_neg (fun h=>hik h.1.symm),aZ,if_pos ⟨rfl,by omega⟩]
 have g5:aN (((H.set i H[k]!).set k x)) (k:Int)=some x:=by rw [aE _ _ (by rw [bm,bm];omega),aZ,if_pos ⟨rfl,by rw [bm];omega⟩]
 have w6:=eA (l:=W.set x.n (i:Int)) k0 (by rw [bm];exact k1)
 have w7:=eA (l:=(W.set x.n (i:Int)).set (H[k]!).n (i:Int)) x0 (by rw [bm,bm];exact x1)
 have q1: ∀(l:List Int) (a:Int) (y:Ev),cL l y.2.2.2.1 a=l.set y.n a:=fun _ _ _=>rfl
 unfold pB;simp only [yP,g1,g2,g3,aB,sh,g4,g5,q1,w6,w7,sw,bm,beq_self_eq_true,cond_true]
theorem aFM {c0:List Int×List Bool×List Int×Int×List Ev×List Int} {n:Nat} {u fr:List Int} {us:List Bool} {x:Ev} (hx:tX x) (x0:0<=x.ix):
 ∀(i:Nat) (H:List Ev) (W:List Int),oP n H W->i<n->H.length=n->x.ix<W.length->c0.2.2.2.2.1.length=H.length->c0.2.2.2.2.2.length=W.length->
  aG (iR c0) ((i:Int),H.set i x,W.set x.n (i:Int),u,us,fr)=some (((kE x i H W).1:Int),(kE x i H W).2.1.set (kE x i H W).1 x,(kE x i H W).2.2.set x.n ((kE x i H W).1:Int))
 |0,H,W,c,hi,hln,x1,l1,l2=>by
  have hnn:=c.hn;refine aL ?_;unfold iR;have e1:decide ((0:Int)<((0:Nat):Int))=false:=by simp
  rw [kE];simp only [e1,cond_false,bm,l1,l2,beq_self_eq_true,cond_true]
 |i+1,H,W,c,hi,hln,x1,l1,l2=>by
  have hb:=c.hb;have hnn:=c.hn;have e1:decide ((0:Int)<((i+1:Nat):Int))=true:=decide_eq_true (by omega)
  have hp:i / 2<n:=by omega
  have hne:i / 2≠i+1:=by omega
  obtain ⟨ok1,a1,a2⟩:=c.ev (i / 2) hp;have cell: ∀w,(H.set (i+1) x)[w]! =if w=i+1 then x else H[w]!:=by
   intro w;rw [aZ]
   by_cases e:w=i+1
   · rw [if_pos ⟨e,by omega⟩,if_pos e]
   rw [if_neg (fun k=>e k.1),if_neg e]
  have g0:aN ((H.set (i+1) x)) ((i+1:Nat):Int)=some x:=by rw [aE _ _ (by rw [bm];omega),cell,if_pos rfl]
  have g1:aN ((H.set (i+1) x)) ((i / 2:Nat):Int)=some H[i / 2]!:=by rw [aE _ _ (by rw [bm];omega),cell,if_neg hne]
  by_cases h:dY x H[i / 2]!
  · have sw:=aFL (u:=u) (us:=us) (fr:=fr) (x:=x) hi hp hne hln.symm x0 x1 a1 a2
    have r:iR c0 (((i+1:Nat):Int),H.set (i+1) x,W.set x.n ((i+1:Nat):Int),u,us,fr)=some (.next (((i / 2:Nat):Int),(H.set (i+1) H[i / 2]!).set (i / 2) x,(W.set (H[i / 2]!).n ((i+1:Nat):Int)).set x.n ((i / 2:Nat):Int),u,us,fr)):=by
     unfold iR;simp only [e1,cond_true,wM (show i<1000000000 by omega),g0,g1,aB,qC hx ok1,h,decide_true,sw]
    rw [bA r,aFM hx x0 (i / 2) _ _ (c.move hi hp _ _) hp (by rw [bm];exact hln) (by rw [bm];exact x1) (by rw [bm];exact l1) (by rw [bm];exact l2)]
    have e:kE x (i+1) H W=kE x (i / 2) (H.set (i+1) H[i / 2]!) (W.set (H[i / 2]!).n ((i+1:Nat):Int)):=by
     rw [kE,if_pos h]
    rw [e]
  refine aL ?_
  unfold iR;have e:kE x (i+1) H W=(i+1,H,W):=by rw [kE,if_neg h]
  rw [e];simp only [e1,cond_true,wM (show i<1000000000 by omega),g0,g1,aB,qC hx ok1,h,decide_false,cond_false,bm,l1,l2,beq_self_eq_true]
termination_by i=>i
decreasing_by omega
theorem dec_f {p:Prop} [Decidable p] (h: ¬p):decide p=false:=decide_eq_false h
theorem aJ {p:Prop} [Decidable p] (h:p):decide p=true:=decide_eq_true h
theorem YC (ac:List Int) (ae:List Bool) (fr:List Int) (fl:List Bool) (h1:ac.length<=200) (h2:ae.length=ac.length) (h3:fl.length=ac.length):
 ((∀i,i<ac.length->0<=ac[i]!/\ac[i]!<=1000000/\ae[i]!≠fl[i]!/\(ae[i]! =true->1<=ac[i]!))->aG lX ((ac.length:Int),0,ac,ae,fr,fl)=some (.done 0))/\
 (¬(∀i,i<ac.length->0<=ac[i]!/\ac[i]!<=1000000/\ae[i]!≠fl[i]!/\(ae[i]! =true->1<=ac[i]!))->aG lX ((ac.length:Int),0,ac,ae,fr,fl)=some (.done 8)):=by
 have key:=dM (body:=lX) (fun i=>((ac.length:Int),(i:Int),ac,ae,fr,fl)) ac.length (fun i=> ¬(0<=ac[i]!/\ac[i]!<=1000000/\ae[i]!≠fl[i]!/\(ae[i]! =true->1<=ac[i]!))) (r:= .done 8) (e:= .done 0) (fun i hi=>by
  have e1:decide ((i:Int)<(ac.length:Int))=true:=aJ (by omega)
  unfold lX;simp only [e1,cond_true,aE ac i hi,aE ae i (by omega),aE fl i (by omega),aB,aU (show i<1000000000 by omega)]
  generalize ac[i]! =u;generalize ae[i]! =a;generalize fl[i]! =b
  by_cases a1:u<0
  · simp only [a1,decide_true,cond_true];exact ⟨fun _=>trivial,fun h=>absurd (bn.1 h).1 (by omega)⟩
  · by_cases a2:1000000<u
    · simp only [a1,a2,decide_true,decide_false,cond_true,cond_false];exact ⟨fun _=>trivial,fun h=>absurd (bn.1 h).2.1 (by omega)⟩
    simp only [a1,a2,decide_false,cond_false]
    by_cases a3:u<1
    · cases a<;>cases b<;>simp [a3]<;>omega
    cases a<;>cases b<;>simp [a3]<;>omega) (by
  unfold lX
  have:decide ((ac.length:Int)<(ac.length:Int))=false:=dec_f (by omega)
  simp only [this,cond_false])
 constructor
 · intro h
   exact key.2 fun i hi=>bn.2 (h i hi)
 intro h
 obtain ⟨i,h⟩:=bw.1 h;obtain ⟨hi,hx⟩:=cy.1 h;exact key.1 ⟨i,hi,hx⟩
theorem PJ {α:Type} {n:Nat} (z:α) (h:n<=1048576):GR (n:Int) z=some (bo n z):=by
 unfold GR;rw [if_pos ⟨by omega,by omega⟩]
 simp
theorem PK (s:bD) (hf:s.af.length<=1000000):zT s=some (if fJ s then 0 else 8):=by
 obtain ⟨ac,ae,fr⟩:=s;dsimp only at hf;unfold zT;simp only [aF]
 by_cases a1:ac.length<1
 · have e:decide ((ac.length:Int)<1)=true:=aJ (by omega)
   rw [e,if_neg (fun h=>by have:=h.n1;dsimp only at this;omega)];rfl
 have e1:decide ((ac.length:Int)<1)=false:=dec_f (by omega)
 by_cases a2:200<ac.length
 · have e:decide (200<(ac.length:Int))=true:=aJ (by omega)
   rw [e1,e,if_neg (fun h=>by have:=h.n2;dsimp only at this;omega)];rfl
 have e2:decide (200<(ac.length:Int))=false:=dec_f (by omega)
 by_cases a3:ae.length=ac.length
 case neg=>
  have e:((ae.length:Int) !=(ac.length:Int))=true:=cP (by omega)
  rw [e1,e2,e,if_neg (fun h=>a3 h.ul)];rfl
 have e3:((ae.length:Int) !=(ac.length:Int))=false:=bT (by omega)
 by_cases a4:ac.length<fr.length
 · have e:decide ((ac.length:Int)<(fr.length:Int))=true:=aJ (by omega)
   rw [e1,e2,e3,e,if_neg (fun h=>by have:=h.fl;dsimp only at this;omega)];rfl
 have e4:decide ((ac.length:Int)<(fr.length:Int))=false:=dec_f (by omega)
 simp only [e1,e2,e3,e4,cond_false,beq_self_eq_true,cond_true,PJ false (show ac.length<=1048576 by omega),aB]
 have ml: ∀k,(fX (bo ac.length false) (fr.take k)).length=ac.length:=fun k=>by rw [pE,ce]
 have ml':(fX (bo ac.length false) fr).length=ac.length:=by rw [pE,ce]
 have rep: ∀i:Nat,(bo ac.length false)[i]! =false:=by
  intro i
  by_cases h:i<ac.length
  · rw [getElem!_pos _ i (by simpa using h),List.getElem_replicate]
  rw [getElem!_neg _ i (by simpa using h)];rfl
 have inner:=YC ac ae fr (fX (bo ac.length false) fr) (by omega) a3 ml'
 have key:=dM (body:=sG) (fun k=>((ac.length:Int),(k:Int),ac,ae,fr,fX (bo ac.length false) (fr.take k))) fr.length
  (fun k=>fr[k]!<0\/(ac.length:Int)<=fr[k]!\/(fX (bo ac.length false) (fr.take k))[(fr[k]!).toNat]! =true) (r:=8)
  (e:=if (∀i,i<ac.length->0<=ac[i]!/\ac[i]!<=1000000/\ae[i]!≠(fX (bo ac.length false) fr)[i]!/\(ae[i]! =true->1<=ac[i]!)) then 0 else 8) (fun k hk=>by
   have f1:decide ((k:Int)<(fr.length:Int))=true:=aJ (by omega)
   have f5:fX (bo ac.length false) (fr.take (k+1))=cL (fX (bo ac.length false) (fr.take k)) fr[k]! true:=by rw [fQ hk,ID]
   unfold sG;simp only [aF,f1,cond_true,aE fr k hk,aB,aU (show k<1000000000 by omega),f5]
   clear f5;generalize fr[k]! =x
   by_cases b1:x<0
   · simp [b1]
   · by_cases b2:(ac.length:Int)<=x
     · simp [b1,b2]
     simp only [b1,b2,decide_false,cond_false,false_or]
     rw [eA (l:=fX (bo ac.length false) (fr.take k)) (i:=x) (by omega) (by rw [ml];omega)]
     simp only [aB];cases (fX (bo ac.length false) (fr.take k))[x.toNat]!<;>simp) (by
   have f1:decide ((fr.length:Int)<(fr.length:Int))=false:=dec_f (by omega)
   unfold sG;simp only [aF,f1,cond_false,eg]
   by_cases hx:(∀i,i<ac.length->0<=ac[i]!/\ac[i]!<=1000000/\ae[i]!≠(fX (bo ac.length false) fr)[i]!/\(ae[i]! =true->1<=ac[i]!))
   · rw [if_pos hx];exact inner.1 hx
   rw [if_neg hx];exact inner.2 hx)
 have h0:fX (bo ac.length false) (fr.take 0)=bo ac.length false:=rfl;rw [show ((0:Nat):Int)=0 from rfl,h0] at key
 by_cases bad: ∃k,k<fr.length/\(fr[k]!<0\/(ac.length:Int)<=fr[k]!\/(fX (bo ac.length false) (fr.take k))[(fr[k]!).toNat]! =true)
 · rw [key.1 bad,if_neg]
   intro ok;obtain ⟨k,hk,hb⟩:=bad;have hr:=ok.fr fr[k]! (bI hk);dsimp only at hr;rcases hb with hb|hb|hb
   · omega
   · omega
   rw [rE _ _ _ (fun x hx=>(ok.fr x (ck hx)).1) (by rw [ce];omega),rep,d9] at hb
   have hi:((fr[k]!).toNat:Int)=fr[k]!:=by omega
   rw [hi] at hb;have hm:fr[k]!∈fr.take k:=of_decide_eq_true hb;obtain ⟨j,h1,h2,h3⟩:=cH.1 hm;exact iW.1 ok.fd j k h1 hk h3
 have good: ∀k,k<fr.length->0<=fr[k]!/\fr[k]!<ac.length/\(fX (bo ac.length false) (fr.take k))[(fr[k]!).toNat]! =false:=by
  intro k hk;refine ⟨?_,?_,?_⟩
  · exact Int.not_lt.1 fun h=>bad ⟨k,hk,.inl h⟩
  · exact Int.not_le.1 fun h=>bad ⟨k,hk,.inr (.inl h)⟩
  exact dv _▸fun h=>bad ⟨k,hk,.inr (.inr h)⟩
 rw [key.2 fun k hk hb=>bad ⟨k,hk,hb⟩]
 have rng: ∀x∈fr,0<=x/\x<(ac.length:Int):=by
  intro x hx;obtain ⟨k,hk,rfl⟩:=aY.1 hx;exact ⟨(good k hk).1,(good k hk).2.1⟩
 have g2: ∀k,k<fr.length->fr[k]!∉fr.take k:=by
  intro k hk;obtain ⟨c1,c2,c3⟩:=good k hk;rw [rE _ _ _ (fun x hx=>(rng x (ck hx)).1) (by rw [ce];omega),show ((fr[k]!).toNat:Int)=fr[k]! by omega,rep,d9] at c3
  exact of_decide_eq_false c3
 have nd:fr.Nodup:=iW.2 fun i j hij hj he=>g2 j hj (cH.2 ⟨i,hij,by omega,he⟩)
 have fl: ∀i,i<ac.length->(fX (bo ac.length false) fr)[i]! =decide ((i:Int)∈fr):=by
  intro i hi;rw [rE _ _ _ (fun x hx=>(rng x hx).1) (by rw [ce];omega),rep,d9]
 by_cases hx:(∀i,i<ac.length->0<=ac[i]!/\ac[i]!<=1000000/\ae[i]!≠(fX (bo ac.length false) fr)[i]!/\(ae[i]! =true->1<=ac[i]!))
 · rw [if_pos hx,if_pos]
   refine ⟨by show 1<=ac.length;omega,by show ac.length<=200;omega,a3,rng,nd,fun i hi=>?_,fun i hi=>?_⟩
   · have:=(hx i hi).2.2.1
     rw [fl i hi] at this;dsimp only;cases h:ae[i]! with
     |true=>
      rw [h] at this;refine ⟨fun _ hm=>?_,fun _=>rfl⟩
      rw [aJ hm] at this;exact this rfl
     |false=>
      rw [h] at this;refine ⟨fun h=>(by cases h),fun hm=>?_⟩
      rw [dec_f hm] at this;exact absurd rfl this
   have:=hx i hi
   exact ⟨this.1,this.2.1,this.2.2.2⟩
 rw [if_neg hx,if_neg]
 intro ok;refine hx fun i hi=>?_
 obtain ⟨u1,u2,u3⟩:=ok.us i hi;refine ⟨u1,u2,?_,u3⟩;rw [fl i hi]
 have:=ok.uf i hi
 dsimp only at this;intro he
 by_cases hm:(i:Int)∈fr
 · rw [aJ hm] at he;exact (this.1 he) hm
 rw [dec_f hm] at he
 have:=this.2 hm
 rw [he] at this;cases this
structure E6 (a:aP):Prop where
 fr:a.ai.af.length<=1000000
 hp:a.aj.length<=1000000
 wh:a.am.length<=1000000
 at64: ∀w,w<a.aj.length->tB ((a.aj[w]!).1,(a.aj[w]!).2.1)
structure fH (a:aP):Prop where
 so:fJ a.ai
 wl:a.am.length=a.ai.ac.length
 hl:a.aj.length+a.ai.af.length=a.ai.ac.length
 fwd: ∀i,i<a.ai.ac.length->a.ai.ae[i]! =true->0<=a.am[i]!/\a.am[i]!<a.aj.length/\(Ev.ix a.aj[(a.am[i]!).toNat]!)=i/\(a.aj[(a.am[i]!).toNat]!).2.2.2.2=a.ai.ac[i]!
 un: ∀i,i<a.ai.ac.length->a.ai.ae[i]! =false->a.am[i]! = -1
 ev: ∀w,w<a.aj.length->tX a.aj[w]!
 nd: ∀v w,v<w->w<a.aj.length->(Ev.num a.aj[v]!)≠(Ev.num a.aj[w]!)
 ord: ∀k,0<k->k<a.aj.length-> ¬dY a.aj[k]! a.aj[(k-1) / 2]!
theorem aNU: ∀(n:Nat) (l:List Nat),(∀x,x<n->x∈l)->n<=l.length
 |0,_,_=>Nat.zero_le _
 |n+1,l,h=>by
  have hn:=h n (by omega)
  have:=aNU n (l.erase n) (fun x hx=>by
   rw [List.mem_erase_of_ne (by omega)]
   exact h x (by omega))
  rw [List.length_erase_of_mem hn] at this
  have:=List.length_pos_of_mem hn
  omega
def SH (s:bD):List Nat:=(List.range s.ac.length).filter fun i=>s.ae[i]!
theorem GE {s:bD} {i:Nat}:i∈SH s↔i<s.ac.length/\s.ae[i]! =true:=by
 unfold SH;rw [ek,List.mem_range]
theorem GF {α β:Type} {f:α->β}: ∀{l:List α},l.Nodup->(∀x∈l,∀y∈l,f x=f y->x=y)->(l.map f).Nodup
 | [],_,_=>by simp
 |a::l,h,hf=>by
  rw [c6] at h;rw [List.map_cons,c6];refine ⟨?_,GF h.2 fun x hx y hy=>hf x (by simp [hx]) y (by simp [hy])⟩
  intro hm;obtain ⟨b,hb,e⟩:=cj.1 hm
  have:=hf b (by simp [hb]) a (by simp) e
  subst this;exact h.1 hb
theorem fH.back {a:aP} (ok:fH a) {w:Nat} (hw:w<a.aj.length):0<=(Ev.ix a.aj[w]!)/\(Ev.ix a.aj[w]!)<a.ai.ac.length/\a.ai.ae[(Ev.n a.aj[w]!)]! =true/\a.ai.ac[(Ev.n a.aj[w]!)]! =(a.aj[w]!).2.2.2.2/\a.am[(Ev.n a.aj[w]!)]! =(w:Int):=by
 have so:=ok.so;have len:a.ai.ac.length<=(SH a.ai).length+a.ai.af.length:=by
  have:=aNU a.ai.ac.length (SH a.ai++a.ai.af.map fb) (fun x hx=>by
   rw [dw]
   by_cases hu:a.ai.ae[x]! =true
   · exact .inl (GE.2 ⟨hx,hu⟩)
   right
   have:=so.uf x hx
   have hm:(x:Int)∈a.ai.af:=cb fun hc=>hu (this.2 hc)
   exact cj.2 ⟨_,hm,by omega⟩)
  rw [List.length_append,c7] at this;exact this
 have f0: ∀i∈SH a.ai,0<=a.am[i]!/\a.am[i]!<a.aj.length/\(Ev.ix a.aj[(a.am[i]!).toNat]!)=i/\(a.aj[(a.am[i]!).toNat]!).2.2.2.2=a.ai.ac[i]!:=fun i hi=>ok.fwd i (GE.1 hi).1 (GE.1 hi).2
 have full:=L3 (n:=a.aj.length) (l:=(SH a.ai).map fun i=>(a.am[i]!).toNat) (by
  refine GF ?_ ?_
  · exact List.Pairwise.filter _ List.nodup_range
  · intro x hx y hy he
    have h1:=(f0 x hx).2.2.1;have h2:=(f0 y hy).2.2.1;rw [he] at h1
    omega) (by
  intro x hx;obtain ⟨i,hi,rfl⟩:=cj.1 hx
  have:=f0 i hi
  omega) (by
  rw [c7]
  have:=ok.hl
  omega) w hw
 obtain ⟨i,hi,e⟩:=cj.1 full;obtain ⟨c1,c2,c3,c4⟩:=f0 i hi;obtain ⟨d1,d2⟩:=GE.1 hi;rw [e] at c3 c4;have hn:(Ev.n a.aj[w]!)=i:=by show ((Ev.ix a.aj[w]!)).toNat=i;omega
 rw [hn];refine ⟨by omega,by omega,d2,c4.symm,by omega⟩
noncomputable def aAQ (x y:Ev):Int:=if cQ (x.1,x.2.1)/\cQ (y.1,y.2.1) then PE x y else lH x.2.2.1 y.2.2.1
theorem IF {x y:Ev} (hx:tB (x.1,x.2.1)) (hy:tB (y.1,y.2.1)):cN x y=some (aAQ x y):=by
 unfold cN aAQ PE;rw [aFC hx hy]
 by_cases h:cQ (x.1,x.2.1)/\cQ (y.1,y.2.1)
 · rw [if_pos h,if_pos h]
   simp only [aB,mE,GA]
 rw [if_neg h,if_neg h]
 simp only [aB,mE,GA];simp
def PL (a:aP) (i:Nat):Prop:=(a.ai.ae[i]! =true->0<=a.am[i]!/\a.am[i]!<a.aj.length/\(Ev.ix a.aj[(a.am[i]!).toNat]!)=i/\(a.aj[(a.am[i]!).toNat]!).2.2.2.2=a.ai.ac[i]!)/\(a.ai.ae[i]! =false->a.am[i]! = -1)
def Q0 (H:List Ev) (k:Nat):Prop:=cQ ((H[k]!).1,(H[k]!).2.1)/\0<=(H[k]!).2.2.1/\(H[k]!).2.2.1<=1000000/\(∀j,j<k->(H[j]!).2.2.1≠(H[k]!).2.2.1)/\(0<k-> ¬aAQ H[k]! H[(k-1) / 2]!<0)
theorem fH.of {a:aP} (fit:E6 a) (so:fJ a.ai) (wl:a.am.length=a.ai.ac.length) (hl:a.aj.length+a.ai.af.length=a.ai.ac.length) (wh: ∀i,i<a.ai.ac.length->PL a i) (hp: ∀k,k<a.aj.length->Q0 a.aj k):fH a:=by
 have ev: ∀w,w<a.aj.length->tX a.aj[w]!:=fun w hw=>⟨(hp w hw).1,fit.at64 w hw,(hp w hw).2.1,(hp w hw).2.2.1⟩
 refine ⟨so,wl,hl,fun i hi=>(wh i hi).1,fun i hi=>(wh i hi).2,ev,fun v w hv hw=>(hp w hw).2.2.2.1 v hv,fun k k0 hk=>?_⟩
 have:=(hp k hk).2.2.2.2 k0
 unfold aAQ at this;rw [if_pos ⟨(hp k hk).1,(hp ((k-1) / 2) (by omega)).1⟩,JP] at this
 exact this
theorem fH.to {a:aP} (ok:fH a):(∀i,i<a.ai.ac.length->PL a i)/\(∀k,k<a.aj.length->Q0 a.aj k):=by
 refine ⟨fun i hi=>⟨ok.fwd i hi,ok.un i hi⟩,fun k hk=>?_⟩
 have e:=ok.ev k hk;refine ⟨e.1,e.2.2.1,e.2.2.2,fun j hj=>ok.nd j k hj hk,fun k0=>?_⟩
 unfold aAQ;rw [if_pos ⟨e.1,(ok.ev ((k-1) / 2) (by omega)).1⟩,JP]
 exact ok.ord k k0 hk
theorem SI (H:List Ev) (k:Nat) (n:Int):rV [n] ((H.take k).map fun x=>[x.2.2.1])=true:=by
 unfold rV;rw [List.all_eq_true];intro x hx;obtain ⟨y,hy,rfl⟩:=cj.1 hx;rfl
theorem SJ (H:List Ev) (k:Nat) (n:Int):MH ((H.take k).map fun x=>[x.2.2.1]) [n]=decide (∃j,j<k/\j<H.length/\(H[j]!).2.2.1=n):=by
 unfold MH;rw [Bool.eq_iff_iff,List.any_eq_true,decide_eq_true_iff];constructor
 · rintro ⟨x,hx,he⟩
   obtain ⟨y,hy,rfl⟩:=cj.1 hx;obtain ⟨j,h1,h2,rfl⟩:=cH.1 hy
   have:[n]=[(H[j]!).2.2.1]:=by simpa using he
   exact ⟨j,h1,h2,by injection this with h;exact h.symm⟩
 rintro ⟨j,h1,h2,h3⟩
 refine ⟨[(H[j]!).2.2.1],cj.2 ⟨H[j]!,cH.2 ⟨j,h1,h2,rfl⟩,rfl⟩,?_⟩;rw [h3];simp
theorem UX (H:List Ev) (u fr W:List Int) (us:List Bool) (hl:H.length<=1000000) (r64: ∀w,w<H.length->tB ((H[w]!).1,(H[w]!).2.1)):
 ((∀k,k<H.length->Q0 H k)->aG kM (H,(H.length:Int),0,u,us,fr,H,W,[])=some (.done 0))/\(¬(∀k,k<H.length->Q0 H k)->aG kM (H,(H.length:Int),0,u,us,fr,H,W,[])=some (.done 8)):=by
 have key:=dM (body:=kM) (fun k=>(H,(H.length:Int),(k:Int),u,us,fr,H,W,(H.take k).map fun x=>[x.2.2.1])) H.length (fun k=> ¬Q0 H k) (r:= .done 8) (e:= .done 0) (fun k hk=>by
  have e1:decide ((k:Int)<(H.length:Int))=true:=aJ (by omega)
  have ins: ∀n:Int,¬(∃j,j<k/\j<H.length/\(H[j]!).2.2.1=n)->WA ((H.take k).map fun x=>[x.2.2.1]) [n]=some (((H.take k).map fun x=>[x.2.2.1])++[[n]]):=by
   intro n hn;unfold WA Z0;rw [SI,SJ,dec_f hn];rfl
  have has: ∀n:Int,V9 ((H.take k).map fun x=>[x.2.2.1]) [n]=some (decide (∃j,j<k/\j<H.length/\(H[j]!).2.2.1=n)):=by
   intro n;unfold V9;rw [SI,SJ];rfl
  have nx:(H.take (k+1)).map (fun x=>[x.2.2.1])=((H.take k).map fun x=>[x.2.2.1])++[[(H[k]!).2.2.1]]:=by
   rw [fQ hk,List.map_append];rfl
  unfold kM;simp only [e1,cond_true,aE H k hk,aB,gO (r64 k hk),aU (show k<1000000000 by omega),has,nx]
  unfold Q0
  by_cases b1:cQ ((H[k]!).1,(H[k]!).2.1)
  case neg=>
   rw [if_neg b1];exact ⟨fun _=>rfl,fun h=>absurd (bn.1 h).1 b1⟩
  rw [if_pos b1]
  by_cases b2:(H[k]!).2.2.1<0
  · rw [aJ b2]
    exact ⟨fun _=>rfl,fun h=>absurd (bn.1 h).2.1 (by omega)⟩
  by_cases b3:1000000<(H[k]!).2.2.1
  · rw [dec_f b2,aJ b3]
    exact ⟨fun _=>rfl,fun h=>absurd (bn.1 h).2.2.1 (by omega)⟩
  rw [dec_f b2,dec_f b3]
  by_cases b4: ∃j,j<k/\j<H.length/\(H[j]!).2.2.1=(H[k]!).2.2.1
  · rw [aJ b4]
    refine ⟨fun _=>rfl,fun h=>?_⟩
    obtain ⟨j,j1,j2,j3⟩:=b4;exact absurd j3 ((bn.1 h).2.2.2.1 j j1)
  rw [dec_f b4,ins _ b4];have b4': ∀j,j<k->(H[j]!).2.2.1≠(H[k]!).2.2.1:=fun j hj he=>b4 ⟨j,hj,by omega,he⟩
  simp only [show ((0:Int) !=0)=false from rfl,cond_false,aB]
  by_cases b5:0<k
  · obtain ⟨m,rfl⟩: ∃m,k=m+1:=⟨k-1,by omega⟩
    have f1:decide ((0:Int)<((m+1:Nat):Int))=true:=aJ (by omega)
    simp only [f1,cond_true,wM (show m<1000000000 by omega),aE H (m / 2) (by omega),aB,IF (r64 (m+1) hk) (r64 (m / 2) (by omega)),show (m+1-1) / 2=m / 2 by omega]
    by_cases b6:aAQ H[m+1]! H[m / 2]!<0
    · rw [aJ b6]
      exact ⟨fun _=>rfl,fun h=>absurd b6 ((bn.1 h).2.2.2.2 (by omega))⟩
    rw [dec_f b6]
    exact ⟨fun h=>absurd ⟨b1,by omega,by omega,b4',fun _=>b6⟩ h,fun _=>rfl⟩
  · have f1:decide ((0:Int)<(k:Int))=false:=dec_f (by omega)
    rw [f1];exact ⟨fun h=>absurd ⟨b1,by omega,by omega,b4',fun h=>absurd h b5⟩ h,fun _=>rfl⟩) (by
  unfold kM
  have:decide ((H.length:Int)<(H.length:Int))=false:=dec_f (by omega)
  simp only [this,cond_false])
 constructor
 · intro h
   exact key.2 fun i hi=>bn.2 (h i hi)
 intro h
 obtain ⟨i,h⟩:=bw.1 h;obtain ⟨hi,hx⟩:=cy.1 h;exact key.1 ⟨i,hi,hx⟩
end Go.Proofs.YtbgoiokedpjgbaaGreat
