/- Plain laws (1). -/
import Derived.Test.YtjikemfbommnlaaGreatRVm2
import Derived.Test.YtjikemfbommnlaaGreatRVm1
import Derived.Test.YtjikemfbommnlaaGreatRQS2
namespace Go.Proofs.YtjikemfbommnlaaGreat
open Go.Vm
abbrev I64 (n:Int):Prop:= -9223372036854775808<=n/\n<9223372036854775808
abbrev U64 (n:Int):Prop:=0<=n/\n<18446744073709551616
theorem wi (n:Int):wrapF .i64 n=(n+9223372036854775808)%18446744073709551616-9223372036854775808:=by
 rw [wrapF_eq];simp only [IntKind.wrap,IntKind.bits,IntKind.signed,Bool.true_and];have e1:(2:Int)^64=18446744073709551616:=by decide
 have e2:(2:Int)^(64-1)=9223372036854775808:=by decide
 simp only [e1,e2,decide_eq_true_eq];split<;>omega
theorem wu (n:Int):wrapF .u64 n=n%18446744073709551616:=by
 rw [wrapF_eq];simp only [IntKind.wrap,IntKind.bits,IntKind.signed,Bool.false_and];have e1:(2:Int)^64=18446744073709551616:=by decide
 simp only [e1];simp
theorem wi_id {n:Int} (h:I64 n):wrapF .i64 n=n:=by rw [wi];omega
theorem wu_id {n:Int} (h:U64 n):wrapF .u64 n=n:=by rw [wu];omega
theorem bne_t {a b:Int} (h:a≠b):(a !=b)=true:=by simpa using h
theorem bne_f {a b:Int} (h:a=b):(a !=b)=false:=by simpa using h
theorem beq_t {a b:Int} (h:a=b):(a==b)=true:=by simpa using h
theorem beq_f {a b:Int} (h:a≠b):(a==b)=false:=by simpa using h
theorem beq_dec (a b:Int):(a==b)=decide (a=b):=by
 by_cases h:a=b
 · rw [beq_t h,decide_eq_true h]
 · rw [beq_f h,decide_eq_false h]
theorem lt_or_ge (a b:Int):a<b\/b<=a:=by omega
theorem bShr32 (a:Int):bShr .u64 a 32=a / 4294967296:=by
 unfold bShr;rw [show (min (32:Int).toNat (IntKind.bits .u64))=32 from by decide,show (2:Int)^32=4294967296 from by decide]
 exact Int.fdiv_eq_ediv_of_nonneg _ (by decide)
theorem bAnd32 {a:Int} (h:U64 a):bAnd .u64 a 4294967295=a%4294967296:=by
 obtain ⟨n,rfl⟩:=Int.eq_ofNat_of_zero_le h.1;unfold bAnd;have e:(BitVec.ofInt (IntKind.bits .u64) (n:Int)&&&BitVec.ofInt (IntKind.bits .u64) 4294967295).toNat=n%4294967296:=by
  rw [BitVec.toNat_and];have e1:(BitVec.ofInt (IntKind.bits .u64) (n:Int)).toNat=n:=by
   rw [BitVec.toNat_ofInt]
   have:((2^(IntKind.bits .u64):Nat):Int)=18446744073709551616:=by decide
   rw [this];omega
  have e2:(BitVec.ofInt (IntKind.bits .u64) (4294967295:Int)).toNat=2^32-1:=by decide
  rw [e1,e2,Nat.and_two_pow_sub_one_eq_mod]
 rw [e]
 have:=wu ((n%4294967296:Nat):Int)
 rw [wrapF_eq] at this;rw [this];omega
theorem half_eq {a b:Nat} (ha:a<1000000000) (hb:b<1000000000):wrapF .i64 (bShr .u64 (wrapF .u64 (wrapF .i64 ((a:Int)+(b:Int)))) 1)=(((a+b) / 2:Nat):Int):=by
 unfold bShr;rw [show (min (1:Int).toNat (IntKind.bits .u64))=1 from by decide,show (2:Int)^1=2 from by decide,Int.fdiv_eq_ediv_of_nonneg _ (by decide),wi (_+_),wu,wi]
 omega
section
variable {σ ρ : Type} {body : σ -> Option (Step σ ρ)}
theorem while_steps (st:Nat->σ) (n:Nat) (h: ∀i,i<n->body (st i)=some (.next (st (i+1)))):whileO body (st 0)=whileO body (st n):=by
 induction n with
 |zero=>rfl
 |succ n ih=>
  rw [ih fun i hi=>h i (by omega)]
  exact whileO_next (h n (by omega))
theorem while_any (st:Nat->σ) (n:Nat) (c:Nat->Prop) {r e:ρ} (h: ∀i,i<n->(c i->body (st i)=some (.done r))/\(¬c i->body (st i)=some (.next (st (i+1)))))
 (hend:body (st n)=some (.done e)):((∃i,i<n/\c i)->whileO body (st 0)=some r)/\((∀i,i<n-> ¬c i)->whileO body (st 0)=some e):=by
 constructor
 · rintro ⟨i,hi,hc⟩
   have key: ∀k,k<=n->(∃i,i<n/\n-k<=i/\c i)->whileO body (st (n-k))=some r:=by
    intro k
    induction k with
    |zero=>rintro _ ⟨i,h1,h2,_⟩;omega
    |succ k ih=>
     rintro hk ⟨i,h1,h2,h3⟩
     by_cases hc:c (n- (k+1))
     · exact whileO_done ((h _ (by omega)).1 hc)
     · rw [whileO_next ((h _ (by omega)).2 hc),show n- (k+1)+1=n-k by omega]
       refine ih (by omega) ⟨i,h1,?_,h3⟩
       by_cases he:i=n- (k+1)
       · subst he;exact absurd h3 hc
       · omega
   have:=key n (Nat.le_refl n) ⟨i,hi,by omega,hc⟩
   rwa [Nat.sub_self] at this
 · intro hn
   rw [while_steps st n fun i hi=>(h i hi).2 (hn i hi)]
   exact whileO_done hend
theorem least {c:Nat->Prop}: ∀{n:Nat},(∃i,i<n/\c i)-> ∃k,k<n/\c k/\ ∀j,j<k-> ¬c j
 |0,h=>by obtain ⟨i,hi,_⟩:=h;omega
 |n+1,h=>by
  by_cases hx: ∃i,i<n/\c i
  · obtain ⟨k,h1,h2,h3⟩:=least hx
    exact ⟨k,by omega,h2,h3⟩
  · obtain ⟨i,hi,hc⟩:=h
    refine ⟨i,hi,hc,fun j hj hcj=>hx ⟨j,by omega,hcj⟩⟩
theorem while_first (st:Nat->σ) (n:Nat) (c:Nat->Prop) (r:Nat->ρ) {e:ρ} (h: ∀i,i<n->(c i->body (st i)=some (.done (r i)))/\(¬c i->body (st i)=some (.next (st (i+1)))))
 (hend:body (st n)=some (.done e)):(∀k,k<n->c k->(∀j,j<k-> ¬c j)->whileO body (st 0)=some (r k))/\((∀i,i<n-> ¬c i)->whileO body (st 0)=some e):=by
 constructor
 · intro k hk hc hj
   rw [while_steps st k fun i hi=>(h i (by omega)).2 (hj i hi)]
   exact whileO_done ((h k hk).1 hc)
 · intro hn
   rw [while_steps st n fun i hi=>(h i hi).2 (hn i hi)]
   exact whileO_done hend
theorem while_bin (st:Nat->Nat->σ) (n m:Nat) (c:Nat->Prop)
 (h: ∀lo hi,lo<hi->hi<=n->(c ((lo+hi) / 2)->body (st lo hi)=some (.next (st ((lo+hi) / 2+1) hi)))/\(¬c ((lo+hi) / 2)->body (st lo hi)=some (.next (st lo ((lo+hi) / 2)))))
 (h1: ∀i,i<m->c i) (h2: ∀i,m<=i->i<n-> ¬c i): ∀d lo hi,hi-lo<=d->lo<=m->m<=hi->hi<=n->whileO body (st lo hi)=whileO body (st m m)
 |0,lo,hi,hd,a,b,_=>by
  have e1:lo=m:=by omega
  have e2:hi=m:=by omega
  rw [e1,e2]
 |d+1,lo,hi,hd,a,b,e=>by
  by_cases hl:lo<hi
  · by_cases hc:c ((lo+hi) / 2)
    · rw [whileO_next ((h lo hi hl e).1 hc)]
      refine while_bin st n m c h h1 h2 d _ _ (by omega) ?_ b e
      refine Classical.byContradiction fun hx=>?_
      exact h2 ((lo+hi) / 2) (by omega) (by omega) hc
    · rw [whileO_next ((h lo hi hl e).2 hc)]
      refine while_bin st n m c h h1 h2 d _ _ (by omega) a ?_ (by omega)
      refine Classical.byContradiction fun hx=>?_
      exact hc (h1 ((lo+hi) / 2) (by omega))
  · have e1:lo=m:=by omega
    have e2:hi=m:=by omega
    rw [e1,e2]
theorem while_inv {P:σ->Prop} (m:σ->Nat) (x:σ) (h0:P x) (hs: ∀y,P y->(∃r,body y=some (.done r))\/ ∃z,body y=some (.next z)/\P z/\m z<m y): ∃r,whileO body x=some r:=by
 generalize hn:m x=n
 induction n using Nat.strongRecOn generalizing x with
 |ind n ih=>
  rcases hs x h0 with ⟨r,hr⟩|⟨z,hz,hp,hm⟩
  · exact ⟨r,whileO_done hr⟩
  · rw [whileO_next hz]
    exact ih (m z) (by omega) z hp rfl
end
section
variable {α : Type} [Inhabited α]
theorem geti_nat (l:List α) (n:Nat) (h:n<l.length):geti l (n:Int)=some l[n]!:=by
 show l[n]? =some l[n]!;rw [List.getElem?_eq_getElem h,getElem!_pos l n h]
theorem geti_int {l:List α} {i:Int} (h0:0<=i) (h:i<l.length):geti l i=some l[i.toNat]!:=by
 obtain ⟨n,rfl⟩:=Int.eq_ofNat_of_zero_le h0;exact geti_nat l n (by omega)
theorem geti_bad {β:Type} {l:List β} {i:Int} (h:i<0\/(l.length:Int)<=i):geti l i=none:=by
 unfold geti;split
 · rename_i n
   have e:Int.ofNat n=(n:Int):=rfl;rw [e] at h;rw [List.getElem?_eq_none_iff];omega
 · rfl
theorem seti_nat {β:Type} (l:List β) (n:Nat) (a:β):seti l (n:Int) a=l.set n a:=rfl
theorem bang_set (l:List α) (n m:Nat) (a:α):(l.set n a)[m]! =if m=n/\n<l.length then a else l[m]!:=by
 by_cases hm:m<l.length
 · rw [getElem!_pos (l.set n a) m (by simpa using hm),getElem!_pos l m hm,List.getElem_set]
   split
   · rw [if_pos (by omega)]
   · rw [if_neg (by omega)]
 · rw [getElem!_neg (l.set n a) m (by simpa using hm),getElem!_neg l m hm]
   split
   · omega
   · rfl
theorem mem_bang {l:List α} {x:α}:x∈l↔ ∃i,i<l.length/\l[i]! =x:=by
 rw [List.mem_iff_getElem];constructor
 · rintro ⟨i,h,rfl⟩;exact ⟨i,h,getElem!_pos l i h⟩
 · rintro ⟨i,h,rfl⟩;exact ⟨i,h,(getElem!_pos l i h).symm⟩
theorem bang_mem {l:List α} {i:Nat} (h:i<l.length):l[i]!∈l:=mem_bang.2 ⟨i,h,rfl⟩
theorem bang_app_left {l m:List α} {i:Nat} (h:i<l.length):(l++m)[i]! =l[i]!:=by
 rw [getElem!_pos (l++m) i (by simp;omega),getElem!_pos l i h,List.getElem_append_left h]
theorem bang_app_right {l m:List α} {i:Nat} (h:l.length<=i):(l++m)[i]! =m[i-l.length]!:=by
 by_cases hi:i<l.length+m.length
 · rw [getElem!_pos (l++m) i (by simp;omega),getElem!_pos m (i-l.length) (by omega),List.getElem_append_right h]
 · rw [getElem!_neg (l++m) i (by simp;omega),getElem!_neg m (i-l.length) (by omega)]
theorem bang_take {l:List α} {n i:Nat} (h:i<n):(l.take n)[i]! =l[i]!:=by
 by_cases hi:i<l.length
 · rw [getElem!_pos (l.take n) i (by simp;omega),getElem!_pos l i hi,List.getElem_take]
 · rw [getElem!_neg (l.take n) i (by simp;omega),getElem!_neg l i hi]
theorem bang_drop {l:List α} {n i:Nat}:(l.drop n)[i]! =l[n+i]!:=by
 by_cases hi:n+i<l.length
 · rw [getElem!_pos (l.drop n) i (by simp;omega),getElem!_pos l (n+i) hi,List.getElem_drop]
 · rw [getElem!_neg (l.drop n) i (by simp;omega),getElem!_neg l (n+i) hi]
theorem ext_bang {l m:List α} (hl:l.length=m.length) (h: ∀i,i<l.length->l[i]! =m[i]!):l=m:=by
 apply List.ext_getElem hl;intro i h1 h2
 have:=h i h1
 rwa [getElem!_pos l i h1,getElem!_pos m i h2] at this
theorem split_at {l:List α} {i:Nat} (h:i<l.length):l=l.take i++l[i]!::l.drop (i+1):=by
 rw [getElem!_pos l i h,List.getElem_cons_drop,List.take_append_drop]
end
theorem cloneO_le {α:Type} {l:List α} (h:l.length<=1048576):cloneO l=some l:=by unfold cloneO;rw [if_pos h]
theorem appendO_le {α:Type} {l m:List α} (h:l.length+m.length<=1048576):appendO l m=some (l++m):=by unfold appendO;rw [if_pos h]
@[simp] theorem bindS {α β:Type} (a:α) (f:α->Option β):(some a).bind f=f a:=rfl
end Go.Proofs.YtjikemfbommnlaaGreat
namespace Go.Proofs.YtjikemfbommnlaaGreat
open Go.Vm Classical
theorem ref01_size_eq {n:Int} (h:I64 n):ref01_size n=some (n.natAbs:Int):=by
 unfold ref01_size;simp only [wi,wu]
 by_cases hn:n<0
 · simp only [hn,decide_true,cond_true,Option.some.injEq];omega
 · simp only [hn,decide_false,cond_false,Option.some.injEq];omega
theorem ratio_abs_eq {n:Int} (h:I64 n):ratio_abs n=some (n.natAbs:Int):=by
 unfold ratio_abs;simp only [wu]
 by_cases hn:n<0
 · simp only [hn,decide_true,cond_true,Option.some.injEq];omega
 · simp only [hn,decide_false,cond_false,Option.some.injEq];omega
theorem ref01_common_nat (m n:Nat):ref01_common m n=some (Nat.gcd m n:Int):=by
 unfold ref01_common
 induction n using Nat.strongRecOn generalizing m with
 |ind n ih=>
  by_cases h0:n=0
  · subst h0
    rw [Nat.gcd_zero_right];exact whileO_done (by simp [ref01_common_l1])
  · have e:ref01_common_l1 ((m:Int),(n:Int))=some (.next ((n:Int),((m%n:Nat):Int))):=by
     have h1:((n:Int) !=0)=true:=by simp;omega
     have h2:((n:Int)==0)=false:=by simp;omega
     simp only [ref01_common_l1,h1,h2,cond_true,cond_false,Int.ofNat_tmod]
    rw [whileO_next e,ih (m%n) (Nat.mod_lt _ (by omega)) n,Nat.gcd_comm m n,Nat.gcd_rec n m,Nat.gcd_comm]
theorem ratio_gcd_nat (m n:Nat):ratio_gcd m n=some (Nat.gcd m n:Int):=by
 unfold ratio_gcd
 induction n using Nat.strongRecOn generalizing m with
 |ind n ih=>
  by_cases h0:n=0
  · subst h0
    rw [Nat.gcd_zero_right];exact whileO_done (by simp [ratio_gcd_l1])
  · have e:ratio_gcd_l1 ((m:Int),(n:Int))=some (.next ((n:Int),((m%n:Nat):Int))):=by
     have h1:decide (0<(n:Int))=true:=by simp;omega
     have h2:((n:Int)==0)=false:=by simp;omega
     simp only [ratio_gcd_l1,h1,h2,cond_true,cond_false,Int.ofNat_tmod]
    rw [whileO_next e,ih (m%n) (Nat.mod_lt _ (by omega)) n,Nat.gcd_comm m n,Nat.gcd_rec n m,Nat.gcd_comm]
def RatOK (r:Int×Int):Prop:=1<=r.2/\r.1≠ -9223372036854775808/\Nat.gcd r.2.natAbs r.1.natAbs=1
abbrev R64 (r:Int×Int):Prop:=I64 r.1/\I64 r.2
theorem ratio_Check_eq {r:Int×Int} (h:R64 r):ratio_Check r=some (if RatOK r then 0 else 8):=by
 obtain ⟨a,b⟩:=r;obtain ⟨ha,hb⟩:=h;unfold ratio_Check RatOK;dsimp only at ha hb ⊢
 by_cases h1:b<1
 · rw [if_neg (by omega)];simp [h1]
 · by_cases h2:a= -9223372036854775808
   · rw [if_neg (by omega)];simp [h1,h2]
   · have e2:(a== -9223372036854775808)=false:=by simpa using h2
     have e3:wrapF .u64 b=(b.natAbs:Int):=by rw [wu];omega
     simp only [h1,decide_false,cond_false,e2,ratio_abs_eq ha,bindS,e3,ratio_gcd_nat];have hp:0<Nat.gcd b.natAbs a.natAbs:=Nat.gcd_pos_of_pos_left _ (by omega)
     by_cases h3:Nat.gcd b.natAbs a.natAbs=1
     · rw [if_pos ⟨by omega,h2,h3⟩,h3];rfl
     · rw [if_neg (fun h=>h3 h.2.2)]
       have:decide (1<(Nat.gcd b.natAbs a.natAbs:Int))=true:=by simp;omega
       rw [this];rfl
theorem ref01_Check_eq {r:Int×Int} (h:R64 r):ref01_Check r=some (if RatOK r then 0 else 8):=by
 obtain ⟨a,b⟩:=r;obtain ⟨ha,hb⟩:=h;unfold ref01_Check RatOK;dsimp only at ha hb ⊢
 by_cases h1:b<1
 · rw [if_neg (by omega)];simp [h1]
 · by_cases h2:a= -9223372036854775808
   · rw [if_neg (by omega)];simp [h1,h2]
   · have e2:(a== -9223372036854775808)=false:=by simpa using h2
     have e3:wrapF .u64 b=(b.natAbs:Int):=by rw [wu];omega
     simp only [h1,decide_false,cond_false,e2,ref01_size_eq ha,bindS,e3,ref01_common_nat];rw [Nat.gcd_comm]
     by_cases h3:Nat.gcd b.natAbs a.natAbs=1
     · rw [if_pos ⟨by omega,h2,h3⟩,h3];rfl
     · rw [if_neg (fun h=>h3 h.2.2)]
       have:((Nat.gcd b.natAbs a.natAbs:Int) !=1)=true:=by simp;omega
       rw [this];rfl
theorem halves (x y:Int) (hx:U64 x) (hy:U64 y): ∃p q r s:Int,0<=p/\p<=18446744065119617025/\0<=q/\q<=18446744065119617025/\0<=r/\r<=18446744065119617025/\0<=s/\s<=18446744065119617025/\
 x / 4294967296*(y / 4294967296)=p/\x / 4294967296*(y%4294967296)=q/\x%4294967296*(y / 4294967296)=r/\x%4294967296*(y%4294967296)=s/\
 x*y=p*18446744073709551616+(q+r)*4294967296+s:=by
 have hx1:0<=x / 4294967296/\x / 4294967296<=4294967295:=by omega
 have hx0:0<=x%4294967296/\x%4294967296<=4294967295:=by omega
 have hy1:0<=y / 4294967296/\y / 4294967296<=4294967295:=by omega
 have hy0:0<=y%4294967296/\y%4294967296<=4294967295:=by omega
 have ex:x=x / 4294967296*4294967296+x%4294967296:=by omega
 have ey:y=y / 4294967296*4294967296+y%4294967296:=by omega
 generalize x / 4294967296=a at*;generalize x%4294967296=b at*;generalize y / 4294967296=c at*;generalize y%4294967296=d at*;have bd: ∀{u v:Int},0<=u/\u<=4294967295->0<=v/\v<=4294967295->0<=u*v/\u*v<=18446744065119617025:=by
  intro u v hu hv;refine ⟨Int.mul_nonneg hu.1 hv.1,?_⟩
  calc u*v<=4294967295*4294967295:=Int.mul_le_mul hu.2 hv.2 hv.1 (by decide)
   _=_:=by decide
 refine ⟨a*c,a*d,b*c,b*d,(bd hx1 hy1).1,(bd hx1 hy1).2,(bd hx1 hy0).1,(bd hx1 hy0).2,(bd hx0 hy1).1,(bd hx0 hy1).2,(bd hx0 hy0).1,(bd hx0 hy0).2,rfl,rfl,rfl,rfl,?_⟩;rw [ex,ey]
 grind
theorem mul64_eq {x y:Int} (hx:U64 x) (hy:U64 y):math_bits_Mul64 x y=some (x*y / 18446744073709551616,x*y%18446744073709551616):=by
 unfold math_bits_Mul64;obtain ⟨p,q,r,s,p0,p1,q0,q1,r0,r1,s0,s1,ep,eq,er,es,exy⟩:=halves x y hx hy;have key: ∀z:Int,bAnd .u64 (z%18446744073709551616) 4294967295=z%18446744073709551616%4294967296:=fun z=>bAnd32 (by constructor<;>omega)
 simp only [bShr32,bAnd32 hx,bAnd32 hy,wu,key,ep,eq,er,es,exy,Option.some.injEq,Prod.mk.injEq,and_true];clear ep eq er es exy key hx hy;have e1:s%18446744073709551616=s:=by omega
 have e2:(q+s / 4294967296)%18446744073709551616=q+s / 4294967296:=by omega
 have ep:p%18446744073709551616=p:=by omega
 have eq:q%18446744073709551616=q:=by omega
 have er:r%18446744073709551616=r:=by omega
 rw [e1,ep,eq,er,e2];have e3:s=s / 4294967296*4294967296+s%4294967296:=by omega
 have e4:q+s / 4294967296=(q+s / 4294967296) / 4294967296*4294967296+(q+s / 4294967296)%4294967296:=by omega
 have b1:0<=s%4294967296/\s%4294967296<4294967296:=by omega
 have b2:0<=(q+s / 4294967296)%4294967296/\(q+s / 4294967296)%4294967296<4294967296:=by omega
 have b3:0<=(q+s / 4294967296) / 4294967296/\(q+s / 4294967296) / 4294967296<=4294967295:=by omega
 have b4:0<=s / 4294967296/\s / 4294967296<=4294967295:=by omega
 generalize (q+s / 4294967296) / 4294967296=t1 at*;generalize (q+s / 4294967296)%4294967296=t0 at*;generalize s / 4294967296=c1 at*;generalize s%4294967296=c0 at*;clear e1 e2;have e5:(t0+r)%18446744073709551616=t0+r:=by omega
 rw [e5];have e6:t0+r=(t0+r) / 4294967296*4294967296+(t0+r)%4294967296:=by omega
 have b5:0<=(t0+r)%4294967296/\(t0+r)%4294967296<4294967296:=by omega
 have b6:0<=(t0+r) / 4294967296/\(t0+r) / 4294967296<=4294967295:=by omega
 generalize (t0+r) / 4294967296=u1 at*;generalize (t0+r)%4294967296=u0 at*;omega
theorem product_eq {x y:Int} (hx:U64 x) (hy:U64 y):ref01_product x y=some (false,x*y / 18446744073709551616,x*y%18446744073709551616):=by
 unfold ref01_product;obtain ⟨p,q,r,s,p0,p1,q0,q1,r0,r1,s0,s1,ep,eq,er,es,exy⟩:=halves x y hx hy;have t1: ∀a:Int,0<=a->Int.tdiv a 4294967296=a / 4294967296:=fun a h=>Int.tdiv_eq_ediv_of_nonneg h
 have t2: ∀a:Int,0<=a->Int.tmod a 4294967296=a%4294967296:=fun a h=>Int.tmod_eq_emod_of_nonneg h
 simp only [wu];rw [t1 x hx.1,t1 y hy.1,t2 x hx.1,t2 y hy.1];have f1:x / 4294967296%18446744073709551616=x / 4294967296:=by omega
 have f2:y / 4294967296%18446744073709551616=y / 4294967296:=by omega
 simp only [f1,f2,ep,eq,er,es];have g: ∀a:Int,Int.tdiv (a%18446744073709551616) 4294967296=a%18446744073709551616 / 4294967296:=fun a=>t1 _ (by omega)
 have g2: ∀a:Int,Int.tmod (a%18446744073709551616) 4294967296=a%18446744073709551616%4294967296:=fun a=>t2 _ (by omega)
 simp only [g,g2,exy,Option.some.injEq,Prod.mk.injEq,true_and];constructor<;>omega
def bigV (a:Bool×Int×Int):Int:=if a.1=true then -(a.2.1*18446744073709551616+a.2.2) else a.2.1*18446744073709551616+a.2.2
abbrev B64 (a:Bool×Int×Int):Prop:=U64 a.2.1/\U64 a.2.2
theorem natAbs_bd {n:Int} (h:I64 n):U64 (n.natAbs:Int):=by constructor<;>omega
theorem natAbs_le {n:Int} (h:I64 n):(n.natAbs:Int)<=9223372036854775808:=by omega
theorem abs_mul (a b:Int):((a.natAbs:Int)*(b.natAbs:Int))=((a*b).natAbs:Int):=by rw [Int.natAbs_mul];rfl
theorem abs_mul_le {a b:Int} (ha:I64 a) (hb:I64 b):((a*b).natAbs:Int)<=85070591730234615865843651857942052864:=by
 rw [<- abs_mul]
 calc (a.natAbs:Int)*(b.natAbs:Int)<=9223372036854775808*9223372036854775808:=Int.mul_le_mul (natAbs_le ha) (natAbs_le hb) (by omega) (by decide)
  _=_:=by decide
theorem Product_eq {a b:Int} (ha:I64 a) (hb:I64 b):
 ref01_Product a b=some (decide (a*b<0),((a*b).natAbs:Int) / 18446744073709551616,((a*b).natAbs:Int)%18446744073709551616):=by
 unfold ref01_Product;simp only [ref01_size_eq ha,ref01_size_eq hb,bindS,product_eq (natAbs_bd ha) (natAbs_bd hb),abs_mul];have hs:(a*b<0)↔((a<0/\0<b)\/(0<a/\b<0)):=by
  constructor
  · intro h
    rcases Int.lt_trichotomy a 0 with h1|h1|h1
    · rcases Int.lt_trichotomy b 0 with h2|h2|h2
      · have:=Int.mul_pos_of_neg_of_neg h1 h2;omega
      · subst h2;simp at h
      · exact .inl ⟨h1,h2⟩
    · subst h1;simp at h
    · rcases Int.lt_trichotomy b 0 with h2|h2|h2
      · exact .inr ⟨h1,h2⟩
      · subst h2;simp at h
      · have:=Int.mul_pos h1 h2;omega
  · rintro (⟨h1,h2⟩|⟨h1,h2⟩)
    · exact Int.mul_neg_of_neg_of_pos h1 h2
    · exact Int.mul_neg_of_pos_of_neg h1 h2
 have hd:decide (a*b<0)=decide ((a<0/\0<b)\/(0<a/\b<0)):=by simp only [hs]
 rw [hd];clear hd hs;generalize ((a*b).natAbs:Int)=z
 by_cases h1:a<0
 · have h1': ¬0<a:=by omega
   have h1'':(a !=0)=true:=bne_t (by omega)
   by_cases h2:b<0
   · have h2': ¬0<b:=by omega
     simp [h1,h2,h1',h2']
   · by_cases h3:b=0
     · simp [h1,h3,h1'']
     · have h3':0<b:=by omega
       simp [h1,h2,h3',h1'',bne_t h3]
 · by_cases h0:a=0
   · subst h0
     by_cases h2:b<0<;>simp [h2]
   · have h1':0<a:=by omega
     by_cases h2:b<0
     · have h2':(b !=0)=true:=bne_t (by omega)
       simp [h1,h2,h1',bne_t h0,h2']
     · simp [h1,h2,h1']
theorem times_eq {a b:Int} (ha:I64 a) (hb:I64 b):
 ratio_times a b=some (!(decide (a<0)==decide (b<0)),((a*b).natAbs:Int) / 18446744073709551616,((a*b).natAbs:Int)%18446744073709551616):=by
 unfold ratio_times;simp only [ratio_abs_eq ha,ratio_abs_eq hb,bindS,mul64_eq (natAbs_bd ha) (natAbs_bd hb),abs_mul]
def cmpI (a b:Int):Int:=if a<b then -1 else if b<a then 1 else 0
theorem Compare_54_eq (a b:Int):cmp_Compare_int64 a b=some (cmpI a b):=by
 unfold cmp_Compare_int64 cmp_isNaN_int64 cmpI
 by_cases h1:a<b<;>by_cases h2:b<a<;>simp [h1,h2]
theorem Compare_82_eq (a b:Int):cmp_Compare_uint64 a b=some (cmpI a b):=by
 unfold cmp_Compare_uint64 cmp_isNaN_uint64 cmpI
 by_cases h1:a<b<;>by_cases h2:b<a<;>simp [h1,h2]
theorem Compare_121_eq (a b:Int):cmp_Compare_int a b=some (cmpI a b):=by
 unfold cmp_Compare_int cmp_isNaN_int cmpI
 by_cases h1:a<b<;>by_cases h2:b<a<;>simp [h1,h2]
theorem cmpI_cases (a b:Int):(a<b/\cmpI a b= -1)\/(a=b/\cmpI a b=0)\/(b<a/\cmpI a b=1):=by
 unfold cmpI
 by_cases h1:a<b
 · exact .inl ⟨h1,by rw [if_pos h1]⟩
 · by_cases h2:b<a
   · exact .inr (.inr ⟨h2,by rw [if_neg h1,if_pos h2]⟩)
   · exact .inr (.inl ⟨by omega,by rw [if_neg h1,if_neg h2]⟩)
theorem less_eq (a b:Bool×Int×Int) (ha:B64 a) (hb:B64 b):ref01_less a b=some (cmpI (a.2.1*18446744073709551616+a.2.2) (b.2.1*18446744073709551616+b.2.2)):=by
 obtain ⟨s,ah,al⟩:=a;obtain ⟨t,bh,bl⟩:=b;obtain ⟨⟨a1,a2⟩,a3,a4⟩:=ha;obtain ⟨⟨b1,b2⟩,b3,b4⟩:=hb;dsimp only at*;unfold ref01_less cmpI;dsimp only
 by_cases h1:ah=bh
 · subst h1
   by_cases h2:al=bl
   · subst h2;simp
   · by_cases h3:al<bl
     · simp [bne_t h2,h3]
     · rw [if_neg (by omega),if_pos (by omega)];simp [bne_t h2,h3]
 · by_cases h3:ah<bh
   · rw [if_pos (by omega)];simp [bne_t h1,h3]
   · rw [if_neg (by omega),if_pos (by omega)];simp [bne_t h1,h3]
theorem compare_eq (a b:Bool×Int×Int) (ha:B64 a) (hb:B64 b):ratio_compare a b=some (cmpI (a.2.1*18446744073709551616+a.2.2) (b.2.1*18446744073709551616+b.2.2)):=by
 obtain ⟨s,ah,al⟩:=a;obtain ⟨t,bh,bl⟩:=b;obtain ⟨⟨a1,a2⟩,a3,a4⟩:=ha;obtain ⟨⟨b1,b2⟩,b3,b4⟩:=hb;dsimp only at*;unfold ratio_compare;simp only [Compare_82_eq,bindS];unfold cmpI
 by_cases h1:ah=bh
 · subst h1
   by_cases h3:al<bl
   · simp [h3]
   · by_cases h2:bl<al
     · rw [if_neg (show¬(ah*18446744073709551616+al<ah*18446744073709551616+bl) by omega),if_pos (show ah*18446744073709551616+bl<ah*18446744073709551616+al by omega)];simp [h2,h3]
     · have:al=bl:=by omega
       subst this;simp
 · by_cases h3:ah<bh
   · rw [if_pos (show ah*18446744073709551616+al<bh*18446744073709551616+bl by omega)];simp [h3]
   · rw [if_neg (show¬(ah*18446744073709551616+al<bh*18446744073709551616+bl) by omega),if_pos (show bh*18446744073709551616+bl<ah*18446744073709551616+al by omega)];simp [h3,show bh<ah by omega]
theorem B64_abs (a:Bool) {n:Int} (h0:0<=n) (h:n<=85070591730234615865843651857942052864):B64 (a,n / 18446744073709551616,n%18446744073709551616):=by
 constructor<;>constructor<;>dsimp only<;>omega
theorem Sign_eq {n:Int} (h:(n.natAbs:Int)<=85070591730234615865843651857942052864):ref01_Sign (decide (n<0),(n.natAbs:Int) / 18446744073709551616,(n.natAbs:Int)%18446744073709551616)=some (cmpI n 0):=by
 unfold ref01_Sign cmpI;dsimp only
 by_cases h0:n=0
 · subst h0;simp
 · by_cases h1:n<0
   · rw [if_pos h1]
     by_cases h2:(n.natAbs:Int) / 18446744073709551616=0
     · have h3: ¬((n.natAbs:Int)%18446744073709551616=0):=by omega
       simp [h1,h2,beq_f h3]
     · simp [h1,beq_f h2]
   · rw [if_neg h1,if_pos (by omega)]
     by_cases h2:(n.natAbs:Int) / 18446744073709551616=0
     · have h3: ¬((n.natAbs:Int)%18446744073709551616=0):=by omega
       simp [h1,h2,beq_f h3]
     · simp [h1,beq_f h2]
def cmpR (a b:Int×Int):Int:=cmpI (a.1*b.2) (b.1*a.2)
theorem Compare_eq {a b:Int×Int} (ha:R64 a) (hb:R64 b):ref01_Compare a b=some (cmpR a b):=by
 unfold ref01_Compare cmpR;have n1:=abs_mul_le ha.1 hb.2;have n2:=abs_mul_le hb.1 ha.2;simp only [Product_eq ha.1 hb.2,Product_eq hb.1 ha.2,bindS,Sign_eq n1,Sign_eq n2];generalize a.1*b.2=x at*;generalize b.1*a.2=y at*;rw [less_eq _ _ (B64_abs _ (by omega) n1) (B64_abs _ (by omega) n2),less_eq _ _ (B64_abs _ (by omega) n2) (B64_abs _ (by omega) n1)]
 have ex:((x.natAbs:Int) / 18446744073709551616)*18446744073709551616+(x.natAbs:Int)%18446744073709551616=(x.natAbs:Int):=by omega
 have ey:((y.natAbs:Int) / 18446744073709551616)*18446744073709551616+(y.natAbs:Int)%18446744073709551616=(y.natAbs:Int):=by omega
 simp only [ex,ey,bindS];rcases cmpI_cases x 0 with ⟨h1,e1⟩|⟨h1,e1⟩|⟨h1,e1⟩<;>rcases cmpI_cases y 0 with ⟨h2,e2⟩|⟨h2,e2⟩|⟨h2,e2⟩<;>rw [e1,e2]<;>simp<;>
  unfold cmpI<;>(repeat' split)<;>first|rfl|omega
theorem both_eq {a b:Int×Int} (ha:R64 a) (hb:R64 b):ratio_both a b=some (if RatOK a/\RatOK b then 0 else 8):=by
 unfold ratio_both;simp only [ratio_Check_eq ha,ratio_Check_eq hb,bindS]
 by_cases h1:RatOK a<;>by_cases h2:RatOK b<;>simp [h1,h2]
theorem Cmp_eq {a b:Int×Int} (ha:R64 a) (hb:R64 b):ratio_Cmp a b=some (if RatOK a/\RatOK b then (cmpR a b,0) else (0,8)):=by
 unfold ratio_Cmp;rw [both_eq ha hb]
 by_cases h:RatOK a/\RatOK b
 · rw [if_pos h,if_pos h]
   obtain ⟨⟨a1,a2,a3⟩,b1,b2,b3⟩:=h;have n1:=abs_mul_le ha.1 hb.2;have n2:=abs_mul_le hb.1 ha.2;simp only [bindS,Compare_54_eq,times_eq ha.1 hb.2,times_eq hb.1 ha.2];rw [compare_eq _ _ (B64_abs _ (by omega) n1) (B64_abs _ (by omega) n2)]
   have ex:((a.1*b.2).natAbs:Int) / 18446744073709551616*18446744073709551616+((a.1*b.2).natAbs:Int)%18446744073709551616=((a.1*b.2).natAbs:Int):=by omega
   have ey:((b.1*a.2).natAbs:Int) / 18446744073709551616*18446744073709551616+((b.1*a.2).natAbs:Int)%18446744073709551616=((b.1*a.2).natAbs:Int):=by omega
   simp only [ex,ey,bindS];unfold cmpR;have s1:(a.1<0↔a.1*b.2<0):=by
    constructor
    · intro h;exact Int.mul_neg_of_neg_of_pos h (by omega)
    · intro h;rcases lt_or_ge a.1 0 with h1|h1
      · exact h1
      · have:=Int.mul_nonneg h1 (show 0<=b.2 by omega);omega
   have s2:(b.1<0↔b.1*a.2<0):=by
    constructor
    · intro h;exact Int.mul_neg_of_neg_of_pos h (by omega)
    · intro h;rcases lt_or_ge b.1 0 with h1|h1
      · exact h1
      · have:=Int.mul_nonneg h1 (show 0<=a.2 by omega);omega
   generalize a.1*b.2=x at*;generalize b.1*a.2=y at*
   by_cases h1:a.1<0<;>by_cases h2:b.1<0
   · have h3:=s1.1 h1;have h4:=s2.1 h2
     have:wrapF .i64 (-cmpI (x.natAbs:Int) (y.natAbs:Int))=cmpI x y:=by
      rw [wi];unfold cmpI;(repeat' split)<;>omega
     simp [h1,h2,this]
   · have h3:=s1.1 h1;have h4: ¬y<0:=fun h=>h2 (s2.2 h)
     have:cmpI a.1 b.1=cmpI x y:=by unfold cmpI;(repeat' split)<;>omega
     simp [h1,h2,this]
   · have h3: ¬x<0:=fun h=>h1 (s1.2 h);have h4:=s2.1 h2
     have:cmpI a.1 b.1=cmpI x y:=by unfold cmpI;(repeat' split)<;>omega
     simp [h1,h2,this]
   · have h3: ¬x<0:=fun h=>h1 (s1.2 h);have h4: ¬y<0:=fun h=>h2 (s2.2 h)
     have:cmpI (x.natAbs:Int) (y.natAbs:Int)=cmpI x y:=by unfold cmpI;(repeat' split)<;>omega
     simp [h1,h2,this]
 · rw [if_neg h,if_neg h];rfl
end Go.Proofs.YtjikemfbommnlaaGreat
namespace Go.Proofs.YtjikemfbommnlaaGreat
open Go.Vm Classical
abbrev Pt:=Int×Int×Int
def PtOK (p:Pt):Prop:=0<=p.1/\p.1<=65535/\ -1048576<=p.2.1/\p.2.1<=1048576/\ -1048576<=p.2.2/\p.2.2<=1048576
theorem course_Check_eq (p:Pt):course_Check p=some (if PtOK p then 0 else 8):=by
 obtain ⟨i,a,b⟩:=p;unfold course_Check course_Check_1 PtOK;dsimp only
 by_cases h1:i<0
 · rw [if_neg (by omega)];simp [h1]
 by_cases h2:65535<i
 · rw [if_neg (by omega)];simp [h1,h2]
 by_cases h3:a< -1048576
 · rw [if_neg (by omega)];simp [h1,h2,h3]
 by_cases h4:1048576<a
 · rw [if_neg (by omega)];simp [h1,h2,h3,h4]
 by_cases h5:b< -1048576
 · rw [if_neg (by omega)];simp [h1,h2,h3,h4,h5]
 by_cases h6:1048576<b
 · rw [if_neg (by omega)];simp [h1,h2,h3,h4,h5,h6]
 rw [if_pos (by omega)];simp [h1,h2,h3,h4,h5,h6]
theorem ref02_Check_eq (p:Pt):ref02_Check p=some (if PtOK p then 0 else 8):=by
 obtain ⟨i,a,b⟩:=p;unfold ref02_Check PtOK;dsimp only
 by_cases h1:i<0
 · rw [if_neg (by omega)];simp [h1]
 by_cases h2:65535<i
 · rw [if_neg (by omega)];simp [h1,h2]
 by_cases h3:a< -1048576
 · rw [if_neg (by omega)];simp [h1,h2,h3]
 by_cases h4:1048576<a
 · rw [if_neg (by omega)];simp [h1,h2,h3,h4]
 by_cases h5:b< -1048576
 · rw [if_neg (by omega)];simp [h1,h2,h3,h4,h5]
 by_cases h6:1048576<b
 · rw [if_neg (by omega)];simp [h1,h2,h3,h4,h5,h6]
 rw [if_pos (by omega)];simp [h1,h2,h3,h4,h5,h6]
theorem two_sides {x y:Int} (hx:I64 x) (hy:I64 y): -85070591730234615865843651857942052864<=x*y/\x*y<=85070591730234615865843651857942052864:=by
 have:=abs_mul_le hx hy;omega
theorem uprod {x y:Int} (hx:I64 x) (hy:I64 y):(x%18446744073709551616)*(y%18446744073709551616)=x*y+(if x<0 then y else 0)*18446744073709551616+(if y<0 then x else 0)*18446744073709551616+(if x<0/\y<0 then 340282366920938463463374607431768211456 else 0):=by
 by_cases h1:x<0<;>by_cases h2:y<0
 · have e1:x%18446744073709551616=x+18446744073709551616:=by omega
   have e2:y%18446744073709551616=y+18446744073709551616:=by omega
   rw [e1,e2,if_pos h1,if_pos h2,if_pos ⟨h1,h2⟩];grind
 · have e1:x%18446744073709551616=x+18446744073709551616:=by omega
   have e2:y%18446744073709551616=y:=by omega
   rw [e1,e2,if_pos h1,if_neg h2,if_neg (fun h=>h2 h.2)];grind
 · have e1:x%18446744073709551616=x:=by omega
   have e2:y%18446744073709551616=y+18446744073709551616:=by omega
   rw [e1,e2,if_neg h1,if_pos h2,if_neg (fun h=>h1 h.1)];grind
 · have e1:x%18446744073709551616=x:=by omega
   have e2:y%18446744073709551616=y:=by omega
   rw [e1,e2,if_neg h1,if_neg h2,if_neg (fun h=>h1 h.1)];grind
theorem add64_eq {a b:Int} (ha:0<=a) (hb:0<=b):add64O a b 0=some ((a+b)%18446744073709551616,(a+b) / 18446744073709551616):=by
 unfold add64O;simp [ha,hb]
theorem sum_l1_0 {a b c d u v:Int} (ha:I64 a) (hb:I64 b):course_sum_l1 (a,b,c,d,0,u,v,0,0)=some (.next (a,b,c,d,1,u,v,a*b / 18446744073709551616,a*b%18446744073709551616)):=by
 unfold course_sum_l1;have hm:=mul64_eq (x:=wrapF .u64 a) (y:=wrapF .u64 b) (by rw [wu];constructor<;>omega) (by rw [wu];constructor<;>omega)
 have hb2:=two_sides ha hb;have hu:=uprod ha hb;simp only [hm,bindS];simp only [wu,hu];generalize a*b=x at*
 by_cases h1:a<0<;>by_cases h2:b<0
 all_goals
  simp only [h1,h2,decide_true,decide_false,cond_true,cond_false,if_true,if_false,and_self,and_false,false_and];rw [add64_eq (by omega) (by omega)]
  simp only [wi,bindS,show decide ((0:Int)<2)=true from rfl,cond_true,show ((0:Int)==0)=true from rfl,Option.some.injEq,Step.next.injEq,Prod.mk.injEq,true_and]
  refine ⟨by omega,?_,?_⟩<;>omega
theorem sum_l1_1 {a b c d u v h l:Int} (hc:I64 c) (hd:I64 d) (hl:U64 l)
 (_hh: -9223372036854775808<=h/\h<9223372036854775808) (hs: -170141183460469231731687303715884105728<=h*18446744073709551616+l+c*d/\h*18446744073709551616+l+c*d<170141183460469231731687303715884105728):
 course_sum_l1 (a,b,c,d,1,u,v,h,l)=some (.next (a,b,c,d,2,u,v,(h*18446744073709551616+l+c*d) / 18446744073709551616,(h*18446744073709551616+l+c*d)%18446744073709551616)):=by
 unfold course_sum_l1;have hm:=mul64_eq (x:=wrapF .u64 c) (y:=wrapF .u64 d) (by rw [wu];constructor<;>omega) (by rw [wu];constructor<;>omega)
 have hb2:=two_sides hc hd;have hu:=uprod hc hd;simp only [hm,bindS];simp only [wu,hu];generalize c*d=x at*
 by_cases h1:c<0<;>by_cases h2:d<0
 all_goals
  simp only [h1,h2,decide_true,decide_false,cond_true,cond_false,if_true,if_false,and_self,and_false,false_and];rw [add64_eq (by omega) (by omega)]
  simp only [wi,bindS,show decide ((1:Int)<2)=true from rfl,cond_true,cond_false,show ((1:Int)==0)=false from rfl,show ((1:Int)==1)=true from rfl,Option.some.injEq,Step.next.injEq,Prod.mk.injEq,true_and]
  refine ⟨by omega,?_,?_⟩<;>omega
theorem course_sum_eq {a b c d:Int} (ha:I64 a) (hb:I64 b) (hc:I64 c) (hd:I64 d) (hs: -170141183460469231731687303715884105728<=a*b+c*d/\a*b+c*d<170141183460469231731687303715884105728):
 course_sum (a,b,c,d)=some ((a*b+c*d) / 18446744073709551616,(a*b+c*d)%18446744073709551616):=by
 unfold course_sum;dsimp only;have hb2:=two_sides ha hb;have e:a*b / 18446744073709551616*18446744073709551616+a*b%18446744073709551616+c*d=a*b+c*d:=by omega
 rw [whileO_next (sum_l1_0 ha hb),whileO_next (sum_l1_1 hc hd (by constructor<;>omega) (by constructor<;>omega) (by rw [e];exact hs)),e]
 exact whileO_done rfl
def gap (p q:Pt) (t:Int×Int):Int:=(p.2.1-q.2.1)*t.2+(p.2.2-q.2.2)*t.1
def leads (p q:Pt) (t:Int×Int):Prop:=0<gap p q t\/(gap p q t=0/\(q.2.2<p.2.2\/(p.2.2=q.2.2/\p.1<q.1)))
def cmpP (p q:Pt) (t:Int×Int):Int:=if gap p q t<0 then -1 else if 0<gap p q t then 1 else if p.2.2<q.2.2 then -1 else if q.2.2<p.2.2 then 1 else cmpI q.1 p.1
theorem cmpP_pos (p q:Pt) (t:Int×Int):0<cmpP p q t↔leads p q t:=by
 unfold cmpP leads
 by_cases h1:gap p q t<0
 · rw [if_pos h1];omega
 · by_cases h2:0<gap p q t
   · rw [if_neg h1,if_pos h2];simp [h2]
   · rw [if_neg h1,if_neg h2]
     by_cases h3:p.2.2<q.2.2
     · rw [if_pos h3];omega
     · by_cases h4:q.2.2<p.2.2
       · rw [if_neg h3,if_pos h4];omega
       · rw [if_neg h3,if_neg h4]
         rcases cmpI_cases q.1 p.1 with ⟨h,e⟩|⟨h,e⟩|⟨h,e⟩<;>rw [e]<;>omega
theorem cmp_Or_eq (a b:Int):cmp_Or_int [a,b]=some (if a≠0 then a else b):=by
 unfold cmp_Or_int
 by_cases h1:a=0
 · subst h1
   rw [whileO_next (y:=(0,[0,b],2,1)) (by rfl)]
   by_cases h2:b=0
   · subst h2
     rw [whileO_next (y:=(0,[0,0],2,2)) (by rfl)]
     exact whileO_done rfl
   · refine (whileO_done (r:=b) ?_).trans (by simp)
     have e:cmp_Or_int_l1 (0,[0,b],2,1)=(bif b !=0 then some (.done b) else some (.next (0,[0,b],2,wrapF .i64 (1+1)))):=rfl
     rw [e,bne_t h2];rfl
 · refine (whileO_done (r:=a) ?_).trans (by simp [h1])
   have e:cmp_Or_int_l1 (0,[a,b],Int.ofNat [a,b].length,0)=(bif a !=0 then some (.done a) else some (.next (0,[a,b],Int.ofNat [a,b].length,wrapF .i64 (0+1)))):=rfl
   rw [e,bne_t h1];rfl
theorem gap_bd {p q:Pt} {t:Int×Int} (hp:PtOK p) (hq:PtOK q) (ht:R64 t):I64 (p.2.1-q.2.1)/\I64 (p.2.2-q.2.2)/\ -170141183460469231731687303715884105728<=gap p q t/\gap p q t<170141183460469231731687303715884105728:=by
 obtain ⟨a1,a2,a3,a4,a5,a6⟩:=hp;obtain ⟨b1,b2,b3,b4,b5,b6⟩:=hq;have h1:I64 (p.2.1-q.2.1):=by constructor<;>omega
 have h2:I64 (p.2.2-q.2.2):=by constructor<;>omega
 refine ⟨h1,h2,?_⟩;have k: ∀{x y:Int},-2097152<=x/\x<=2097152->I64 y-> -19342813113834066795298816<=x*y/\x*y<=19342813113834066795298816:=by
  intro x y hx hy
  have:((x*y).natAbs:Int)<=2097152*9223372036854775808:=by
   rw [<- abs_mul];exact Int.mul_le_mul (by omega) (natAbs_le hy) (by omega) (by decide)
  omega
 have k1:=k (x:=p.2.1-q.2.1) (by omega) ht.2
 have k2:=k (x:=p.2.2-q.2.2) (by omega) ht.1
 unfold gap;omega
theorem course_compare_eq {p q:Pt} {t:Int×Int} (hp:PtOK p) (hq:PtOK q) (ht:R64 t):course_compare p q t=some (cmpP p q t):=by
 obtain ⟨g1,g2,g3⟩:=gap_bd hp hq ht;unfold course_compare;rw [wi_id g1,wi_id g2,course_sum_eq g1 ht.2 g2 ht.1 g3];simp only [bindS,Compare_54_eq,Compare_121_eq,cmp_Or_eq];rw [show (p.2.1-q.2.1)*t.2+(p.2.2-q.2.2)*t.1=gap p q t from rfl];unfold cmpP;generalize gap p q t=n at*
 by_cases h1:n<0
 · have e1:(n / 18446744073709551616==0)=false:=by simp;omega
   have e2:decide (n / 18446744073709551616<0)=true:=by simp;omega
   rw [if_pos h1];simp [e1,e2]
 · by_cases h2:0<n
   · have e1:((n / 18446744073709551616==0)&&(n%18446744073709551616==0))=false:=by simp;omega
     have e2:decide (n / 18446744073709551616<0)=false:=by simp;omega
     rw [if_neg h1,if_pos h2];simp only [e1,e2,Bool.not_false,cond_true,cond_false]
   · have:n=0:=by omega
     subst this;rw [if_neg h1,if_neg h2];unfold cmpI
     by_cases h3:p.2.2<q.2.2
     · simp [h3]
     · by_cases h4:q.2.2<p.2.2
       · simp [h3,h4]
       · simp [h3,h4]
theorem Plus_eq {x y:Int} (hx: -85070591730234615865843651857942052864<=x/\x<=85070591730234615865843651857942052864) (hy: -85070591730234615865843651857942052864<=y/\y<=85070591730234615865843651857942052864):
 ref01_Plus (decide (x<0),(x.natAbs:Int) / 18446744073709551616,(x.natAbs:Int)%18446744073709551616) (decide (y<0),(y.natAbs:Int) / 18446744073709551616,(y.natAbs:Int)%18446744073709551616)=
  some (decide (x+y<0),((x+y).natAbs:Int) / 18446744073709551616,((x+y).natAbs:Int)%18446744073709551616):=by
 have n1:(x.natAbs:Int)<=85070591730234615865843651857942052864:=by omega
 have n2:(y.natAbs:Int)<=85070591730234615865843651857942052864:=by omega
 unfold ref01_Plus;rw [less_eq _ _ (B64_abs _ (by omega) n1) (B64_abs _ (by omega) n2)]
 have ex:((x.natAbs:Int) / 18446744073709551616)*18446744073709551616+(x.natAbs:Int)%18446744073709551616=(x.natAbs:Int):=by omega
 have ey:((y.natAbs:Int) / 18446744073709551616)*18446744073709551616+(y.natAbs:Int)%18446744073709551616=(y.natAbs:Int):=by omega
 simp only [ex,ey,bindS];have same: ∀{X Y Z:Int},0<=X->0<=Y->X<=85070591730234615865843651857942052864->Y<=85070591730234615865843651857942052864->Z=X+Y-> ∀b:Bool,
  (bif decide (wrapF .u64 (X%18446744073709551616+Y%18446744073709551616)<X%18446744073709551616) then some (b,wrapF .u64 (wrapF .u64 (X / 18446744073709551616+Y / 18446744073709551616)+1),wrapF .u64 (X%18446744073709551616+Y%18446744073709551616))
   else some (b,wrapF .u64 (X / 18446744073709551616+Y / 18446744073709551616),wrapF .u64 (X%18446744073709551616+Y%18446744073709551616)))=some (b,Z / 18446744073709551616,Z%18446744073709551616):=by
  intro X Y Z h1 h2 h3 h4 h5 b;subst h5;simp only [wu]
  by_cases h:(X%18446744073709551616+Y%18446744073709551616)%18446744073709551616<X%18446744073709551616
  · simp only [h,decide_true,cond_true,Option.some.injEq,Prod.mk.injEq,true_and];constructor<;>omega
  · simp only [h,decide_false,cond_false,Option.some.injEq,Prod.mk.injEq,true_and];constructor<;>omega
 have minus: ∀{X Y Z:Int} (b c:Bool),0<=X->0<=Y->X<=85070591730234615865843651857942052864->Y<=X->Z=X-Y->ref01_minus (b,X / 18446744073709551616,X%18446744073709551616) (c,Y / 18446744073709551616,Y%18446744073709551616)=some (false,Z / 18446744073709551616,Z%18446744073709551616):=by
  intro X Y Z b c h1 h2 h3 h4 h5;subst h5;unfold ref01_minus;simp only [wu]
  by_cases h:X%18446744073709551616<Y%18446744073709551616
  · simp only [h,decide_true,cond_true,Option.some.injEq,Prod.mk.injEq,true_and];constructor<;>omega
  · simp only [h,decide_false,cond_false,Option.some.injEq,Prod.mk.injEq,true_and];constructor<;>omega
 by_cases h1:x<0<;>by_cases h2:y<0
 · have h3:x+y<0:=by omega
   simp only [h1,h2,h3,decide_true,beq_self_eq_true,cond_true];exact same (by omega) (by omega) n1 n2 (by omega) true
 · simp only [h1,h2,decide_true,decide_false,show (true==false)=false from rfl,cond_false,cond_true]
   by_cases h3:(y.natAbs:Int)<=(x.natAbs:Int)
   · have e:decide (0<=cmpI (x.natAbs:Int) (y.natAbs:Int))=true:=by
      rcases cmpI_cases (x.natAbs:Int) (y.natAbs:Int) with ⟨h,e⟩|⟨h,e⟩|⟨h,e⟩<;>rw [e]<;>first|rfl|omega
     rw [e,minus (Z:=((x+y).natAbs:Int)) _ _ (by omega) (by omega) n1 h3 (by omega)]
     simp only [cond_true,bindS]
     by_cases h4:x+y=0
     · rw [h4];rfl
     · have h5:x+y<0:=by omega
       by_cases h6:0<((x+y).natAbs:Int) / 18446744073709551616
       · simp [h5,h6]
       · have h7:0<((x+y).natAbs:Int)%18446744073709551616:=by omega
         simp only [h5,h6,h7,decide_true,decide_false,cond_false]
   · have e:decide (0<=cmpI (x.natAbs:Int) (y.natAbs:Int))=false:=by
      rcases cmpI_cases (x.natAbs:Int) (y.natAbs:Int) with ⟨h,e⟩|⟨h,e⟩|⟨h,e⟩<;>rw [e]<;>first|rfl|omega
     rw [e,minus (Z:=((x+y).natAbs:Int)) _ _ (by omega) (by omega) n2 (by omega) (by omega)]
     have h5: ¬(x+y<0):=by omega
     simp [h5]
 · simp only [h1,h2,decide_true,decide_false,show (false==true)=false from rfl,cond_false]
   by_cases h3:(y.natAbs:Int)<=(x.natAbs:Int)
   · have e:decide (0<=cmpI (x.natAbs:Int) (y.natAbs:Int))=true:=by
      rcases cmpI_cases (x.natAbs:Int) (y.natAbs:Int) with ⟨h,e⟩|⟨h,e⟩|⟨h,e⟩<;>rw [e]<;>first|rfl|omega
     rw [e,minus (Z:=((x+y).natAbs:Int)) _ _ (by omega) (by omega) n1 h3 (by omega)]
     have h5: ¬(x+y<0):=by omega
     simp [h5]
   · have e:decide (0<=cmpI (x.natAbs:Int) (y.natAbs:Int))=false:=by
      rcases cmpI_cases (x.natAbs:Int) (y.natAbs:Int) with ⟨h,e⟩|⟨h,e⟩|⟨h,e⟩<;>rw [e]<;>first|rfl|omega
     rw [e,minus (Z:=((x+y).natAbs:Int)) _ _ (by omega) (by omega) n2 (by omega) (by omega)]
     have h5:x+y<0:=by omega
     simp [h5]
 · have h3: ¬(x+y<0):=by omega
   simp only [h1,h2,h3,decide_false,beq_self_eq_true,cond_true];exact same (by omega) (by omega) n1 n2 (by omega) false
theorem Far_eq {p q:Pt} {t:Int×Int} (hp:PtOK p) (hq:PtOK q) (ht:R64 t):ref02_Far p q t=some (cmpI (gap p q t) 0):=by
 obtain ⟨g1,g2,g3⟩:=gap_bd hp hq ht;unfold ref02_Far;rw [wi_id g1,wi_id g2,Product_eq g1 ht.2,Product_eq g2 ht.1];simp only [bindS];rw [Plus_eq (two_sides g1 ht.2) (two_sides g2 ht.1)];simp only [bindS];rw [show (p.2.1-q.2.1)*t.2+(p.2.2-q.2.2)*t.1=gap p q t from rfl];obtain ⟨a1,a2,a3,a4,a5,a6⟩:=hp;obtain ⟨b1,b2,b3,b4,b5,b6⟩:=hq
 have k: ∀{x y:Int},-2097152<=x/\x<=2097152->I64 y-> -19342813113834066795298816<=x*y/\x*y<=19342813113834066795298816:=by
  intro x y hx hy
  have:((x*y).natAbs:Int)<=2097152*9223372036854775808:=by
   rw [<- abs_mul];exact Int.mul_le_mul (by omega) (natAbs_le hy) (by omega) (by decide)
  omega
 have k1:=k (x:=p.2.1-q.2.1) (by omega) ht.2
 have k2:=k (x:=p.2.2-q.2.2) (by omega) ht.1
 have:((gap p q t).natAbs:Int)<=85070591730234615865843651857942052864:=by unfold gap;omega
 rw [Sign_eq this];rfl
theorem Leads_eq {p q:Pt} {t:Int×Int} (hp:PtOK p) (hq:PtOK q) (ht:R64 t):ref02_Leads p q t=some (decide (leads p q t)):=by
 unfold ref02_Leads leads;rw [Far_eq hp hq ht];simp only [bindS];rcases cmpI_cases (gap p q t) 0 with ⟨h,e⟩|⟨h,e⟩|⟨h,e⟩<;>rw [e]
 · have h1: ¬(0<gap p q t):=by omega
   have h2: ¬(gap p q t=0):=by omega
   simp [h1,h2]
 · rw [h]
   by_cases h3:p.2.2=q.2.2
   · simp [h3]
   · simp [h3,bne_t h3]
 · simp [h]
theorem course_two_eq {p q:Pt} {t:Int×Int} (ht:R64 t):course_two p q t=some (if PtOK p/\PtOK q/\RatOK t then (if p.1=q.1 then 2 else 0) else 8):=by
 unfold course_two;simp only [course_Check_eq,ratio_Check_eq ht,bindS]
 by_cases h4:p.1=q.1
 · by_cases h1:PtOK p<;>by_cases h2:PtOK q<;>by_cases h3:RatOK t<;>simp [h1,h2,h3,h4]
 · have h5:=beq_f h4
   by_cases h1:PtOK p<;>by_cases h2:PtOK q<;>by_cases h3:RatOK t<;>simp [h1,h2,h3,h4,h5]
theorem Make_eq {n d:Int} (hn:I64 n) (hd:I64 d):ratio_Make n d=ref01_Make n d:=by
 unfold ratio_Make ref01_Make
 by_cases h0:d=0
 · subst h0;rfl
 · have e0:(d==0)=false:=by simpa using h0
   simp only [e0,cond_false,ratio_abs_eq hn,ratio_abs_eq hd,ref01_size_eq hn,ref01_size_eq hd,bindS,ratio_gcd_nat,ref01_common_nat];have hp:0<Nat.gcd n.natAbs d.natAbs:=Nat.gcd_pos_of_pos_right _ (by omega)
   have e1:((Nat.gcd n.natAbs d.natAbs:Int)==0)=false:=by simp;omega
   simp only [e1,cond_false];unfold ratio_build ref01_made;simp only [show decide ((0:Int)<0)=false from rfl,cond_false]
   by_cases h3:n=0
   · subst h3
     have z: ∀k:Int,wrapF .u64 (Int.tdiv (((0:Int).natAbs:Nat):Int) k)=0:=fun k=>by
      rw [show (((0:Int).natAbs:Nat):Int)=0 from rfl,Int.zero_tdiv];rfl
     have z2:wrapF .i64 0=0:=rfl;have z3:wrapF .i64 (0-0)=0:=rfl;simp only [z,z2,z3,show ((0:Int) !=0)=false from rfl,cond_false,show decide ((0:Int)<0)=false from rfl];cases (!(false==decide (d<0)))<;>simp
   · simp only [bne_t h3]
     cases (!(decide (n<0)==decide (d<0)))<;>rfl
noncomputable def met (p q:Pt):Int×Int:=((ref01_Make (p.2.1-q.2.1) (q.2.2-p.2.2)).getD ((0,0),0)).1
theorem Make_small {n d:Int} (hn: -2097152<=n/\n<=2097152) (hd: -2097152<=d/\d<=2097152) (h0:d≠0): ∃r,ref01_Make n d=some (r,0)/\RatOK r/\R64 r:=by
 have hn':I64 n:=by constructor<;>omega
 have hd':I64 d:=by constructor<;>omega
 unfold ref01_Make;have e0:(d==0)=false:=by simpa using h0
 have hp:0<Nat.gcd n.natAbs d.natAbs:=Nat.gcd_pos_of_pos_right _ (by omega)
 have e1:((Nat.gcd n.natAbs d.natAbs:Int)==0)=false:=by simp;omega
 simp only [e0,cond_false,ref01_size_eq hn',ref01_size_eq hd',bindS,ref01_common_nat,e1];have q1:Int.tdiv (n.natAbs:Int) (Nat.gcd n.natAbs d.natAbs:Int)=((n.natAbs / Nat.gcd n.natAbs d.natAbs:Nat):Int):=by
  rw [Int.ofNat_tdiv]
 have q2:Int.tdiv (d.natAbs:Int) (Nat.gcd n.natAbs d.natAbs:Int)=((d.natAbs / Nat.gcd n.natAbs d.natAbs:Nat):Int):=by
  rw [Int.ofNat_tdiv]
 rw [q1,q2];have l1:n.natAbs / Nat.gcd n.natAbs d.natAbs<=2097152:=Nat.le_trans (Nat.div_le_self _ _) (by omega)
 have l2:d.natAbs / Nat.gcd n.natAbs d.natAbs<=2097152:=Nat.le_trans (Nat.div_le_self _ _) (by omega)
 have l3:1<=d.natAbs / Nat.gcd n.natAbs d.natAbs:=Nat.div_pos (Nat.le_of_dvd (by omega) (Nat.gcd_dvd_right _ _)) hp
 have co:Nat.gcd (d.natAbs / Nat.gcd n.natAbs d.natAbs) (n.natAbs / Nat.gcd n.natAbs d.natAbs)=1:=by
  rw [Nat.gcd_comm,Nat.gcd_div (Nat.gcd_dvd_left _ _) (Nat.gcd_dvd_right _ _)];exact Nat.div_self hp
 generalize n.natAbs / Nat.gcd n.natAbs d.natAbs=a at*;generalize d.natAbs / Nat.gcd n.natAbs d.natAbs=b at*;have w1:wrapF .u64 (a:Int)=a:=by rw [wu];omega
 have w2:wrapF .u64 (b:Int)=b:=by rw [wu];omega
 have made: ∀s:Bool,ref01_made s (false,0,(a:Int)) (false,0,(b:Int))=some ((if s=true then -(a:Int) else a,(b:Int)),0):=by
  intro s;unfold ref01_made;have d1:decide (9223372036854775807<(a:Int))=false:=by simp;omega
  have d2:decide (9223372036854775807<(b:Int))=false:=by simp;omega
  have v1:wrapF .i64 (a:Int)=a:=by rw [wi];omega
  have v2:wrapF .i64 (b:Int)=b:=by rw [wi];omega
  have v3:wrapF .i64 (0- (a:Int))= -(a:Int):=by rw [wi];omega
  simp only [show decide ((0:Int)<0)=false from rfl,cond_false,d1,d2,v1,v2,v3];cases s<;>simp
 have fin: ∀s:Bool,∃r,(some ((if s=true then -(a:Int) else a,(b:Int)),(0:Int)):Option ((Int×Int)×Int))=some (r,0)/\RatOK r/\R64 r:=by
  intro s;refine ⟨_,rfl,?_,?_⟩
  · unfold RatOK
    dsimp only;refine ⟨by omega,?_,?_⟩
    · cases s
      · simp only [Bool.false_eq_true,if_false];omega
      · simp only [if_true];omega
    · rw [show (if s=true then -(a:Int) else (a:Int)).natAbs=a by cases s<;>simp,show ((b:Int)).natAbs=b by omega];exact co
  · constructor
    · dsimp only;cases s
      · simp only [Bool.false_eq_true,if_false];constructor<;>omega
      · simp only [if_true];constructor<;>omega
    · dsimp only;constructor<;>omega
 simp only [w1,w2,made,bindS]
 by_cases h1:(!(decide (n<0)==decide (d<0)))=true
 · rw [h1];exact fin (n !=0)
 · rw [Bool.not_eq_true] at h1;rw [h1];exact fin false
theorem met_ok {p q:Pt} (hp:PtOK p) (hq:PtOK q) (h:p.2.2≠q.2.2):ref01_Make (p.2.1-q.2.1) (q.2.2-p.2.2)=some (met p q,0)/\RatOK (met p q)/\R64 (met p q):=by
 obtain ⟨a1,a2,a3,a4,a5,a6⟩:=hp;obtain ⟨b1,b2,b3,b4,b5,b6⟩:=hq;obtain ⟨r,h1,h2,h3⟩:=Make_small (n:=p.2.1-q.2.1) (d:=q.2.2-p.2.2) (by omega) (by omega) (by omega)
 have:met p q=r:=by unfold met;rw [h1];rfl
 rw [this];exact ⟨h1,h2,h3⟩
theorem small_i64 {p q:Pt} (hp:PtOK p) (hq:PtOK q):wrapF .i64 (p.2.1-q.2.1)=p.2.1-q.2.1/\wrapF .i64 (q.2.2-p.2.2)=q.2.2-p.2.2/\I64 (p.2.1-q.2.1)/\I64 (q.2.2-p.2.2):=by
 obtain ⟨a1,a2,a3,a4,a5,a6⟩:=hp;obtain ⟨b1,b2,b3,b4,b5,b6⟩:=hq;have h1:I64 (p.2.1-q.2.1):=by constructor<;>omega
 have h2:I64 (q.2.2-p.2.2):=by constructor<;>omega
 exact ⟨wi_id h1,wi_id h2,h1,h2⟩
noncomputable def fails (h l:Pt) (t:Int×Int):(Int×Int)×Bool:=if leads l h t then (t,true) else if h.2.2<l.2.2 then (met h l,true) else ((0,0),false)
theorem Met_eq {p q:Pt} (hp:PtOK p) (hq:PtOK q) (h:p.2.2≠q.2.2):ref02_Met p q=some (met p q):=by
 obtain ⟨w1,w2,_,_⟩:=small_i64 hp hq;unfold ref02_Met;rw [w1,w2,(met_ok hp hq h).1];rfl
theorem Failure_eq {h l:Pt} {t:Int×Int} (hh:PtOK h) (hl:PtOK l) (ht:R64 t):ref02_Failure h l t=some (fails h l t):=by
 unfold ref02_Failure fails;rw [Leads_eq hl hh ht];simp only [bindS]
 by_cases h1:leads l h t
 · simp [h1]
 · simp only [h1,decide_false,cond_false,if_false]
   by_cases h2:h.2.2<l.2.2
   · simp [h2,Met_eq hh hl (by omega)]
   · simp [h2]
theorem RatOK_01:RatOK (0,1):=by unfold RatOK;decide
theorem course_Fails_eq {h l:Pt} {t:Int×Int} (ht:R64 t):
 course_Fails h l t=some (if PtOK h/\PtOK l/\RatOK t/\h.1≠l.1 then ((fails h l t).1,(fails h l t).2,0) else ((0,0),false,if PtOK h/\PtOK l/\RatOK t then 2 else 8)):=by
 unfold course_Fails;rw [course_two_eq ht]
 by_cases h1:PtOK h/\PtOK l/\RatOK t
 · rw [if_pos h1]
   by_cases h2:h.1=l.1
   · simp [h1,h2]
   · obtain ⟨hh,hl,hr⟩:=h1
     rw [if_neg h2,if_pos ⟨hh,hl,hr,h2⟩];simp only [bindS,show ((0:Int) !=0)=false from rfl,cond_false,course_compare_eq hl hh ht];unfold fails
     by_cases h3:leads l h t
     · have:decide (0<cmpP l h t)=true:=by simpa using (cmpP_pos l h t).2 h3
       rw [this];simp [h3]
     · have:decide (0<cmpP l h t)=false:=decide_eq_false fun k=>h3 ((cmpP_pos l h t).1 k)
       rw [this,if_neg h3];simp only [cond_false]
       by_cases h4:h.2.2<l.2.2
       · have e:decide (l.2.2<=h.2.2)=false:=by simp;omega
         rw [e,if_pos h4];unfold course_Meet;obtain ⟨w1,w2,i1,i2⟩:=small_i64 hh hl;have e2:(h.2.2==l.2.2)=false:=by simp;omega
         rw [course_two_eq (by constructor<;>constructor<;>decide),if_pos ⟨hh,hl,RatOK_01⟩,if_neg h2]
         simp only [bindS,show ((0:Int) !=0)=false from rfl,cond_false,e2,w1,w2,Make_eq i1 i2,(met_ok hh hl (by omega)).1]
         rfl
       · have e:decide (l.2.2<=h.2.2)=true:=by simp;omega
         rw [e,if_neg h4];rfl
 · rw [if_neg h1,if_neg (fun h=>h1 ⟨h.1,h.2.1,h.2.2.1⟩),if_neg h1];rfl
theorem fails_ok {h l:Pt} {t:Int×Int} (hh:PtOK h) (hl:PtOK l) (ht:R64 t) (hr:RatOK t) (h2:(fails h l t).2=true):RatOK (fails h l t).1/\R64 (fails h l t).1:=by
 unfold fails at*
 by_cases h3:leads l h t
 · rw [if_pos h3];exact ⟨hr,ht⟩
 · rw [if_neg h3] at h2 ⊢
   by_cases h4:h.2.2<l.2.2
   · rw [if_pos h4];exact (met_ok hh hl (by omega)).2
   · rw [if_neg h4] at h2;cases h2
end Go.Proofs.YtjikemfbommnlaaGreat
namespace Go.Proofs.YtjikemfbommnlaaGreat
open Go.Vm Classical
theorem pigeon: ∀(n:Nat) (l:List Nat),l.Nodup->(∀x∈l,x<n)->l.length<=n
 |0,l,_,h=>by
  cases l with
  |nil=>simp
  |cons a l=>exact absurd (h a (by simp)) (by omega)
 |n+1,l,hd,h=>by
  have h1:=pigeon n (l.filter (fun x=>x≠n)) (hd.filter _) (by
   intro x hx;rw [List.mem_filter] at hx
   have:=h x hx.1
   have h2:x≠n:=by simpa using hx.2
   omega)
  have h2:l.length<=(l.filter (fun x=>x≠n)).length+1:=by
   clear h1 h
   induction l with
   |nil=>simp
   |cons a l ih=>
    rw [List.nodup_cons] at hd
    have:=ih hd.2
    by_cases ha:a=n
    · subst ha
      have e:l.filter (fun x=>decide (x≠a))=l:=by
       rw [List.filter_eq_self];intro x hx;simp only [ne_eq,decide_eq_true_eq];rintro rfl;exact hd.1 hx
      rw [List.filter_cons_of_neg (by simp),e];simp
    · rw [List.filter_cons_of_pos (by simpa using ha)]
      simp only [List.length_cons];omega
  omega
theorem pigeon_full {n:Nat} {l:List Nat} (hd:l.Nodup) (h: ∀x∈l,x<n) (hn:n<=l.length): ∀x,x<n->x∈l:=by
 intro x hx;refine Classical.byContradiction fun hc=>?_
 have:=pigeon n (x::l) (by rw [List.nodup_cons];exact ⟨hc,hd⟩) (by
  intro y hy;rcases List.mem_cons.1 hy with rfl|hy
  · exact hx
  · exact h y hy)
 simp only [List.length_cons] at this;omega
abbrev Small {α:Type} (l:List α):Prop:=l.length<=1048576
abbrev P64 (p:Pt):Prop:=I64 p.1/\I64 p.2.1/\I64 p.2.2
def Sorted (l:List Pt):Prop:= ∀i,i+1<l.length->(l[i]!).1<(l[i+1]!).1
def FieldOK (l:List Pt):Prop:=l.length<=64/\(∀p∈l,PtOK p)/\Sorted l
noncomputable def fieldErr (l:List Pt):Int:=if 64<l.length then 4 else if¬(∀p∈l,PtOK p) then 8 else if¬Sorted l then 32 else 0
theorem fieldErr_ok {l:List Pt}:fieldErr l=0↔FieldOK l:=by
 unfold fieldErr FieldOK
 by_cases h1:64<l.length
 · rw [if_pos h1];simp;omega
 · rw [if_neg h1]
   by_cases h2: ∀p∈l,PtOK p
   · rw [if_neg (Classical.not_not.2 h2)]
     by_cases h3:Sorted l
     · rw [if_neg (Classical.not_not.2 h3)]
       exact ⟨fun _=>⟨by omega,h2,h3⟩,fun _=>rfl⟩
     · rw [if_pos h3]
       exact ⟨fun h=>(by cases h),fun h=>absurd h.2.2 h3⟩
   · rw [if_pos h2]
     constructor
     · intro h;cases h
     · intro h;exact absurd h.2.1 h2
theorem wi_succ {n:Nat} (h:n<1000000000):wrapF .i64 ((n:Int)+1)=((n+1:Nat):Int):=by rw [wi];omega
theorem wi_pred {n:Nat} (h:n<1000000000) (h1:1<=n):wrapF .i64 ((n:Int) -1)=((n-1:Nat):Int):=by rw [wi];omega
theorem ofNat_eq (n:Nat):Int.ofNat n=(n:Int):=rfl
theorem ref03_l1_eq (l:List Pt) (h:l.length<=64):whileO ref03_Check_l1 (1,l)=some (.done (if Sorted l then 0 else 32)):=by
 by_cases hl:l.length<=1
 · have:Sorted l:=fun i hi=>by omega
   rw [if_pos this];refine whileO_done ?_;unfold ref03_Check_l1;rw [ofNat_eq]
   have:decide ((1:Int)<(l.length:Int))=false:=by simp;omega
   simp [this]
 · have key:=while_any (body:=ref03_Check_l1) (fun i=>(((i+1:Nat):Int),l)) (l.length-1) (fun i=>(l[i+1]!).1<=(l[i]!).1) (r:= .done 32) (e:= .done 0) (by
    intro i hi;have e1:decide (((i+1:Nat):Int)<(l.length:Int))=true:=by simp;omega
    have e2:wrapF .i64 (((i+1:Nat):Int) -1)=(i:Int):=by rw [wi];omega
    have hb:ref03_Check_l1 (((i+1:Nat):Int),l)=bif decide ((l[i+1]!).1<=(l[i]!).1) then some (.done (.done 32)) else some (.next (((i+1+1:Nat):Int),l)):=by
     unfold ref03_Check_l1;simp only [ofNat_eq,e1,cond_true,e2,geti_nat l i (by omega),geti_nat l (i+1) (by omega),bindS,wi_succ (show i+1<1000000000 by omega)]
    constructor
    · intro hc;rw [hb,decide_eq_true hc];rfl
    · intro hc;rw [hb,decide_eq_false hc];rfl) (by
    unfold ref03_Check_l1
    have:decide (((l.length-1+1:Nat):Int)<Int.ofNat l.length)=false:=by rw [ofNat_eq];simp;omega
    simp only [this,cond_false])
   by_cases hs:Sorted l
   · rw [if_pos hs]
     refine key.2 fun i hi=>?_
     have:=hs i (by omega)
     omega
   · rw [if_neg hs]
     refine key.1 ?_;unfold Sorted at hs;simp only [Classical.not_forall] at hs;obtain ⟨i,hi,h2⟩:=hs;exact ⟨i,by omega,by omega⟩
theorem ref03_Check_eq (f:Field):ref03_Check f=some (fieldErr f.points):=by
 unfold ref03_Check fieldErr;rw [ofNat_eq]
 by_cases h:64<f.points.length
 · have:decide ((64:Int)<(f.points.length:Int))=true:=by simp;omega
   rw [this,if_pos h];rfl
 · have:decide ((64:Int)<(f.points.length:Int))=false:=by simp;omega
   rw [this,if_neg h];simp only [cond_false];generalize f.points=l at*;have key:=while_any (body:=ref03_Check_l2) (fun i=>((i:Int),l)) l.length (fun i=> ¬PtOK l[i]!) (r:=8) (e:=if Sorted l then 0 else 32) (by
    intro i hi;have e1:decide ((i:Int)<(l.length:Int))=true:=by simp;omega
    have hb:ref03_Check_l2 ((i:Int),l)=bif (if PtOK l[i]! then (0:Int) else 8) !=0 then some (.done 8) else some (.next (((i+1:Nat):Int),l)):=by
     unfold ref03_Check_l2;simp only [ofNat_eq,e1,cond_true,geti_nat l i (by omega),bindS,ref02_Check_eq,wi_succ (show i<1000000000 by omega)]
    constructor
    · intro hc;rw [hb,if_neg hc];rfl
    · intro hc;rw [hb,if_pos (Classical.not_not.1 hc)];rfl) (by
    unfold ref03_Check_l2
    have:decide ((l.length:Int)<Int.ofNat l.length)=false:=by rw [ofNat_eq];simp
    simp only [this,cond_false];exact ref03_l1_eq l (by omega))
   by_cases hp: ∀p∈l,PtOK p
   · rw [if_neg (Classical.not_not.2 hp)]
     refine (key.2 fun i hi=>?_).trans ?_
     · exact Classical.not_not.2 (hp _ (bang_mem hi))
     · by_cases hs:Sorted l
       · simp [hs]
       · simp [hs]
   · rw [if_pos hp]
     refine key.1 ?_;obtain ⟨p,hp⟩:=Classical.not_forall.1 hp;obtain ⟨hm,h2⟩:=Classical.not_imp.1 hp;obtain ⟨i,hi,rfl⟩:=mem_bang.1 hm;exact ⟨i,hi,h2⟩
theorem field_l1_eq (l:List Pt) (h:l.length<=64):whileO field_Check_l1 (l,(l.length:Int),0,l)=some (.done (if Sorted l then 0 else 32)):=by
 have key:=while_any (body:=field_Check_l1) (fun i=>(l,(l.length:Int),(i:Int),l)) l.length (fun i=>0<i/\(l[i]!).1<=(l[i-1]!).1) (r:= .done 32) (e:= .done 0) (by
  intro i hi;have e1:decide ((i:Int)<(l.length:Int))=true:=by simp;omega
  by_cases h0:0<i
  · have e3:decide ((0:Int)<(i:Int))=true:=by simp;omega
    have hb:field_Check_l1 (l,(l.length:Int),(i:Int),l)=bif decide ((l[i]!).1<=(l[i-1]!).1) then some (.done (.done 32)) else some (.next (l,(l.length:Int),((i+1:Nat):Int),l)):=by
     unfold field_Check_l1;simp only [e1,e3,cond_true,geti_nat l i (by omega),wi_pred (show i<1000000000 by omega) h0,geti_nat l (i-1) (by omega),bindS,wi_succ (show i<1000000000 by omega)]
    constructor
    · intro hc;rw [hb,decide_eq_true hc.2];rfl
    · intro hc
      have: ¬(l[i]!).1<=(l[i-1]!).1:=fun h=>hc ⟨h0,h⟩
      rw [hb,decide_eq_false this];rfl
  · have e3:decide ((0:Int)<(i:Int))=false:=by simp;omega
    constructor
    · intro hc;exact absurd hc.1 h0
    · intro _
      unfold field_Check_l1;simp only [e1,e3,cond_true,cond_false,geti_nat l i (by omega),bindS,wi_succ (show i<1000000000 by omega)]) (by
  unfold field_Check_l1
  have:decide ((l.length:Int)<(l.length:Int))=false:=by simp
  simp only [this,cond_false])
 by_cases hs:Sorted l
 · rw [if_pos hs]
   refine key.2 fun i hi=>?_
   rintro ⟨h0,h1⟩
   have:=hs (i-1) (by omega)
   rw [show i-1+1=i by omega] at this
   omega
 · rw [if_neg hs]
   refine key.1 ?_;unfold Sorted at hs;simp only [Classical.not_forall] at hs;obtain ⟨i,hi,h2⟩:=hs;exact ⟨i+1,by omega,by omega,by rw [show i+1-1=i by omega];omega⟩
theorem field_Check_eq (f:Field):field_Check f=some (fieldErr f.points):=by
 unfold field_Check fieldErr;rw [ofNat_eq]
 by_cases h:64<f.points.length
 · have:decide ((64:Int)<(f.points.length:Int))=true:=by simp;omega
   rw [this,if_pos h];rfl
 · have:decide ((64:Int)<(f.points.length:Int))=false:=by simp;omega
   rw [this,if_neg h];simp only [cond_false];generalize f.points=l at*;have key:=while_any (body:=field_Check_l2) (fun i=>(l,(l.length:Int),(i:Int),l)) l.length (fun i=> ¬PtOK l[i]!) (r:=8) (e:=if Sorted l then 0 else 32) (by
    intro i hi;have e1:decide ((i:Int)<(l.length:Int))=true:=by simp;omega
    have hb:field_Check_l2 (l,(l.length:Int),(i:Int),l)=bif (if PtOK l[i]! then (0:Int) else 8) !=0 then some (.done (if PtOK l[i]! then (0:Int) else 8)) else some (.next (l,(l.length:Int),((i+1:Nat):Int),l)):=by
     unfold field_Check_l2;simp only [e1,cond_true,geti_nat l i (by omega),bindS,course_Check_eq,wi_succ (show i<1000000000 by omega)]
    constructor
    · intro hc;rw [hb,if_neg hc];rfl
    · intro hc;rw [hb,if_pos (Classical.not_not.1 hc)];rfl) (by
    unfold field_Check_l2
    have:decide ((l.length:Int)<(l.length:Int))=false:=by simp
    simp only [this,cond_false];exact field_l1_eq l (by omega))
   by_cases hp: ∀p∈l,PtOK p
   · rw [if_neg (Classical.not_not.2 hp)]
     refine (key.2 fun i hi=>?_).trans ?_
     · exact Classical.not_not.2 (hp _ (bang_mem hi))
     · by_cases hs:Sorted l
       · simp [hs]
       · simp [hs]
   · rw [if_pos hp]
     refine key.1 ?_;obtain ⟨p,hp⟩:=Classical.not_forall.1 hp;obtain ⟨hm,h2⟩:=Classical.not_imp.1 hp;obtain ⟨i,hi,rfl⟩:=mem_bang.1 hm;exact ⟨i,hi,h2⟩
theorem sorted_lt {l:List Pt} (h:Sorted l) {i j:Nat} (hij:i<j) (hj:j<l.length):(l[i]!).1<(l[j]!).1:=by
 induction j with
 |zero=>omega
 |succ j ih=>
  have h1:=h j hj
  by_cases he:i=j
  · subst he;exact h1
  · have:=ih (by omega) (by omega);omega
theorem sorted_inj {l:List Pt} (h:Sorted l) {i j:Nat} (hi:i<l.length) (hj:j<l.length) (he:(l[i]!).1=(l[j]!).1):i=j:=by
 rcases Nat.lt_trichotomy i j with h1|h1|h1
 · have:=sorted_lt h h1 hj;omega
 · exact h1
 · have:=sorted_lt h h1 hi;omega
theorem ref03_At_eq (l:List Pt) (id:Int) (hl:l.length<=1000000):(∀k,k<l.length->(l[k]!).1=id->(∀j,j<k->(l[j]!).1≠id)->ref03_At ⟨l⟩ id=some (k:Int))/\((∀k,k<l.length->(l[k]!).1≠id)->ref03_At ⟨l⟩ id=some (-1)):=by
 unfold ref03_At;refine while_first (body:=ref03_At_l1) (fun i=>(id,(i:Int),l)) l.length (fun i=>(l[i]!).1=id) (fun i=>(i:Int)) (fun i hi=>?_) ?_
 · have e1:decide ((i:Int)<(l.length:Int))=true:=by simp;omega
   have hb:ref03_At_l1 (id,(i:Int),l)=bif (l[i]!).1==id then some (.done (i:Int)) else some (.next (id,((i+1:Nat):Int),l)):=by
    unfold ref03_At_l1;simp only [ofNat_eq,e1,cond_true,geti_nat l i hi,bindS,wi_succ (show i<1000000000 by omega)]
   constructor
   · intro hc;rw [hb,beq_t hc];rfl
   · intro hc;rw [hb,beq_f hc];rfl
 · unfold ref03_At_l1
   have:decide ((l.length:Int)<(l.length:Int))=false:=by simp
   simp only [ofNat_eq,this,cond_false]
theorem At_sorted {l:List Pt} (hs:Sorted l) (hl:l.length<=1000000) {k:Nat} (hk:k<l.length) {id:Int} (he:(l[k]!).1=id):ref03_At ⟨l⟩ id=some (k:Int):=by
 refine (ref03_At_eq l id hl).1 k hk he fun j hj hc=>?_
 have:=sorted_lt hs hj hk
 omega
theorem At_none {l:List Pt} (hl:l.length<=1000000) {id:Int} (h: ∀k,k<l.length->(l[k]!).1≠id):ref03_At ⟨l⟩ id=some (-1):=(ref03_At_eq l id hl).2 h
theorem place_ex (f:Nat->Int) (id:Int): ∀(n:Nat),(∀i j,i<j->j<n->f i<f j)-> ∃m,m<=n/\(∀i,i<m->f i<id)/\(∀i,m<=i->i<n->id<=f i)
 |0,_=>⟨0,Nat.le_refl _,fun i h=>by omega,fun i _ h=>by omega⟩
 |n+1,h=>by
  obtain ⟨m,h1,h2,h3⟩:=place_ex f id n fun i j a b=>h i j a (by omega)
  by_cases hm:m=n
  · by_cases hf:f n<id
    · refine ⟨n+1,Nat.le_refl _,fun i hi=>?_,fun i a b=>by omega⟩
      by_cases he:i=n
      · subst he;exact hf
      · exact h2 i (by omega)
    · refine ⟨n,by omega,fun i hi=>h2 i (by omega),fun i a b=>?_⟩
      have:i=n:=by omega
      subst this;omega
  · refine ⟨m,by omega,h2,fun i a b=>?_⟩
    by_cases he:i=n
    · subst he
      have:=h m i (by omega) (by omega)
      have:=h3 m (Nat.le_refl _) (by omega)
      omega
    · exact h3 i a (by omega)
end Go.Proofs.YtjikemfbommnlaaGreat
namespace Go.Proofs.YtjikemfbommnlaaGreat
open Go.Vm Classical
theorem nodup_bang {α:Type} [Inhabited α] {l:List α}:l.Nodup↔ ∀i j,i<j->j<l.length->l[i]!≠l[j]!:=by
 unfold List.Nodup;rw [List.pairwise_iff_getElem];constructor
 · intro h i j hij hj
   rw [getElem!_pos l i (by omega),getElem!_pos l j hj]
   exact h i j (by omega) hj hij
 · intro h i j hi hj hij
   have:=h i j hij hj
   rwa [getElem!_pos l i hi,getElem!_pos l j hj] at this
theorem mem_take_bang {α:Type} [Inhabited α] {l:List α} {k:Nat} {x:α}:x∈l.take k↔ ∃i,i<k/\i<l.length/\l[i]! =x:=by
 rw [mem_bang];constructor
 · rintro ⟨i,hi,rfl⟩
   rw [List.length_take] at hi;exact ⟨i,by omega,by omega,(bang_take (by omega)).symm⟩
 · rintro ⟨i,h1,h2,rfl⟩
   exact ⟨i,by rw [List.length_take];omega,bang_take h1⟩
theorem take_succ_bang {α:Type} [Inhabited α] {l:List α} {k:Nat} (h:k<l.length):l.take (k+1)=l.take k++[l[k]!]:=by
 rw [List.take_add_one,List.getElem?_eq_getElem h,getElem!_pos l k h];rfl
def marks (l:List Bool):List Int->List Bool
 | []=>l
 |x::r=>marks (seti l x true) r
theorem marks_len: ∀(r:List Int) (l:List Bool),(marks l r).length=l.length
 | [],_=>rfl
 |x::r,l=>by rw [marks,marks_len r,len_seti]
theorem marks_snoc: ∀(r:List Int) (l:List Bool) (x:Int),marks l (r++[x])=seti (marks l r) x true
 | [],_,_=>rfl
 |y::r,l,x=>by
  show marks (seti l y true) (r++[x])=_;rw [marks_snoc r];rfl
theorem marks_get: ∀(r:List Int) (l:List Bool) (i:Nat),(∀x∈r,0<=x)->i<l.length->(marks l r)[i]! =(l[i]!||decide ((i:Int)∈r))
 | [],l,i,_,_=>by simp [marks]
 |x::r,l,i,h,hi=>by
  rw [marks,marks_get r _ i (fun y hy=>h y (by simp [hy])) (by rw [len_seti];exact hi)]
  obtain ⟨k,rfl⟩:=Int.eq_ofNat_of_zero_le (h x (by simp))
  rw [seti_nat,bang_set]
  by_cases e:i=k
  · subst e;rw [if_pos ⟨rfl,hi⟩];simp
  · rw [if_neg (fun h=>e h.1)]
    have:((i:Int)∈(k:Int)::r)↔(i:Int)∈r:=by
     rw [List.mem_cons];constructor
     · rintro (h|h)
       · omega
       · exact h
     · exact .inr
    simp only [this]
theorem Contains_false (l:List Bool) (h:l.length<=1000000):slices_Contains_bool l false=some (decide (false∈l)):=by
 unfold slices_Contains_bool slices_Index_bool;have key:=while_first (body:=slices_Index_bool_l1) (fun i=>(l,false,(l.length:Int),(i:Int))) l.length (fun i=>l[i]! =false) (fun i=>(i:Int)) (e:= -1) (fun i hi=>by
  have e1:decide ((i:Int)<(l.length:Int))=true:=by simp;omega
  have hb:slices_Index_bool_l1 (l,false,(l.length:Int),(i:Int))=bif false==l[i]! then some (.done (i:Int)) else some (.next (l,false,(l.length:Int),((i+1:Nat):Int))):=by
   unfold slices_Index_bool_l1;simp only [e1,cond_true,geti_nat l i hi,bindS,wi_succ (show i<1000000000 by omega)]
  constructor
  · intro hc;rw [hb,hc];rfl
  · intro hc
    have:l[i]! =true:=by simpa using hc
    rw [hb,this];rfl) (by
  unfold slices_Index_bool_l1
  have:decide ((l.length:Int)<(l.length:Int))=false:=by simp
  simp only [this,cond_false])
 rw [ofNat_eq]
 by_cases hx:false∈l
 · obtain ⟨i,hi,he⟩:=mem_bang.1 hx
   obtain ⟨k,h1,h2,h3⟩:=least (c:=fun i=>l[i]! =false) ⟨i,hi,he⟩
   have:=key.1 k h1 h2 h3
   rw [show ((0:Nat):Int)=0 from rfl] at this;rw [this];have e:decide ((0:Int)<=(k:Int))=true:=by simp
   simp [hx]
 · have:=key.2 fun i hi he=>hx (mem_bang.2 ⟨i,hi,he⟩)
   rw [show ((0:Nat):Int)=0 from rfl] at this;rw [this];simp [hx]
structure SlotsOK (s:Slots):Prop where
 n1:1<=s.uses.length
 n2:s.uses.length<=200
 ul:s.used.length=s.uses.length
 fr: ∀x∈s.free,0<=x/\x<s.uses.length
 fd:s.free.Nodup
 uf: ∀i,i<s.uses.length->(s.used[i]! =true↔(i:Int)∉s.free)
 us: ∀i,i<s.uses.length->0<=s.uses[i]!/\s.uses[i]!<=1000000/\(s.used[i]! =true->1<=s.uses[i]!)
theorem slot_l1_eq (uses:List Int) (used:List Bool) (fr:List Int) (h1:uses.length<=200) (h2:used.length=uses.length):
 whileO slot_Check_l1 (uses,(uses.length:Int),0,uses,used,fr)=some (.done (if∀i,i<uses.length->0<=uses[i]!/\uses[i]!<=1000000/\(used[i]! =true->1<=uses[i]!) then 0 else 8)):=by
 have key:=while_any (body:=slot_Check_l1) (fun i=>(uses,(uses.length:Int),(i:Int),uses,used,fr)) uses.length (fun i=> ¬(0<=uses[i]!/\uses[i]!<=1000000/\(used[i]! =true->1<=uses[i]!))) (r:= .done 8) (e:= .done 0) (fun i hi=>by
  have e1:decide ((i:Int)<(uses.length:Int))=true:=by simp;omega
  have hb:slot_Check_l1 (uses,(uses.length:Int),(i:Int),uses,used,fr)=bif decide (uses[i]!<0) then some (.done (.done 8)) else bif decide (1000000<uses[i]!) then some (.done (.done 8)) else bif uses[i]! ==0 then (bif used[i]! then some (.done (.done 8)) else some (.next (uses,(uses.length:Int),((i+1:Nat):Int),uses,used,fr))) else some (.next (uses,(uses.length:Int),((i+1:Nat):Int),uses,used,fr)):=by
   unfold slot_Check_l1;simp only [e1,cond_true,geti_nat uses i hi,geti_nat used i (by omega),bindS,wi_succ (show i<1000000000 by omega)]
  rw [hb];generalize uses[i]! =u at*
  by_cases a1:u<0
  · simp [a1];omega
  · by_cases a2:1000000<u
    · simp [a1,a2];omega
    · by_cases a3:u=0
      · subst a3
        cases used[i]!<;>simp
      · have a4:1<=u:=by omega
        have a5:0<=u:=by omega
        have a6:u<=1000000:=by omega
        simp [a1,a2,beq_f a3,a4,a5,a6]) (by
  unfold slot_Check_l1
  have:decide ((uses.length:Int)<(uses.length:Int))=false:=by simp
  simp only [this,cond_false])
 by_cases hc: ∀i,i<uses.length->0<=uses[i]!/\uses[i]!<=1000000/\(used[i]! =true->1<=uses[i]!)
 · rw [if_pos hc]
   exact key.2 fun i hi=>Classical.not_not.2 (hc i hi)
 · rw [if_neg hc]
   simp only [Classical.not_forall] at hc;obtain ⟨i,hi,hx⟩:=hc;exact key.1 ⟨i,hi,by simpa only [Classical.not_forall] using hx⟩
theorem slot_Check_eq (s:Slots) (hf:s.free.length<=1000000):slot_Check s=some (if SlotsOK s then 0 else 8):=by
 obtain ⟨uses,used,fr⟩:=s;dsimp only at hf;unfold slot_Check;simp only [ofNat_eq]
 by_cases a1:uses.length<1
 · have e:decide ((uses.length:Int)<1)=true:=by simp;omega
   rw [e,if_neg (fun h=>by have:=h.n1;dsimp only at this;omega)];rfl
 have e1:decide ((uses.length:Int)<1)=false:=by simp;omega
 by_cases a2:200<uses.length
 · have e:decide (200<(uses.length:Int))=true:=by simp;omega
   rw [e1,e,if_neg (fun h=>by have:=h.n2;dsimp only at this;omega)];rfl
 have e2:decide (200<(uses.length:Int))=false:=by simp;omega
 by_cases a3:used.length=uses.length
 case neg=>
  have e:((used.length:Int) !=(uses.length:Int))=true:=by simp;omega
  rw [e1,e2,e,if_neg (fun h=>a3 h.ul)];rfl
 have e3:((used.length:Int) !=(uses.length:Int))=false:=by simp;omega
 simp only [e1,e2,e3,cond_false,cloneO_le (show used.length<=1048576 by omega),bindS]
 have inner:=slot_l1_eq uses used fr (by omega) a3
 have key:=while_any (body:=slot_Check_l2 used) (fun k=>(fr,(fr.length:Int),(k:Int),uses,used,fr,(uses.length:Int),marks used (fr.take k))) fr.length
  (fun k=>fr[k]!<0\/(uses.length:Int)<=fr[k]!\/(marks used (fr.take k))[(fr[k]!).toNat]! =true) (r:=8)
  (e:=if false∈marks used fr then 8 else if∀i,i<uses.length->0<=uses[i]!/\uses[i]!<=1000000/\(used[i]! =true->1<=uses[i]!) then 0 else 8) (fun k hk=>by
   have f1:decide ((k:Int)<(fr.length:Int))=true:=by simp;omega
   have f2:((marks used (fr.take k)).length==used.length)=true:=by rw [marks_len];simp
   have f3:decide ((0:Int)<=(k:Int))=true:=by simp
   have f4: ∀x:Int,((seti (marks used (fr.take k)) x true).length==(marks used (fr.take k)).length)=true:=by intro x;rw [len_seti];simp
   have f5:marks used (fr.take (k+1))=seti (marks used (fr.take k)) fr[k]! true:=by rw [take_succ_bang hk,marks_snoc]
   unfold slot_Check_l2;simp only [f1,f2,f3,f4,cond_true,beq_self_eq_true,geti_nat fr k hk,bindS,wi_succ (show k<1000000000 by omega),f5]
   clear f5;generalize fr[k]! =x
   by_cases b1:x<0
   · simp [b1]
   · by_cases b2:(uses.length:Int)<=x
     · simp [b1,b2]
     · simp only [b1,b2,decide_false,cond_false,false_or]
       rw [geti_int (l:=marks used (fr.take k)) (i:=x) (by omega) (by rw [marks_len];omega)]
       simp only [bindS];cases (marks used (fr.take k))[x.toNat]!<;>simp) (by
   have f1:decide ((fr.length:Int)<(fr.length:Int))=false:=by simp
   unfold slot_Check_l2;simp only [f1,cond_false,List.take_length];rw [Contains_false _ (by rw [marks_len];omega)]
   have f2:((marks used fr).length==used.length)=true:=by rw [marks_len];simp
   simp only [f2,cond_true,bindS,ofNat_eq,inner]
   by_cases hx:false∈marks used fr
   · simp [hx]
   · simp [hx])
 have h0:marks used (fr.take 0)=used:=rfl;rw [show ((0:Nat):Int)=0 from rfl,h0] at key
 by_cases bad: ∃k,k<fr.length/\(fr[k]!<0\/(uses.length:Int)<=fr[k]!\/(marks used (fr.take k))[(fr[k]!).toNat]! =true)
 · rw [key.1 bad,if_neg]
   intro ok;obtain ⟨k,hk,hb⟩:=bad;have hr:=ok.fr fr[k]! (bang_mem hk);dsimp only at hr;rcases hb with hb|hb|hb
   · omega
   · omega
   · rw [marks_get _ _ _ (fun x hx=>(ok.fr x (List.mem_of_mem_take hx)).1) (by omega)] at hb
     have hi:((fr[k]!).toNat:Int)=fr[k]!:=by omega
     rw [hi,Bool.or_eq_true] at hb;rcases hb with hb|hb
     · have:=(ok.uf (fr[k]!).toNat (by show _<uses.length;omega)).1 hb
       rw [hi] at this;exact this (bang_mem hk)
     · have hm:fr[k]!∈fr.take k:=by simpa using hb
       obtain ⟨j,h1,h2,h3⟩:=mem_take_bang.1 hm;exact nodup_bang.1 ok.fd j k h1 hk h3
 · have good: ∀k,k<fr.length->0<=fr[k]!/\fr[k]!<uses.length/\(marks used (fr.take k))[(fr[k]!).toNat]! =false:=by
    intro k hk;refine ⟨?_,?_,?_⟩
    · exact Int.not_lt.1 fun h=>bad ⟨k,hk,.inl h⟩
    · exact Int.not_le.1 fun h=>bad ⟨k,hk,.inr (.inl h)⟩
    · exact Bool.not_eq_true _▸fun h=>bad ⟨k,hk,.inr (.inr h)⟩
   rw [key.2 fun k hk hb=>bad ⟨k,hk,hb⟩]
   have rng: ∀x∈fr,0<=x/\x<(uses.length:Int):=by
    intro x hx;obtain ⟨k,hk,rfl⟩:=mem_bang.1 hx;exact ⟨(good k hk).1,(good k hk).2.1⟩
   have g2: ∀k,k<fr.length->used[(fr[k]!).toNat]! =false/\fr[k]!∉fr.take k:=by
    intro k hk;obtain ⟨c1,c2,c3⟩:=good k hk;rw [marks_get _ _ _ (fun x hx=>(rng x (List.mem_of_mem_take hx)).1) (by omega),show ((fr[k]!).toNat:Int)=fr[k]! by omega,Bool.or_eq_false_iff] at c3
    exact ⟨c3.1,by simpa using c3.2⟩
   have nd:fr.Nodup:=nodup_bang.2 fun i j hij hj he=>(g2 j hj).2 (mem_take_bang.2 ⟨i,hij,by omega,he⟩)
   by_cases hx:false∈marks used fr
   · rw [if_pos hx,if_neg]
     intro ok;obtain ⟨i,hi,he⟩:=mem_bang.1 hx;rw [marks_len] at hi;rw [marks_get _ _ _ (fun x hx=>(rng x hx).1) hi,Bool.or_eq_false_iff] at he
     have h3:(i:Int)∉fr:=by simpa using he.2
     have:=(ok.uf i (by show _<uses.length;omega)).2 h3
     rw [show used[i]! =false from he.1] at this;cases this
   · rw [if_neg hx]
     by_cases hu: ∀i,i<uses.length->0<=uses[i]!/\uses[i]!<=1000000/\(used[i]! =true->1<=uses[i]!)
     · rw [if_pos hu,if_pos]
       refine ⟨by show 1<=uses.length;omega,by show uses.length<=200;omega,a3,rng,nd,fun i hi=>?_,hu⟩
       dsimp only at hi ⊢;constructor
       · intro h1 h2
         obtain ⟨k,hk,he⟩:=mem_bang.1 h2
         have:=(g2 k hk).1
         rw [he,show ((i:Int)).toNat=i by omega,h1] at this
         cases this
       · intro h1
         refine Classical.byContradiction fun h2=>hx ?_
         refine mem_bang.2 ⟨i,by rw [marks_len];omega,?_⟩
         rw [marks_get _ _ _ (fun x hx=>(rng x hx).1) (by omega)]
         have:used[i]! =false:=by simpa using h2
         rw [this];simpa using h1
     · rw [if_neg hu,if_neg]
       intro ok;exact hu ok.us
end Go.Proofs.YtjikemfbommnlaaGreat
namespace Go.Proofs.YtjikemfbommnlaaGreat
open Go.Vm Classical
theorem SlotsOK.fl {s:Slots} (ok:SlotsOK s):s.free.length<=s.uses.length:=by
 have h:=pigeon s.uses.length (s.free.map Int.toNat) (by
  rw [nodup_bang];intro i j hij hj he;rw [List.length_map] at hj;have e: ∀k,k<s.free.length->(s.free.map Int.toNat)[k]! =(s.free[k]!).toNat:=by
   intro k hk;rw [getElem!_pos _ k (by simpa using hk),List.getElem_map,getElem!_pos s.free k hk]
  rw [e i (by omega),e j hj] at he
  have h1:=(ok.fr _ (bang_mem (show i<s.free.length by omega))).1
  have h2:=(ok.fr _ (bang_mem hj)).1;exact nodup_bang.1 ok.fd i j hij hj (by omega)) (by
  intro x hx;obtain ⟨y,hy,rfl⟩:=List.mem_map.1 hx
  have:=ok.fr y hy
  omega)
 rwa [List.length_map] at h
def SLive (s:Slots) (h:Int×Int):Prop:=0<=h.1/\h.1<s.uses.length/\s.used[h.1.toNat]! =true/\s.uses[h.1.toNat]! =h.2
def sGiven (s:Slots) (h:Int×Int):Slots:=⟨s.uses,s.used.set h.1.toNat false,s.free++[h.1]⟩
def nextI (s:Slots):Nat:=(s.free[s.free.length-1]!).toNat
def SOpen (s:Slots):Prop:=0<s.free.length/\s.uses[nextI s]!<1000000
def sTaken (s:Slots):Slots:=⟨s.uses.set (nextI s) (s.uses[nextI s]!+1),s.used.set (nextI s) true,s.free.take (s.free.length-1)⟩
def sHandle (s:Slots):Int×Int:=((nextI s:Int),s.uses[nextI s]!+1)
theorem slot_Has_eq {s:Slots} (ok:SlotsOK s) (h:Int×Int):slot_Has s h=some (decide (SLive s h),0):=by
 have hl:=ok.fl;have hn:=ok.n2;have hu:=ok.ul;unfold slot_Has SLive;rw [slot_Check_eq s (by omega),if_pos ok]
 simp only [bindS,show ((0:Int) !=0)=false from rfl,cond_false,ofNat_eq]
 by_cases a1:0<=h.1
 · by_cases a2:h.1<s.uses.length
   · have e2:decide (h.1<(s.used.length:Int))=true:=by simp;omega
     simp only [a1,a2,e2,decide_true,cond_true,geti_int (l:=s.used) a1 (by omega),geti_int (l:=s.uses) a1 a2,bindS,true_and]
     generalize s.uses[h.1.toNat]! =u;cases s.used[h.1.toNat]!<;>simp [beq_dec]
   · have e2:decide (h.1<(s.used.length:Int))=false:=by simp;omega
     simp [a1,a2,e2]
 · simp [a1]
theorem slot_Give_eq {s:Slots} (ok:SlotsOK s) {h:Int×Int} (lv:SLive s h):slot_Give s h=some (sGiven s h,0):=by
 have hl:=ok.fl;have hn:=ok.n2;have hu:=ok.ul;unfold slot_Give;rw [slot_Has_eq ok,decide_eq_true lv];unfold slot_stack_push;obtain ⟨l1,l2,l3,l4⟩:=lv;have e1:seti s.used h.1 false=s.used.set h.1.toNat false:=rfl
 simp only [bindS,show ((0:Int) !=0)=false from rfl,cond_false,Bool.not_true,cloneO_le (show s.uses.length<=1048576 by omega),cloneO_le (show s.used.length<=1048576 by omega),cloneO_le (show s.free.length<=1048576 by omega),
  appendO_le (show s.free.length+[h.1].length<=1048576 by simp;omega),geti_int (l:=s.used) l1 (by omega),e1,sGiven]
theorem ref06_Twin_eq {s:Slots} (ok:SlotsOK s):ref06_Twin s=some s:=by
 have hl:=ok.fl;have hn:=ok.n2;have hu:=ok.ul;unfold ref06_Twin;simp only [bindS,cloneO_le (show s.uses.length<=1048576 by omega),cloneO_le (show s.used.length<=1048576 by omega),cloneO_le (show s.free.length<=1048576 by omega)]
theorem ref06_Given_eq {s:Slots} (ok:SlotsOK s) {h:Int×Int} (lv:SLive s h):ref06_Given s h=some (sGiven s h):=by
 have hl:=ok.fl;have hn:=ok.n2;have hu:=ok.ul;obtain ⟨l1,l2,l3,l4⟩:=lv;unfold ref06_Given;rw [ref06_Twin_eq ok];have e1:seti s.used h.1 false=s.used.set h.1.toNat false:=rfl;simp only [bindS,appendO_le (show s.free.length+[h.1].length<=1048576 by simp;omega),geti_int (l:=s.used) l1 (by omega),e1,sGiven]
theorem given_ok {s:Slots} (ok:SlotsOK s) {h:Int×Int} (lv:SLive s h):SlotsOK (sGiven s h):=by
 have hl:=ok.fl;have hn:=ok.n2;have hu:=ok.ul;obtain ⟨l1,l2,l3,l4⟩:=lv;have nf:h.1∉s.free:=by
  have:=(ok.uf h.1.toNat (by omega)).1 l3
  rwa [show (h.1.toNat:Int)=h.1 by omega] at this
 refine ⟨ok.n1,ok.n2,?_,?_,?_,?_,?_⟩
 · show (s.used.set _ _).length=_;rw [List.length_set];exact hu
 · intro x hx
   rcases List.mem_append.1 hx with hx|hx
   · exact ok.fr x hx
   · rw [List.mem_singleton] at hx;subst hx;exact ⟨l1,l2⟩
 · show (s.free++[h.1]).Nodup
   rw [List.nodup_append];refine ⟨ok.fd,by simp,?_⟩
   intro x hx y hy he;rw [List.mem_singleton] at hy;subst hy;subst he;exact nf hx
 · intro i hi
   change i<s.uses.length at hi;show (s.used.set h.1.toNat false)[i]! =true↔(i:Int)∉s.free++[h.1];rw [bang_set,List.mem_append,List.mem_singleton]
   by_cases e:i=h.1.toNat
   · rw [if_pos ⟨e,by omega⟩]
     have:(i:Int)=h.1:=by omega
     simp [this]
   · rw [if_neg (fun k=>e k.1),ok.uf i hi]
     have: ¬(i:Int)=h.1:=by omega
     simp [this]
 · intro i hi
   change i<s.uses.length at hi;obtain ⟨u1,u2,u3⟩:=ok.us i hi;refine ⟨u1,u2,?_⟩;show (s.used.set h.1.toNat false)[i]! =true->_;rw [bang_set];split
   · intro h;cases h
   · exact u3
theorem next_lt {s:Slots} (ok:SlotsOK s) (h:0<s.free.length):nextI s<s.uses.length/\(nextI s:Int)=s.free[s.free.length-1]!/\(nextI s:Int)∈s.free:=by
 have hm:=bang_mem (l:=s.free) (i:=s.free.length-1) (by omega)
 have:=ok.fr _ hm
 have e:(nextI s:Int)=s.free[s.free.length-1]!:=by unfold nextI;omega
 refine ⟨by omega,e,by rw [e];exact hm⟩
theorem sliceO_le {α:Type} (l:List α) (n:Nat) (h:n<=l.length):sliceO l 0 (n:Int)=some (l.take n):=by
 unfold sliceO;rw [if_pos ⟨by omega,by omega,by omega⟩]
 simp
theorem slot_Take_eq {s:Slots} (ok:SlotsOK s):slot_Take s=some (if SOpen s then (sTaken s,sHandle s,0) else (⟨[],[],[]⟩,(0,0),18)):=by
 have hl:=ok.fl;have hn:=ok.n2;have hu:=ok.ul;unfold slot_Take SOpen;rw [slot_Check_eq s (by omega),if_pos ok]
 simp only [bindS,show ((0:Int) !=0)=false from rfl,cond_false,ofNat_eq]
 by_cases a1:0<s.free.length
 · obtain ⟨n1,n2,n3⟩:=next_lt ok a1
   have e1:((s.free.length:Int)==0)=false:=beq_f (by omega)
   have e2:wrapF .i64 ((s.free.length:Int) -1)=((s.free.length-1:Nat):Int):=wi_pred (by omega) (by omega)
   unfold slot_stack_pop;simp only [e1,cond_false,ofNat_eq,e2,sliceO_le s.free (s.free.length-1) (by omega),bindS,cloneO_le (show (s.free.take (s.free.length-1)).length<=1048576 by rw [List.length_take];omega),
    geti_nat s.free (s.free.length-1) (by omega),<- n2,geti_nat s.uses (nextI s) n1]
   obtain ⟨u1,u2,u3⟩:=ok.us (nextI s) n1
   by_cases a2:s.uses[nextI s]! =1000000
   · have e3:(s.uses[nextI s]! ==1000000)=true:=by simpa using a2
     rw [e3,if_neg (by omega)];rfl
   · have e3:(s.uses[nextI s]! ==1000000)=false:=by simpa using a2
     have e4:wrapF .i64 (s.uses[nextI s]!+1)=s.uses[nextI s]!+1:=by rw [wi];omega
     rw [e3,if_pos (by omega)]
     simp only [cond_false,cloneO_le (show s.uses.length<=1048576 by omega),cloneO_le (show s.used.length<=1048576 by omega),bindS,geti_nat s.used (nextI s) (by omega),geti_nat s.uses (nextI s) n1,e4,seti_nat,
      geti_nat (s.uses.set (nextI s) (s.uses[nextI s]!+1)) (nextI s) (by rw [List.length_set];exact n1),bang_set,n1,and_self,if_true,sTaken,sHandle]
 · have e1:((s.free.length:Int)==0)=true:=beq_t (by omega)
   rw [e1,if_neg (fun h=>a1 h.1)];rfl
theorem ref06_Open_eq {s:Slots} (ok:SlotsOK s):ref06_Open s=some (decide (SOpen s)):=by
 have hl:=ok.fl;have hn:=ok.n2;have hu:=ok.ul;unfold ref06_Open SOpen;simp only [ofNat_eq]
 by_cases a1:0<s.free.length
 · obtain ⟨n1,n2,n3⟩:=next_lt ok a1
   have e1:decide ((0:Int)<(s.free.length:Int))=true:=by simp;omega
   have e2:wrapF .i64 ((s.free.length:Int) -1)=((s.free.length-1:Nat):Int):=wi_pred (by omega) (by omega)
   simp only [e1,e2,cond_true,geti_nat s.free (s.free.length-1) (by omega),bindS,<- n2,geti_nat s.uses (nextI s) n1,a1,true_and]
 · have e1:decide ((0:Int)<(s.free.length:Int))=false:=decide_eq_false (by omega)
   rw [e1];simp [a1]
theorem ref06_Taken_eq {s:Slots} (ok:SlotsOK s) (h:SOpen s):ref06_Taken s=some (sTaken s,sHandle s):=by
 have hl:=ok.fl;have hn:=ok.n2;have hu:=ok.ul;obtain ⟨a1,a2⟩:=h;obtain ⟨n1,n2,n3⟩:=next_lt ok a1;obtain ⟨u1,u2,u3⟩:=ok.us (nextI s) n1;unfold ref06_Taken;rw [ref06_Twin_eq ok];have e2:wrapF .i64 ((s.free.length:Int) -1)=((s.free.length-1:Nat):Int):=wi_pred (by omega) (by omega)
 have e4:wrapF .i64 (s.uses[nextI s]!+1)=s.uses[nextI s]!+1:=by rw [wi];omega
 simp only [bindS,ofNat_eq,e2,geti_nat s.free (s.free.length-1) (by omega),sliceO_le s.free (s.free.length-1) (by omega),<- n2,geti_nat s.uses (nextI s) n1,geti_nat s.used (nextI s) (by omega),e4,seti_nat,
  geti_nat (s.uses.set (nextI s) (s.uses[nextI s]!+1)) (nextI s) (by rw [List.length_set];exact n1),bang_set,n1,and_self,if_true,sTaken,sHandle,Int.toNat_natCast]
theorem taken_ok {s:Slots} (ok:SlotsOK s) (h:SOpen s):SlotsOK (sTaken s):=by
 have hl:=ok.fl;have hn:=ok.n2;have hu:=ok.ul;obtain ⟨a1,a2⟩:=h;obtain ⟨n1,n2,n3⟩:=next_lt ok a1;have mt: ∀x:Int,x∈s.free.take (s.free.length-1)↔(x∈s.free/\x≠(nextI s:Int)):=by
  intro x;rw [mem_take_bang];constructor
  · rintro ⟨i,h1,h2,rfl⟩
    refine ⟨bang_mem h2,?_⟩;rw [n2];exact nodup_bang.1 ok.fd i (s.free.length-1) h1 (by omega)
  · rintro ⟨h1,h2⟩
    obtain ⟨i,hi,rfl⟩:=mem_bang.1 h1;refine ⟨i,?_,hi,rfl⟩;refine Classical.byContradiction fun hc=>h2 ?_
    rw [n2,show i=s.free.length-1 by omega]
 refine ⟨?_,?_,?_,?_,?_,?_,?_⟩
 · show 1<=(s.uses.set _ _).length;rw [List.length_set];exact ok.n1
 · show (s.uses.set _ _).length<=200;rw [List.length_set];exact ok.n2
 · show (s.used.set _ _).length=(s.uses.set _ _).length;rw [List.length_set,List.length_set];exact hu
 · intro x hx
   show 0<=x/\x<((s.uses.set _ _).length:Int);rw [List.length_set];exact ok.fr x ((mt x).1 hx).1
 · exact ok.fd.sublist (List.take_sublist _ _)
 · intro i hi
   change i<(s.uses.set _ _).length at hi;rw [List.length_set] at hi;show (s.used.set (nextI s) true)[i]! =true↔(i:Int)∉s.free.take (s.free.length-1);rw [bang_set,mt]
   by_cases e:i=nextI s
   · rw [if_pos ⟨e,by omega⟩]
     simp [e]
   · rw [if_neg (fun k=>e k.1),ok.uf i hi]
     have:(i:Int)≠(nextI s:Int):=by omega
     simp [this]
 · intro i hi
   change i<(s.uses.set _ _).length at hi;rw [List.length_set] at hi;obtain ⟨u1,u2,u3⟩:=ok.us i hi;show 0<=(s.uses.set (nextI s) (s.uses[nextI s]!+1))[i]!/\(s.uses.set (nextI s) (s.uses[nextI s]!+1))[i]!<=1000000/\((s.used.set (nextI s) true)[i]! =true->1<=(s.uses.set (nextI s) (s.uses[nextI s]!+1))[i]!);rw [bang_set,bang_set]
   by_cases e:i=nextI s
   · subst e
     rw [if_pos ⟨rfl,n1⟩];refine ⟨by omega,by omega,fun _=>by omega⟩
   · rw [if_neg (fun k=>e k.1),if_neg (fun k=>e k.1)]
     exact ⟨u1,u2,u3⟩
end Go.Proofs.YtjikemfbommnlaaGreat
namespace Go.Proofs.YtjikemfbommnlaaGreat
open Go.Vm Classical
abbrev Ev:=Int×Int×Int×Int×Int
abbrev Ev.at (x:Ev):Int×Int:=(x.1,x.2.1)
abbrev Ev.num (x:Ev):Int:=x.2.2.1
abbrev Ev.ix (x:Ev):Int:=x.2.2.2.1
abbrev Ev.n (x:Ev):Nat:=x.2.2.2.1.toNat
theorem n_lt {x:Ev} {k:Nat} (h:x.ix<(k:Int)) (h0:0<=x.ix):x.n<k:=by
 show x.ix.toNat<k;omega
theorem n_ne {x y:Ev} (h0:0<=x.ix) (h1:0<=y.ix) (h:x.ix≠y.ix):x.n≠y.n:=by
 show x.ix.toNat≠y.ix.toNat
 omega
def less (x y:Ev):Prop:=cmpR (x.1,x.2.1) (y.1,y.2.1)<0\/(cmpR (x.1,x.2.1) (y.1,y.2.1)=0/\x.2.2.1<y.2.2.1)
theorem cmpR_lt {a b:Int×Int}:cmpR a b<0↔a.1*b.2<b.1*a.2:=by
 unfold cmpR;rcases cmpI_cases (a.1*b.2) (b.1*a.2) with ⟨h,e⟩|⟨h,e⟩|⟨h,e⟩<;>rw [e]<;>constructor<;>intro<;>omega
theorem cmpR_eq {a b:Int×Int}:cmpR a b=0↔a.1*b.2=b.1*a.2:=by
 unfold cmpR;rcases cmpI_cases (a.1*b.2) (b.1*a.2) with ⟨h,e⟩|⟨h,e⟩|⟨h,e⟩<;>rw [e]<;>constructor<;>intro<;>omega
theorem less_asymm {x y:Ev} (h:less x y): ¬less y x:=by
 unfold less at*;rw [cmpR_lt,cmpR_eq] at*;dsimp only at*;rintro (k|k)<;>rcases h with h|h<;>omega
theorem frac_trans {a1 a2 b1 b2 c1 c2:Int} (ha:1<=a2) (hb:1<=b2) (hc:1<=c2) (h1:a1*b2<=b1*a2) (h2:b1*c2<=c1*b2):a1*c2<=c1*a2:=by
 have e1:a1*b2*c2<=b1*a2*c2:=Int.mul_le_mul_of_nonneg_right h1 (by omega)
 have e2:b1*c2*a2<=c1*b2*a2:=Int.mul_le_mul_of_nonneg_right h2 (by omega)
 have e3:(a1*c2)*b2<=(c1*a2)*b2:=by
  have r1:(a1*c2)*b2=a1*b2*c2:=by grind
  have r2:b1*a2*c2=b1*c2*a2:=by grind
  have r3:c1*b2*a2=(c1*a2)*b2:=by grind
  omega
 exact Int.le_of_mul_le_mul_right e3 (by omega)
theorem frac_trans_lt {a1 a2 b1 b2 c1 c2:Int} (ha:1<=a2) (hb:1<=b2) (hc:1<=c2) (h1:a1*b2<b1*a2) (h2:b1*c2<=c1*b2):a1*c2<c1*a2:=by
 have e1:a1*b2*c2<b1*a2*c2:=Int.mul_lt_mul_of_pos_right h1 (by omega)
 have e2:b1*c2*a2<=c1*b2*a2:=Int.mul_le_mul_of_nonneg_right h2 (by omega)
 have e3:(a1*c2)*b2<(c1*a2)*b2:=by
  have r1:(a1*c2)*b2=a1*b2*c2:=by grind
  have r2:b1*a2*c2=b1*c2*a2:=by grind
  have r3:c1*b2*a2=(c1*a2)*b2:=by grind
  omega
 exact Int.lt_of_mul_lt_mul_right e3 (by omega)
theorem frac_trans_lt' {a1 a2 b1 b2 c1 c2:Int} (ha:1<=a2) (hb:1<=b2) (hc:1<=c2) (h1:a1*b2<=b1*a2) (h2:b1*c2<c1*b2):a1*c2<c1*a2:=by
 have e1:a1*b2*c2<=b1*a2*c2:=Int.mul_le_mul_of_nonneg_right h1 (by omega)
 have e2:b1*c2*a2<c1*b2*a2:=Int.mul_lt_mul_of_pos_right h2 (by omega)
 have e3:(a1*c2)*b2<(c1*a2)*b2:=by
  have r1:(a1*c2)*b2=a1*b2*c2:=by grind
  have r2:b1*a2*c2=b1*c2*a2:=by grind
  have r3:c1*b2*a2=(c1*a2)*b2:=by grind
  omega
 exact Int.lt_of_mul_lt_mul_right e3 (by omega)
theorem leq_trans {x y z:Ev} (hx:1<=x.2.1) (hy:1<=y.2.1) (hz:1<=z.2.1) (h1: ¬less y x) (h2: ¬less z y): ¬less z x:=by
 unfold less at*;rw [cmpR_lt,cmpR_eq] at*;dsimp only at*;have t1:= @frac_trans x.1 x.2.1 y.1 y.2.1 z.1 z.2.1 hx hy hz;have t2:= @frac_trans_lt x.1 x.2.1 y.1 y.2.1 z.1 z.2.1 hx hy hz;have t3:= @frac_trans_lt' x.1 x.2.1 y.1 y.2.1 z.1 z.2.1 hx hy hz;generalize x.1*y.2.1=p at*;generalize y.1*x.2.1=q at*;generalize y.1*z.2.1=r at*;generalize z.1*y.2.1=s at*;generalize x.1*z.2.1=u at*
 generalize z.1*x.2.1=v at*;have a1:p<=q:=by omega
 have a2:r<=s:=by omega
 have a3:=t1 a1 a2;rintro (k|k)
 · omega
 · by_cases b1:p<q
   · have:=t2 b1 a2;omega
   · by_cases b2:r<s
     · have:=t3 a1 b2;omega
     · omega
structure Hole (n:Nat) (x:Ev) (M:Ev->Prop) (H:List Ev) (W:List Int) (i:Nat):Prop where
 lt:i<n
 hn:n<=H.length
 ix: ∀w,w<n->w≠i->0<=(H[w]!).ix/\(H[w]!).ix<W.length/\W[(H[w]!).n]! =(w:Int)/\(H[w]!).ix≠x.ix
 x0:0<=x.ix
 x1:x.ix<W.length
 mem: ∀e,(∃w,w<n/\w≠i/\H[w]! =e)↔M e
theorem Hole.move {n:Nat} {x:Ev} {M:Ev->Prop} {H:List Ev} {W:List Int} {i j:Nat} (h:Hole n x M H W i) (hj:j<n) (hij:j≠i):Hole n x M (H.set i H[j]!) (W.set (H[j]!).n (i:Int)) j:=by
 have hn:=h.hn;have hi:=h.lt;obtain ⟨j1,j2,j3,j4⟩:=h.ix j hj hij;have cell: ∀w,(H.set i H[j]!)[w]! =if w=i then H[j]! else H[w]!:=by
  intro w;rw [bang_set]
  by_cases e:w=i
  · rw [if_pos ⟨e,by omega⟩,if_pos e]
  · rw [if_neg (fun k=>e k.1),if_neg e]
 refine ⟨hj,by rw [List.length_set];exact hn,?_,h.x0,by rw [List.length_set];exact h.x1,?_⟩
 · intro w hw hwj
   rw [cell,List.length_set]
   by_cases e:w=i
   · rw [if_pos e,bang_set,if_pos ⟨rfl,n_lt j2 j1⟩]
     exact ⟨j1,j2,by rw [e],j4⟩
   · rw [if_neg e,bang_set]
     obtain ⟨k1,k2,k3,k4⟩:=h.ix w hw e;refine ⟨k1,k2,?_,k4⟩;rw [if_neg,k3];rintro ⟨c,_⟩;rw [c,j3] at k3;omega
 · intro e
   rw [<- h.mem e];constructor
   · rintro ⟨w,hw,hwj,he⟩
     rw [cell] at he
     by_cases c:w=i
     · rw [if_pos c] at he;exact ⟨j,hj,hij,he⟩
     · rw [if_neg c] at he;exact ⟨w,hw,c,he⟩
   · rintro ⟨w,hw,hwi,he⟩
     by_cases c:w=j
     · refine ⟨i,hi,fun h=>hij h.symm,?_⟩
       rw [cell,if_pos rfl,<- c];exact he
     · exact ⟨w,hw,c,by rw [cell,if_neg hwi];exact he⟩
theorem Hole.fill {n:Nat} {x:Ev} {M:Ev->Prop} {H:List Ev} {W:List Int} {i:Nat} (h:Hole n x M H W i):
 (∀w,w<n->0<=((H.set i x)[w]!).ix/\((H.set i x)[w]!).ix<W.length/\(W.set x.n (i:Int))[((H.set i x)[w]!).n]! =(w:Int))/\
  (∀e,(∃w,w<n/\(H.set i x)[w]! =e)↔(e=x\/M e)):=by
 have hn:=h.hn;have hi:=h.lt;have x0:=h.x0;have x1:=h.x1;have cell: ∀w,(H.set i x)[w]! =if w=i then x else H[w]!:=by
  intro w;rw [bang_set]
  by_cases e:w=i
  · rw [if_pos ⟨e,by omega⟩,if_pos e]
  · rw [if_neg (fun k=>e k.1),if_neg e]
 constructor
 · intro w hw
   rw [cell]
   by_cases e:w=i
   · rw [if_pos e,bang_set,if_pos ⟨rfl,n_lt x1 x0⟩]
     exact ⟨x0,x1,by rw [e]⟩
   · rw [if_neg e,bang_set]
     obtain ⟨k1,k2,k3,k4⟩:=h.ix w hw e;exact ⟨k1,k2,by rw [if_neg (fun c=>n_ne k1 x0 k4 c.1),k3]⟩
 · intro e
   rw [<- h.mem e];constructor
   · rintro ⟨w,hw,he⟩
     rw [cell] at he
     by_cases c:w=i
     · rw [if_pos c] at he;exact .inl he.symm
     · rw [if_neg c] at he;exact .inr ⟨w,hw,c,he⟩
   · rintro (he|⟨w,hw,hwi,he⟩)
     · exact ⟨i,hi,by rw [cell,if_pos rfl,he]⟩
     · exact ⟨w,hw,by rw [cell,if_neg hwi];exact he⟩
noncomputable def upG (x:Ev):Nat->List Ev->List Int->Nat×List Ev×List Int
 |0,H,W=>(0,H,W)
 |i+1,H,W=>if less x H[i / 2]! then upG x (i / 2) (H.set (i+1) H[i / 2]!) (W.set (H[i / 2]!).n ((i+1:Nat):Int)) else (i+1,H,W)
termination_by i=>i
decreasing_by omega
noncomputable def kid (n:Nat) (H:List Ev) (i:Nat):Nat:=if 2*i+2<n/\less H[2*i+2]! H[2*i+1]! then 2*i+2 else 2*i+1
theorem kid_cases (n:Nat) (H:List Ev) (i:Nat):kid n H i=2*i+1\/(kid n H i=2*i+2/\2*i+2<n):=by
 unfold kid;split
 · rename_i h;exact .inr ⟨rfl,h.1⟩
 · exact .inl rfl
noncomputable def downG (n:Nat) (x:Ev) (i:Nat) (H:List Ev) (W:List Int):Nat×List Ev×List Int:=
 if _h:2*i+1<n then
  if less H[kid n H i]! x then downG n x (kid n H i) (H.set i H[kid n H i]!) (W.set (H[kid n H i]!).n (i:Int)) else (i,H,W)
 else (i,H,W)
termination_by n-i
decreasing_by
 rcases kid_cases n H i with h|h<;>omega
structure Ord (n:Nat) (H:List Ev) (i:Nat):Prop where
 den: ∀w,w<n->1<=(H[w]!).2.1
 ord: ∀k,0<k->k<n->k≠i->(k-1) / 2≠i-> ¬less H[k]! H[(k-1) / 2]!
 grand:0<i-> ∀k,0<k->k<n->(k-1) / 2=i-> ¬less H[k]! H[(i-1) / 2]!
theorem up_spec {n : Nat} {x : Ev} {M : Ev -> Prop} (dx : 1 <= x.2.1) : ∀ (i : Nat) (H : List Ev) (W : List Int), Hole n x M H W i -> Ord n H i ->
    ∃ j H1 W1, upG x i H W = (j, H1, W1) /\ Hole n x M H1 W1 j /\ Ord n H1 j /\ H1.length = H.length /\ W1.length = W.length /\ (0 < j -> ¬ less x H1[(j - 1) / 2]!) /\
      (∀ k, n <= k -> H1[k]! = H[k]!) /\ (∀ k, (∀ w, w < n -> w ≠ i -> (H[w]!).n ≠ k) -> W1[k]! = W[k]!) /\
      ((∀ k, 0 < k -> k < n -> (k - 1) / 2 = i -> ¬ less H[k]! x) -> ∀ k, 0 < k -> k < n -> (k - 1) / 2 = j -> ¬ less H1[k]! x)
  | 0, H, W, h, o => ⟨0, H, W, by rw [upG], h, o, rfl, rfl, fun h => by omega, fun _ _ => rfl, fun _ _ => rfl, fun h => h⟩
  | i + 1, H, W, h, o => by
    rw [upG]
    by_cases hl : less x H[i / 2]!
    · rw [if_pos hl]
      have hi := h.lt
      have hn := h.hn
      have hp : i / 2 < n := by omega
      have hne : i / 2 ≠ i + 1 := by omega
      have hm := h.move hp hne
      have cell : ∀ w, (H.set (i + 1) H[i / 2]!)[w]! = if w = i + 1 then H[i / 2]! else H[w]! := by
        intro w
        rw [bang_set]
        by_cases e : w = i + 1
        · rw [if_pos ⟨e, by omega⟩, if_pos e]
        · rw [if_neg (fun k => e k.1), if_neg e]
      have o' : Ord n (H.set (i + 1) H[i / 2]!) (i / 2) := by
        refine ⟨?_, ?_, ?_⟩
        · intro w hw
          rw [cell]
          split
          · exact o.den _ hp
          · exact o.den _ hw
        · intro k k0 kn k1 k2
          rw [cell, cell]
          by_cases e : k = i + 1
          · subst e; exact absurd (by omega) k2
          · rw [if_neg e]
            by_cases e2 : (k - 1) / 2 = i + 1
            · rw [if_pos e2]
              have := o.grand (by omega) k k0 kn e2
              rwa [show (i + 1 - 1) / 2 = i / 2 by omega] at this
            · rw [if_neg e2]
              exact o.ord k k0 kn e e2
        · intro p0 k k0 kn k1
          rw [cell, cell, if_neg (show (i / 2 - 1) / 2 ≠ i + 1 by omega)]
          have up1 : ¬ less H[i / 2]! H[(i / 2 - 1) / 2]! := o.ord (i / 2) p0 hp hne (by omega)
          by_cases e : k = i + 1
          · rw [if_pos e]; exact up1
          · rw [if_neg e]
            have up2 : ¬ less H[k]! H[i / 2]! := by
              have := o.ord k k0 kn e (by omega)
              rwa [k1] at this
            exact leq_trans (o.den _ (by omega)) (o.den _ hp) (o.den _ kn) up1 up2
      obtain ⟨j, H1, W1, e1, e3, e4, e5, e6, e7, e8, e9, e10⟩ := up_spec dx (i / 2) _ _ hm o'
      rw [List.length_set] at e5 e6
      refine ⟨j, H1, W1, e1, e3, e4, e5, e6, e7, ?_, ?_, ?_⟩
      · intro k hk
        rw [e8 k hk, cell, if_neg (by omega)]
      · intro k hk
        rw [e9 k ?_, bang_set, if_neg (fun c => hk (i / 2) hp hne c.1.symm)]
        intro w hw hwp
        rw [cell]
        split
        · exact hk (i / 2) hp hne
        · rename_i e; exact hk w hw e
      · intro _
        refine e10 fun k k0 kn k1 => ?_
        rw [cell]
        by_cases e : k = i + 1
        · rw [if_pos e]; exact less_asymm hl
        · rw [if_neg e]
          have up2 : ¬ less H[k]! H[i / 2]! := by
            have := o.ord k k0 kn e (by omega)
            rwa [k1] at this
          exact leq_trans dx (o.den _ hp) (o.den _ kn) (less_asymm hl) up2
    · rw [if_neg hl]
      refine ⟨i + 1, H, W, rfl, h, o, rfl, rfl, fun _ => ?_, fun _ _ => rfl, fun _ _ => rfl, fun h => h⟩
      rwa [show (i + 1 - 1) / 2 = i / 2 by omega]
termination_by i=>i
decreasing_by omega
theorem down_stay {n:Nat} {x:Ev} {i:Nat} {H:List Ev} {W:List Int} (h: ∀k,0<k->k<n->(k-1) / 2=i-> ¬less H[k]! x):downG n x i H W=(i,H,W):=by
 rw [downG];split
 · rename_i hk
   rw [if_neg];rcases kid_cases n H i with e|⟨e,e2⟩
   · rw [e];exact h _ (by omega) hk (by omega)
   · rw [e];exact h _ (by omega) e2 (by omega)
 · rfl
theorem down_spec {n : Nat} {x : Ev} {M : Ev -> Prop} (dx : 1 <= x.2.1) : ∀ (d i : Nat) (H : List Ev) (W : List Int), n - i <= d -> Hole n x M H W i -> Ord n H i -> (0 < i -> ¬ less x H[(i - 1) / 2]!) ->
    ∃ j H1 W1, downG n x i H W = (j, H1, W1) /\ Hole n x M H1 W1 j /\ Ord n H1 j /\ H1.length = H.length /\ W1.length = W.length /\ (0 < j -> ¬ less x H1[(j - 1) / 2]!) /\
      (∀ k, n <= k -> H1[k]! = H[k]!) /\ (∀ k, (∀ w, w < n -> w ≠ i -> (H[w]!).n ≠ k) -> W1[k]! = W[k]!) /\ (∀ k, 0 < k -> k < n -> (k - 1) / 2 = j -> ¬ less H1[k]! x)
  | 0, i, H, W, hd, h, o, u => by have := h.lt; omega
  | d + 1, i, H, W, hd, h, o, u => by
    have hi := h.lt
    have hn := h.hn
    rw [downG]
    by_cases hk : 2 * i + 1 < n
    · rw [dif_pos hk]
      have kc := kid_cases n H i
      have kn : kid n H i < n := by omega
      have kne : kid n H i ≠ i := by omega
      have kp : (kid n H i - 1) / 2 = i := by omega
      have kb : ∀ k, 0 < k -> k < n -> (k - 1) / 2 = i -> ¬ less H[k]! H[kid n H i]! := by
        intro k k0 k1 k2
        have kk : k = 2 * i + 1 \/ k = 2 * i + 2 := by omega
        unfold kid
        split
        · rename_i hc
          rcases kk with e | e
          · rw [e]; exact less_asymm hc.2
          · rw [e]; exact fun h => less_asymm h h
        · rename_i hc
          rcases kk with e | e
          · rw [e]; exact fun h => less_asymm h h
          · rw [e] at k1 ⊢; exact fun h => hc ⟨k1, h⟩
      by_cases hl : less H[kid n H i]! x
      · rw [if_pos hl]
        have hm := h.move kn kne
        have cell : ∀ w, (H.set i H[kid n H i]!)[w]! = if w = i then H[kid n H i]! else H[w]! := by
          intro w
          rw [bang_set]
          by_cases e : w = i
          · rw [if_pos ⟨e, by omega⟩, if_pos e]
          · rw [if_neg (fun k => e k.1), if_neg e]
        have o' : Ord n (H.set i H[kid n H i]!) (kid n H i) := by
          refine ⟨?_, ?_, ?_⟩
          · intro w hw
            rw [cell]
            split
            · exact o.den _ kn
            · exact o.den _ hw
          · intro k k0 k1 k2 k3
            rw [cell, cell]
            by_cases e : k = i
            · rw [if_pos e, if_neg (by omega)]
              have := o.grand (by omega) (kid n H i) (by omega) kn kp
              rwa [e]
            · rw [if_neg e]
              by_cases e2 : (k - 1) / 2 = i
              · rw [if_pos e2]; exact kb k k0 k1 e2
              · rw [if_neg e2]; exact o.ord k k0 k1 e e2
          · intro _ k k0 k1 k2
            rw [cell, cell, if_pos kp, if_neg (by omega)]
            have := o.ord k k0 k1 (by omega) (by omega)
            rwa [k2] at this
        obtain ⟨j, H1, W1, e1, e3, e4, e5, e6, e7, e8, e9, e10⟩ := down_spec dx d (kid n H i) _ _ (by omega) hm o' (by
          intro _
          rw [cell, if_pos kp]
          exact less_asymm hl)
        rw [List.length_set] at e5 e6
        refine ⟨j, H1, W1, e1, e3, e4, e5, e6, e7, ?_, ?_, e10⟩
        · intro k hk
          rw [e8 k hk, cell, if_neg (by omega)]
        · intro k hk
          rw [e9 k ?_, bang_set, if_neg (fun c => hk (kid n H i) kn kne c.1.symm)]
          intro w hw hwp
          rw [cell]
          split
          · exact hk (kid n H i) kn kne
          · rename_i e; exact hk w hw e
      · rw [if_neg hl]
        refine ⟨i, H, W, rfl, h, o, rfl, rfl, u, fun _ _ => rfl, fun _ _ => rfl, ?_⟩
        intro k k0 k1 k2
        exact leq_trans dx (o.den _ kn) (o.den _ k1) hl (kb k k0 k1 k2)
    · rw [dif_neg hk]
      refine ⟨i, H, W, rfl, h, o, rfl, rfl, u, fun _ _ => rfl, fun _ _ => rfl, ?_⟩
      intro k k0 k1 k2
      omega
structure Settled (n:Nat) (x:Ev) (M:Ev->Prop) (K:Nat->Prop) (H:List Ev) (W:List Int) (H1:List Ev) (W1:List Int):Prop where
 hl:H1.length=H.length
 wl:W1.length=W.length
 ix: ∀w,w<n->0<=(H1[w]!).ix/\(H1[w]!).ix<W.length/\W1[(H1[w]!).n]! =(w:Int)
 mem: ∀e,(∃w,w<n/\H1[w]! =e)↔(e=x\/M e)
 ord: ∀k,0<k->k<n-> ¬less H1[k]! H1[(k-1) / 2]!
 out: ∀k,K k->W1[k]! =W[k]!
theorem fill_settled {n:Nat} {x:Ev} {M:Ev->Prop} {H H1:List Ev} {W W1:List Int} {i j:Nat} (h1:Hole n x M H1 W1 j) (o1:Ord n H1 j) (hl:H1.length=H.length) (wl:W1.length=W.length)
 (u:0<j-> ¬less x H1[(j-1) / 2]!) (kd: ∀k,0<k->k<n->(k-1) / 2=j-> ¬less H1[k]! x) (out: ∀k,(∀w,w<n->w≠i->(H[w]!).n≠k)->W1[k]! =W[k]!):
 Settled n x M (fun k=>k≠x.n/\ ∀w,w<n->w≠i->(H[w]!).n≠k) H W (H1.set j x) (W1.set x.n (j:Int)):=by
 have hn:=h1.hn;have hj:=h1.lt;have f:=h1.fill;have cell: ∀w,(H1.set j x)[w]! =if w=j then x else H1[w]!:=by
  intro w;rw [bang_set]
  by_cases e:w=j
  · rw [if_pos ⟨e,by omega⟩,if_pos e]
  · rw [if_neg (fun k=>e k.1),if_neg e]
 refine ⟨by rw [List.length_set];exact hl,by rw [List.length_set];exact wl,?_,f.2,?_,?_⟩
 · rw [<- wl];exact f.1
 · intro k k0 kn
   rw [cell,cell]
   by_cases e:k=j
   · rw [if_pos e,if_neg (by omega),e];exact u (by omega)
   · rw [if_neg e]
     by_cases e2:(k-1) / 2=j
     · rw [if_pos e2];exact kd k k0 kn e2
     · rw [if_neg e2];exact o1.ord k k0 kn e e2
 · rintro k ⟨k1,k2⟩
   rw [bang_set,if_neg (fun c=>k1 c.1)]
   exact out k k2
noncomputable def settleG (n:Nat) (x:Ev) (i:Nat) (H:List Ev) (W:List Int):List Ev×List Int:=
 let u:=upG x i H W
 let d:=downG n x u.1 u.2.1 u.2.2
 (d.2.1.set d.1 x,d.2.2.set x.n (d.1:Int))
theorem settle_spec {n:Nat} {x:Ev} {M:Ev->Prop} (dx:1<=x.2.1) {i:Nat} {H:List Ev} {W:List Int} (h:Hole n x M H W i) (o:Ord n H i):
 Settled n x M (fun k=>k≠x.n/\ ∀w,w<n->w≠i->(H[w]!).n≠k) H W (settleG n x i H W).1 (settleG n x i H W).2:=by
 obtain ⟨j,H1,W1,e1,e3,e4,e5,e6,e7,e8,e9,e10⟩:=up_spec dx i H W h o;obtain ⟨k,H2,W2,f1,f3,f4,f5,f6,f7,f8,f9,f10⟩:=down_spec dx n j H1 W1 (by omega) e3 e4 e7
 have e:settleG n x i H W=(H2.set k x,W2.set x.n (k:Int)):=by
  unfold settleG;rw [e1];dsimp only;rw [f1]
 rw [e];refine fill_settled f3 f4 (by omega) (by omega) f7 f10 ?_
 intro c hc;rw [f9 c ?_,e9 c hc];intro w hw hwj hcw;have hm:M H1[w]!:=(e3.mem _).1 ⟨w,hw,hwj,rfl⟩;obtain ⟨v,v1,v2,v3⟩:=(h.mem _).2 hm;exact hc v v1 v2 (by rw [v3];exact hcw)
theorem settle_last {n:Nat} {x:Ev} {M:Ev->Prop} (dx:1<=x.2.1) {i:Nat} {H:List Ev} {W:List Int} (h:Hole n x M H W i) (o:Ord n H i) (hk: ∀k,0<k->k<n->(k-1) / 2=i-> ¬less H[k]! x):
 settleG n x i H W=((upG x i H W).2.1.set (upG x i H W).1 x,(upG x i H W).2.2.set x.n ((upG x i H W).1:Int)):=by
 obtain ⟨j,H1,W1,e1,e3,e4,e5,e6,e7,e8,e9,e10⟩:=up_spec dx i H W h o;unfold settleG;rw [e1];dsimp only;rw [down_stay (e10 hk)]
end Go.Proofs.YtjikemfbommnlaaGreat
namespace Go.Proofs.YtjikemfbommnlaaGreat
open Go.Vm Classical
def EvOK (x:Ev):Prop:=RatOK (x.1,x.2.1)/\R64 (x.1,x.2.1)/\0<=x.2.2.1/\x.2.2.1<=1000000
theorem EvOK.den {x:Ev} (h:EvOK x):1<=x.2.1:=h.1.1
noncomputable def cmpE (x y:Ev):Int:=if cmpR (x.1,x.2.1) (y.1,y.2.1)≠0 then cmpR (x.1,x.2.1) (y.1,y.2.1) else cmpI x.2.2.1 y.2.2.1
theorem cmpE_lt (x y:Ev):cmpE x y<0↔less x y:=by
 unfold cmpE less
 by_cases h:cmpR (x.1,x.2.1) (y.1,y.2.1)=0
 · rw [if_neg (by simpa using h),h]
   rcases cmpI_cases x.2.2.1 y.2.2.1 with ⟨h1,e⟩|⟨h1,e⟩|⟨h1,e⟩<;>rw [e]<;>constructor<;>intro<;>omega
 · rw [if_pos h];constructor<;>intro<;>omega
theorem agenda_compare_eq {x y:Ev} (hx:EvOK x) (hy:EvOK y):agenda_compare x y=some (cmpE x y):=by
 unfold agenda_compare cmpE;rw [Cmp_eq hx.2.1 hy.2.1,if_pos ⟨hx.1,hy.1⟩];simp only [bindS,Compare_121_eq,cmp_Or_eq]
theorem Less_eq {x y:Ev} (hx:EvOK x) (hy:EvOK y):ref07_Less x y=some (decide (less x y)):=by
 unfold ref07_Less less;rw [Compare_eq hx.2.1 hy.2.1];simp only [bindS];generalize cmpR (x.1,x.2.1) (y.1,y.2.1)=c
 by_cases h1:c<0
 · simp [h1]
 · by_cases h2:c=0
   · subst h2;simp
   · simp only [h1,beq_f h2,h2,decide_false,cond_false,false_or,false_and]
theorem dec_lt {x y:Ev}:decide (cmpE x y<0)=decide (less x y):=by simp only [cmpE_lt]
theorem dec_ge {x y:Ev}:decide (0<=cmpE x y)=!decide (less x y):=by
 have:=cmpE_lt x y
 by_cases h:less x y
 · have h2:=this.2 h
   have: ¬0<=cmpE x y:=by omega
   simp [h,this]
 · have h2: ¬cmpE x y<0:=fun k=>h (this.1 k)
   have:0<=cmpE x y:=by omega
   simp [h,this]
structure Cells (n:Nat) (H:List Ev) (W:List Int):Prop where
 hn:n<=H.length
 hb:H.length<=1000000
 ev: ∀w,w<n->EvOK H[w]!/\0<=(H[w]!).ix/\(H[w]!).ix<W.length
theorem Cells.move {n:Nat} {H:List Ev} {W:List Int} (c:Cells n H W) {i j:Nat} (_hi:i<n) (hj:j<n) (k:Nat) (v:Int):Cells n (H.set i H[j]!) (W.set k v):=by
 have hn:=c.hn;refine ⟨by rw [List.length_set];exact hn,by rw [List.length_set];exact c.hb,?_⟩
 intro w hw;rw [bang_set,List.length_set];split
 · exact c.ev j hj
 · exact c.ev w hw
theorem set_own {H:List Ev} {W:List Int} {x:Ev} {u fr:List Int} {us:List Bool} {i:Nat} (hi:i<H.length) (h0:0<=x.ix) (h1:x.ix<W.length):
 agenda_set_w6855 (u,us,fr,(i:Int),x.1,x.2.1,x.2.2.1,x.2.2.2.1,x.2.2.2.2,H,W)=some (H.set i x,W.set x.n (i:Int)):=by
 unfold agenda_set_w6855;have e1:=geti_nat H i hi;have e2:=geti_int (l:=W) h0 h1;simp only [e1,e2,bindS,len_seti,beq_self_eq_true,cond_true];rfl
theorem set_pre {n cap:Nat} {H:List Ev} {W:List Int} {x:Ev} {u fr:List Int} {us:List Bool} {i:Nat} (hi:i<n) (hn:n<=H.length) (h0:0<=x.ix) (h1:x.ix<W.length):
 agenda_set_w1656 (u,us,fr,n,cap,(i:Int),x.1,x.2.1,x.2.2.1,x.2.2.2.1,x.2.2.2.2,H,W)=some (H.set i x,W.set x.n (i:Int)):=by
 unfold agenda_set_w1656;have e1:=geti_nat (H.take n) i (by rw [List.length_take];omega)
 have e2:=geti_int (l:=W) h0 h1;simp only [e1,e2,bindS,len_seti,beq_self_eq_true,cond_true];rfl
theorem par_eq {i:Nat} (h:i<1000000000):wrapF .i64 (Int.tdiv (wrapF .i64 (((i+1:Nat):Int) -1)) 2)=((i / 2:Nat):Int):=by
 have e:wrapF .i64 (((i+1:Nat):Int) -1)=(i:Int):=by rw [wi];omega
 rw [e,Int.tdiv_eq_ediv_of_nonneg (by omega),wi];omega
theorem kid_eq {i:Nat} (h:i<1000000000):wrapF .i64 ((wrapF .i64 (2*(i:Int)))+1)=((2*i+1:Nat):Int):=by
 have e:wrapF .i64 (2*(i:Int))=((2*i:Nat):Int):=by rw [wi];omega
 rw [e,wi];omega
theorem up_cells {n:Nat} {x:Ev}: ∀{i:Nat} {H:List Ev} {W:List Int} {j:Nat} {H1:List Ev} {W1:List Int},Cells n H W->i<n->upG x i H W=(j,H1,W1)-> ∀w,w<n->EvOK H1[w]!/\0<=(H1[w]!).ix/\(H1[w]!).ix<W.length
 |0,H,W,j,H1,W1,c,hi,e=>by
  rw [upG] at e;injection e with e1 e;injection e with e2 e3;subst e2;exact c.ev
 |i+1,H,W,j,H1,W1,c,hi,e=>by
  rw [upG] at e;split at e
  · have:=up_cells (c.move hi (show i / 2<n by omega) (H[i / 2]!).n ((i+1:Nat):Int)) (by omega) e
    rw [List.length_set] at this;exact this
  · injection e with e1 e;injection e with e2 e3
    subst e2;exact c.ev
termination_by i=>i
decreasing_by omega
theorem settleO_l1 {c0:List Int×List Bool×List Int×Int×Int×Int×Int×Int×Int×List Ev×List Int} {n i:Nat} {H:List Ev} {W:List Int} {u fr:List Int} {us:List Bool} {x:Ev}
 (c:Cells n H W) (hn:H.length=n) (hi:i<n) (hx:EvOK x) (x0:0<=x.ix) (x1:x.ix<W.length) (l1:c0.2.2.2.2.2.2.2.2.2.1.length=n) (l2:c0.2.2.2.2.2.2.2.2.2.2.length=W.length):
 agenda_settle_w6855_l1 c0 ((i:Int),((2*i+1:Nat):Int),H,W,u,us,fr,x)=
  some (if 2*i+1<n/\less H[kid n H i]! x then .next (((kid n H i:Nat):Int),((2*kid n H i+1:Nat):Int),H.set i H[kid n H i]!,W.set (H[kid n H i]!).n (i:Int),u,us,fr,x)
   else .done (.done (H.set i x,W.set x.n (i:Int)))):=by
 have hb:=c.hb;have fin:(agenda_set_w6855 (u,us,fr,(i:Int),x.1,x.2.1,x.2.2.1,x.2.2.2.1,x.2.2.2.2,H,W))=some (H.set i x,W.set x.n (i:Int)):=set_own (by omega) x0 x1
 have ln1:(H.set i x).length=c0.2.2.2.2.2.2.2.2.2.1.length:=by rw [List.length_set];omega
 have ln2:(W.set x.n (i:Int)).length=c0.2.2.2.2.2.2.2.2.2.2.length:=by rw [List.length_set];omega
 unfold agenda_settle_w6855_l1;simp only [ofNat_eq,hn,fin,bindS,ln1,ln2,beq_self_eq_true,cond_true]
 by_cases h1:2*i+1<n
 · have e1:decide (((2*i+1:Nat):Int)<(n:Int))=true:=by simp;omega
   have e2:wrapF .i64 (((2*i+1:Nat):Int)+1)=((2*i+2:Nat):Int):=wi_succ (by omega)
   obtain ⟨ok1,a1,a2⟩:=c.ev (2*i+1) h1;have g1:=geti_nat H (2*i+1) (by omega)
   have s1:(agenda_set_w6855 (u,us,fr,(i:Int),(H[2*i+1]!).1,(H[2*i+1]!).2.1,(H[2*i+1]!).2.2.1,(H[2*i+1]!).2.2.2.1,(H[2*i+1]!).2.2.2.2,H,W))=some (H.set i H[2*i+1]!,W.set (H[2*i+1]!).n (i:Int)):=set_own (by omega) a1 a2
   simp only [e1,e2,cond_true,g1,bindS,s1,agenda_compare_eq ok1 hx,dec_ge,kid_eq (show 2*i+1<1000000000 by omega)]
   by_cases h2:2*i+2<n
   · have e3:decide (((2*i+2:Nat):Int)<(n:Int))=true:=by simp;omega
     obtain ⟨ok2,b1,b2⟩:=c.ev (2*i+2) h2;have g2:=geti_nat H (2*i+2) (by omega)
     have s2:(agenda_set_w6855 (u,us,fr,(i:Int),(H[2*i+2]!).1,(H[2*i+2]!).2.1,(H[2*i+2]!).2.2.1,(H[2*i+2]!).2.2.2.1,(H[2*i+2]!).2.2.2.2,H,W))=some (H.set i H[2*i+2]!,W.set (H[2*i+2]!).n (i:Int)):=set_own (by omega) b1 b2
     simp only [e3,cond_true,g2,bindS,s2,agenda_compare_eq ok2 hx,agenda_compare_eq ok2 ok1,dec_lt,dec_ge,kid_eq (show 2*i+2<1000000000 by omega)]
     by_cases h3:less H[2*i+2]! H[2*i+1]!
     · have k:kid n H i=2*i+2:=by unfold kid;rw [if_pos ⟨h2,h3⟩]
       rw [k]
       by_cases h4:less H[2*i+2]! x
       · simp only [h1,h3,h4,decide_true,cond_true,cond_false,Bool.not_true,and_self,if_true]
       · simp only [h1,h3,h4,decide_true,decide_false,cond_true,Bool.not_false,and_false,if_false]
     · have k:kid n H i=2*i+1:=by unfold kid;rw [if_neg (fun h=>h3 h.2)]
       rw [k]
       by_cases h4:less H[2*i+1]! x
       · simp only [h1,h3,h4,decide_true,decide_false,cond_false,Bool.not_true,and_self,if_true]
       · simp only [h1,h3,h4,decide_false,cond_true,cond_false,Bool.not_false,and_false,if_false]
   · have e3:decide (((2*i+2:Nat):Int)<(n:Int))=false:=by simp;omega
     have k:kid n H i=2*i+1:=by unfold kid;rw [if_neg (fun h=>h2 h.1)]
     rw [k];simp only [e3,cond_false]
     by_cases h4:less H[2*i+1]! x
     · simp only [h1,h4,decide_true,cond_false,Bool.not_true,and_self,if_true]
     · simp only [h1,h4,decide_false,cond_true,Bool.not_false,and_false,if_false]
 · have e1:decide (((2*i+1:Nat):Int)<(n:Int))=false:=by simp;omega
   rw [if_neg (fun h=>h1 h.1),e1];rfl
theorem settleO_down {c0 : List Int × List Bool × List Int × Int × Int × Int × Int × Int × Int × List Ev × List Int} {n : Nat} {u fr : List Int} {us : List Bool} {x : Ev} (hx : EvOK x) (x0 : 0 <= x.ix) (l1 : c0.2.2.2.2.2.2.2.2.2.1.length = n) :
    ∀ (d i : Nat) (H : List Ev) (W : List Int), n - i <= d -> Cells n H W -> H.length = n -> i < n -> x.ix < W.length -> c0.2.2.2.2.2.2.2.2.2.2.length = W.length ->
      whileO (agenda_settle_w6855_l1 c0) ((i : Int), ((2 * i + 1 : Nat) : Int), H, W, u, us, fr, x) = some (.done ((downG n x i H W).2.1.set (downG n x i H W).1 x, (downG n x i H W).2.2.set x.n ((downG n x i H W).1 : Int)))
  | 0, i, H, W, hd, c, hn, hi, x1, l2 => by omega
  | d + 1, i, H, W, hd, c, hn, hi, x1, l2 => by
    have r := settleO_l1 (u := u) (us := us) (fr := fr) c hn hi hx x0 x1 l1 l2
    by_cases h : 2 * i + 1 < n /\ less H[kid n H i]! x
    · rw [if_pos h] at r
      have kc := kid_cases n H i
      have kn : kid n H i < n := by omega
      rw [whileO_next r, settleO_down hx x0 l1 d (kid n H i) _ _ (by omega) (c.move hi kn _ _) (by rw [List.length_set]; exact hn) kn (by rw [List.length_set]; exact x1) (by rw [List.length_set]; exact l2)]
      have e : downG n x i H W = downG n x (kid n H i) (H.set i H[kid n H i]!) (W.set (H[kid n H i]!).n (i : Int)) := by
        rw [downG, dif_pos h.1, if_pos h.2]
      rw [e]
    · rw [if_neg h] at r
      rw [whileO_done r]
      have e : downG n x i H W = (i, H, W) := by
        rw [downG]
        split
        · rename_i h1; rw [if_neg (fun k => h ⟨h1, k⟩)]
        · rfl
      rw [e]
theorem settleO_up {c0 : List Int × List Bool × List Int × Int × Int × Int × Int × Int × Int × List Ev × List Int} {n : Nat} {u fr : List Int} {us : List Bool} {x : Ev} (hx : EvOK x) (x0 : 0 <= x.ix) (l1 : c0.2.2.2.2.2.2.2.2.2.1.length = n) :
    ∀ (i : Nat) (H : List Ev) (W : List Int), Cells n H W -> H.length = n -> i < n -> x.ix < W.length -> c0.2.2.2.2.2.2.2.2.2.2.length = W.length ->
      whileO (agenda_settle_w6855_l2 c0) ((i : Int), H, W, u, us, fr, x) = some (settleG n x i H W)
  | 0, H, W, c, hn, hi, x1, l2 => by
    have hb := c.hb
    have dn := settleO_down (u := u) (us := us) (fr := fr) hx x0 l1 n 0 H W (by omega) c hn hi x1 l2
    refine (whileO_done (r := settleG n x 0 H W) ?_)
    unfold agenda_settle_w6855_l2
    have e1 : decide ((0 : Int) < ((0 : Nat) : Int)) = false := by simp
    simp only [e1, cond_false, kid_eq (show 0 < 1000000000 by omega)]
    rw [dn]
    unfold settleG
    rw [upG]
  | i + 1, H, W, c, hn, hi, x1, l2 => by
    have hb := c.hb
    have e1 : decide ((0 : Int) < ((i + 1 : Nat) : Int)) = true := decide_eq_true (by omega)
    have hp : i / 2 < n := by omega
    obtain ⟨ok1, a1, a2⟩ := c.ev (i / 2) hp
    have g1 := geti_nat H (i / 2) (by omega)
    have s1 : (agenda_set_w6855 (u, us, fr, ((i + 1 : Nat) : Int), (H[i / 2]!).1, (H[i / 2]!).2.1, (H[i / 2]!).2.2.1, (H[i / 2]!).2.2.2.1, (H[i / 2]!).2.2.2.2, H, W)) = some (H.set (i + 1) H[i / 2]!, W.set (H[i / 2]!).n ((i + 1 : Nat) : Int)) := set_own (by omega) a1 a2
    by_cases h : less x H[i / 2]!
    · have r : agenda_settle_w6855_l2 c0 (((i + 1 : Nat) : Int), H, W, u, us, fr, x) = some (.next (((i / 2 : Nat) : Int), H.set (i + 1) H[i / 2]!, W.set (H[i / 2]!).n ((i + 1 : Nat) : Int), u, us, fr, x)) := by
        unfold agenda_settle_w6855_l2
        simp only [e1, cond_true, par_eq (show i < 1000000000 by omega), g1, bindS, agenda_compare_eq hx ok1, dec_lt, h, decide_true, s1]
      rw [whileO_next r, settleO_up hx x0 l1 (i / 2) _ _ (c.move hi hp _ _) (by rw [List.length_set]; exact hn) hp (by rw [List.length_set]; exact x1) (by rw [List.length_set]; exact l2)]
      have e : upG x (i + 1) H W = upG x (i / 2) (H.set (i + 1) H[i / 2]!) (W.set (H[i / 2]!).n ((i + 1 : Nat) : Int)) := by
        rw [upG, if_pos h]
      unfold settleG
      rw [e]
    · have dn := settleO_down (u := u) (us := us) (fr := fr) hx x0 l1 n (i + 1) H W (by omega) c hn hi x1 l2
      refine (whileO_done (r := settleG n x (i + 1) H W) ?_)
      unfold agenda_settle_w6855_l2
      simp only [e1, cond_true, par_eq (show i < 1000000000 by omega), g1, bindS, agenda_compare_eq hx ok1, dec_lt, h, decide_false, cond_false, kid_eq (show i + 1 < 1000000000 by omega)]
      rw [dn]
      unfold settleG
      rw [upG, if_neg h]
termination_by i=>i
decreasing_by omega
theorem settleO_eq {n:Nat} {u fr:List Int} {us:List Bool} {x:Ev} (hx:EvOK x) (x0:0<=x.ix) {i:Nat} {H:List Ev} {W:List Int} (c:Cells n H W) (hn:H.length=n) (hi:i<n) (x1:x.ix<W.length):
 agenda_settle_w6855 (u,us,fr,(i:Int),x.1,x.2.1,x.2.2.1,x.2.2.2.1,x.2.2.2.2,H,W)=some (settleG n x i H W):=by
 unfold agenda_settle_w6855;exact settleO_up hx x0 hn i H W c hn hi x1 rfl
end Go.Proofs.YtjikemfbommnlaaGreat
namespace Go.Proofs.YtjikemfbommnlaaGreat
open Go.Vm Classical
theorem geti_take {l:List Ev} {n i:Nat} (h:i<n) (hn:n<=l.length):geti (l.take n) (i:Int)=some l[i]!:=by
 rw [geti_nat (l.take n) i (by rw [List.length_take];omega),bang_take h]
theorem settleP_l1 {c0:List Int×List Bool×List Int×Nat×Nat×Int×Int×Int×Int×Int×Int×List Ev×List Int} {n cap i:Nat} {H:List Ev} {W:List Int} {u fr:List Int} {us:List Bool} {x:Ev}
 (c:Cells n H W) (hi:i<n) (hx:EvOK x) (x0:0<=x.ix) (x1:x.ix<W.length) (l1:c0.2.2.2.2.2.2.2.2.2.2.2.1.length=H.length) (l2:c0.2.2.2.2.2.2.2.2.2.2.2.2.length=W.length):
 agenda_settle_w1656_l1 c0 ((i:Int),((2*i+1:Nat):Int),H,W,u,us,fr,n,cap,x)=
  some (if 2*i+1<n/\less H[kid n H i]! x then .next (((kid n H i:Nat):Int),((2*kid n H i+1:Nat):Int),H.set i H[kid n H i]!,W.set (H[kid n H i]!).n (i:Int),u,us,fr,n,cap,x)
   else .done (.done (H.set i x,W.set x.n (i:Int)))):=by
 have hb:=c.hb;have hnn:=c.hn;have fin:(agenda_set_w1656 (u,us,fr,n,cap,(i:Int),x.1,x.2.1,x.2.2.1,x.2.2.2.1,x.2.2.2.2,H,W))=some (H.set i x,W.set x.n (i:Int)):=set_pre (cap:=cap) (by omega) c.hn x0 x1
 have ln1:(H.set i x).length=c0.2.2.2.2.2.2.2.2.2.2.2.1.length:=by rw [List.length_set];omega
 have ln2:(W.set x.n (i:Int)).length=c0.2.2.2.2.2.2.2.2.2.2.2.2.length:=by rw [List.length_set];omega
 unfold agenda_settle_w1656_l1;simp only [ofNat_eq,fin,bindS,ln1,ln2,beq_self_eq_true,cond_true]
 by_cases h1:2*i+1<n
 · have e1:decide (((2*i+1:Nat):Int)<(n:Int))=true:=by simp;omega
   have e2:wrapF .i64 (((2*i+1:Nat):Int)+1)=((2*i+2:Nat):Int):=wi_succ (by omega)
   obtain ⟨ok1,a1,a2⟩:=c.ev (2*i+1) h1;have g1:=geti_take (l:=H) (n:=n) (i:=2*i+1) (by omega) c.hn
   have s1:(agenda_set_w1656 (u,us,fr,n,cap,(i:Int),(H[2*i+1]!).1,(H[2*i+1]!).2.1,(H[2*i+1]!).2.2.1,(H[2*i+1]!).2.2.2.1,(H[2*i+1]!).2.2.2.2,H,W))=some (H.set i H[2*i+1]!,W.set (H[2*i+1]!).n (i:Int)):=set_pre (cap:=cap) (by omega) c.hn a1 a2
   simp only [e1,e2,cond_true,g1,bindS,s1,agenda_compare_eq ok1 hx,dec_ge,kid_eq (show 2*i+1<1000000000 by omega)]
   by_cases h2:2*i+2<n
   · have e3:decide (((2*i+2:Nat):Int)<(n:Int))=true:=by simp;omega
     obtain ⟨ok2,b1,b2⟩:=c.ev (2*i+2) h2;have g2:=geti_take (l:=H) (n:=n) (i:=2*i+2) (by omega) c.hn
     have s2:(agenda_set_w1656 (u,us,fr,n,cap,(i:Int),(H[2*i+2]!).1,(H[2*i+2]!).2.1,(H[2*i+2]!).2.2.1,(H[2*i+2]!).2.2.2.1,(H[2*i+2]!).2.2.2.2,H,W))=some (H.set i H[2*i+2]!,W.set (H[2*i+2]!).n (i:Int)):=set_pre (cap:=cap) (by omega) c.hn b1 b2
     simp only [e3,cond_true,g2,bindS,s2,agenda_compare_eq ok2 hx,agenda_compare_eq ok2 ok1,dec_lt,dec_ge,kid_eq (show 2*i+2<1000000000 by omega)]
     by_cases h3:less H[2*i+2]! H[2*i+1]!
     · have k:kid n H i=2*i+2:=by unfold kid;rw [if_pos ⟨h2,h3⟩]
       rw [k]
       by_cases h4:less H[2*i+2]! x
       · simp only [h1,h3,h4,decide_true,cond_true,cond_false,Bool.not_true,and_self,if_true]
       · simp only [h1,h3,h4,decide_true,decide_false,cond_true,Bool.not_false,and_false,if_false]
     · have k:kid n H i=2*i+1:=by unfold kid;rw [if_neg (fun h=>h3 h.2)]
       rw [k]
       by_cases h4:less H[2*i+1]! x
       · simp only [h1,h3,h4,decide_true,decide_false,cond_false,Bool.not_true,and_self,if_true]
       · simp only [h1,h3,h4,decide_false,cond_true,cond_false,Bool.not_false,and_false,if_false]
   · have e3:decide (((2*i+2:Nat):Int)<(n:Int))=false:=by simp;omega
     have k:kid n H i=2*i+1:=by unfold kid;rw [if_neg (fun h=>h2 h.1)]
     rw [k];simp only [e3,cond_false]
     by_cases h4:less H[2*i+1]! x
     · simp only [h1,h4,decide_true,cond_false,Bool.not_true,and_self,if_true]
     · simp only [h1,h4,decide_false,cond_true,Bool.not_false,and_false,if_false]
 · have e1:decide (((2*i+1:Nat):Int)<(n:Int))=false:=by simp;omega
   rw [if_neg (fun h=>h1 h.1),e1];rfl
theorem settleP_down {c0 : List Int × List Bool × List Int × Nat × Nat × Int × Int × Int × Int × Int × Int × List Ev × List Int} {n cap : Nat} {u fr : List Int} {us : List Bool} {x : Ev} (hx : EvOK x) (x0 : 0 <= x.ix) :
    ∀ (d i : Nat) (H : List Ev) (W : List Int), n - i <= d -> Cells n H W -> c0.2.2.2.2.2.2.2.2.2.2.2.1.length = H.length -> i < n -> x.ix < W.length -> c0.2.2.2.2.2.2.2.2.2.2.2.2.length = W.length ->
      whileO (agenda_settle_w1656_l1 c0) ((i : Int), ((2 * i + 1 : Nat) : Int), H, W, u, us, fr, n, cap, x) = some (.done ((downG n x i H W).2.1.set (downG n x i H W).1 x, (downG n x i H W).2.2.set x.n ((downG n x i H W).1 : Int)))
  | 0, i, H, W, hd, c, hn, hi, x1, l2 => by omega
  | d + 1, i, H, W, hd, c, hn, hi, x1, l2 => by
    have r := settleP_l1 (u := u) (us := us) (fr := fr) (cap := cap) c hi hx x0 x1 hn l2
    by_cases h : 2 * i + 1 < n /\ less H[kid n H i]! x
    · rw [if_pos h] at r
      have kc := kid_cases n H i
      have kn : kid n H i < n := by omega
      rw [whileO_next r, settleP_down hx x0 d (kid n H i) _ _ (by omega) (c.move hi kn _ _) (by rw [List.length_set]; exact hn) kn (by rw [List.length_set]; exact x1) (by rw [List.length_set]; exact l2)]
      have e : downG n x i H W = downG n x (kid n H i) (H.set i H[kid n H i]!) (W.set (H[kid n H i]!).n (i : Int)) := by
        rw [downG, dif_pos h.1, if_pos h.2]
      rw [e]
    · rw [if_neg h] at r
      rw [whileO_done r]
      have e : downG n x i H W = (i, H, W) := by
        rw [downG]
        split
        · rename_i h1; rw [if_neg (fun k => h ⟨h1, k⟩)]
        · rfl
      rw [e]
theorem settleP_up {c0 : List Int × List Bool × List Int × Nat × Nat × Int × Int × Int × Int × Int × Int × List Ev × List Int} {n cap : Nat} {u fr : List Int} {us : List Bool} {x : Ev} (hx : EvOK x) (x0 : 0 <= x.ix) :
    ∀ (i : Nat) (H : List Ev) (W : List Int), Cells n H W -> c0.2.2.2.2.2.2.2.2.2.2.2.1.length = H.length -> i < n -> x.ix < W.length -> c0.2.2.2.2.2.2.2.2.2.2.2.2.length = W.length ->
      whileO (agenda_settle_w1656_l2 c0) ((i : Int), H, W, u, us, fr, n, cap, x) = some (settleG n x i H W)
  | 0, H, W, c, hn, hi, x1, l2 => by
    have hb := c.hb
    have hnn := c.hn
    have dn := settleP_down (u := u) (us := us) (fr := fr) (cap := cap) hx x0 n 0 H W (by omega) c hn hi x1 l2
    refine (whileO_done (r := settleG n x 0 H W) ?_)
    unfold agenda_settle_w1656_l2
    have e1 : decide ((0 : Int) < ((0 : Nat) : Int)) = false := by simp
    simp only [e1, cond_false, kid_eq (show 0 < 1000000000 by omega)]
    rw [dn]
    unfold settleG
    rw [upG]
  | i + 1, H, W, c, hn, hi, x1, l2 => by
    have hb := c.hb
    have hnn := c.hn
    have e1 : decide ((0 : Int) < ((i + 1 : Nat) : Int)) = true := decide_eq_true (by omega)
    have hp : i / 2 < n := by omega
    obtain ⟨ok1, a1, a2⟩ := c.ev (i / 2) hp
    have g1 := geti_take (l := H) (n := n) (i := i / 2) (by omega) c.hn
    have s1 : (agenda_set_w1656 (u, us, fr, n, cap, ((i + 1 : Nat) : Int), (H[i / 2]!).1, (H[i / 2]!).2.1, (H[i / 2]!).2.2.1, (H[i / 2]!).2.2.2.1, (H[i / 2]!).2.2.2.2, H, W)) = some (H.set (i + 1) H[i / 2]!, W.set (H[i / 2]!).n ((i + 1 : Nat) : Int)) := set_pre (cap := cap) (by omega) c.hn a1 a2
    by_cases h : less x H[i / 2]!
    · have r : agenda_settle_w1656_l2 c0 (((i + 1 : Nat) : Int), H, W, u, us, fr, n, cap, x) = some (.next (((i / 2 : Nat) : Int), H.set (i + 1) H[i / 2]!, W.set (H[i / 2]!).n ((i + 1 : Nat) : Int), u, us, fr, n, cap, x)) := by
        unfold agenda_settle_w1656_l2
        simp only [e1, cond_true, par_eq (show i < 1000000000 by omega), g1, bindS, agenda_compare_eq hx ok1, dec_lt, h, decide_true, s1]
      rw [whileO_next r, settleP_up hx x0 (i / 2) _ _ (c.move hi hp _ _) (by rw [List.length_set]; exact hn) hp (by rw [List.length_set]; exact x1) (by rw [List.length_set]; exact l2)]
      have e : upG x (i + 1) H W = upG x (i / 2) (H.set (i + 1) H[i / 2]!) (W.set (H[i / 2]!).n ((i + 1 : Nat) : Int)) := by
        rw [upG, if_pos h]
      unfold settleG
      rw [e]
    · have dn := settleP_down (u := u) (us := us) (fr := fr) (cap := cap) hx x0 n (i + 1) H W (by omega) c hn hi x1 l2
      refine (whileO_done (r := settleG n x (i + 1) H W) ?_)
      unfold agenda_settle_w1656_l2
      simp only [e1, cond_true, par_eq (show i < 1000000000 by omega), g1, bindS, agenda_compare_eq hx ok1, dec_lt, h, decide_false, cond_false, kid_eq (show i + 1 < 1000000000 by omega)]
      rw [dn]
      unfold settleG
      rw [upG, if_neg h]
termination_by i=>i
decreasing_by omega
theorem settleP_eq {n cap:Nat} {u fr:List Int} {us:List Bool} {x:Ev} (hx:EvOK x) (x0:0<=x.ix) {i:Nat} {H:List Ev} {W:List Int} (c:Cells n H W) (hi:i<n) (x1:x.ix<W.length):
 agenda_settle_w1656 (u,us,fr,n,cap,(i:Int),x.1,x.2.1,x.2.2.1,x.2.2.2.1,x.2.2.2.2,H,W)=some (settleG n x i H W):=by
 unfold agenda_settle_w1656;exact settleP_up hx x0 i H W c rfl hi x1 rfl
end Go.Proofs.YtjikemfbommnlaaGreat
namespace Go.Proofs.YtjikemfbommnlaaGreat
open Go.Vm Classical
theorem swap_pre {n cap:Nat} {H:List Ev} {W:List Int} {x:Ev} {u fr:List Int} {us:List Bool} {i k:Nat} (hi:i<n) (hk:k<n) (hik:k≠i) (hn:n<=H.length) (x0:0<=x.ix) (x1:x.ix<W.length) (k0:0<=(H[k]!).ix) (k1:(H[k]!).ix<W.length):
 ref07_swap_w8585 (u,us,fr,n,cap,(i:Int),(k:Int),H.set i x,W.set x.n (i:Int))=some ((H.set i H[k]!).set k x,(W.set (H[k]!).n (i:Int)).set x.n (k:Int)):=by
 have cell: ∀w,(H.set i x)[w]! =if w=i then x else H[w]!:=by
  intro w;rw [bang_set]
  by_cases e:w=i
  · rw [if_pos ⟨e,by omega⟩,if_pos e]
  · rw [if_neg (fun k=>e k.1),if_neg e]
 have sh:((H.set i x).set i H[k]!).set k x=(H.set i H[k]!).set k x:=by rw [List.set_set]
 have sw:((W.set x.n (i:Int)).set (H[k]!).n (i:Int)).set x.n (k:Int)=(W.set (H[k]!).n (i:Int)).set x.n (k:Int):=by
  by_cases e:x.n=(H[k]!).n
  · simp only [e,List.set_set]
  · rw [List.set_comm _ _ (fun h=>e h),List.set_set]
 have g1:geti ((H.set i x).take n) (k:Int)=some H[k]!:=by rw [geti_take (by omega) (by rw [List.length_set];omega),cell,if_neg hik]
 have g2:geti ((H.set i x).take n) (i:Int)=some x:=by rw [geti_take (by omega) (by rw [List.length_set];omega),cell,if_pos rfl]
 have g3:geti (((H.set i x).set i H[k]!).take n) (k:Int)=some H[k]!:=by rw [geti_take (by omega) (by rw [List.length_set,List.length_set];omega),bang_set,if_neg (fun h=>hik h.1),cell,if_neg hik]
 have g4:geti (((H.set i H[k]!).set k x).take n) (i:Int)=some H[k]!:=by rw [geti_take (by omega) (by rw [List.length_set,List.length_set];omega),bang_set,if_neg (fun h=>hik h.1.symm),bang_set,if_pos ⟨rfl,by omega⟩]
 have g5:geti (((H.set i H[k]!).set k x).take n) (k:Int)=some x:=by rw [geti_take (by omega) (by rw [List.length_set,List.length_set];omega),bang_set,if_pos ⟨rfl,by rw [List.length_set];omega⟩]
 have w6:=geti_int (l:=W.set x.n (i:Int)) k0 (by rw [List.length_set];exact k1)
 have w7:=geti_int (l:=(W.set x.n (i:Int)).set (H[k]!).n (i:Int)) x0 (by rw [List.length_set,List.length_set];exact x1)
 have q1: ∀(l:List Int) (a:Int) (y:Ev),seti l y.2.2.2.1 a=l.set y.n a:=fun _ _ _=>rfl
 unfold ref07_swap_w8585;simp only [seti_nat,g1,g2,g3,bindS,sh,g4,g5,q1,w6,w7,sw,List.length_set,beq_self_eq_true,cond_true]
theorem up_pre {c0 : List Int × List Bool × List Int × Nat × Nat × Int × List Ev × List Int} {n cap : Nat} {u fr : List Int} {us : List Bool} {x : Ev} (hx : EvOK x) (x0 : 0 <= x.ix) :
    ∀ (i : Nat) (H : List Ev) (W : List Int), Cells n H W -> i < n -> x.ix < W.length -> c0.2.2.2.2.2.2.1.length = H.length -> c0.2.2.2.2.2.2.2.length = W.length ->
      whileO (ref07_up_w3571_l1 c0) ((i : Int), H.set i x, W.set x.n (i : Int), u, us, fr, n, cap) = some (((upG x i H W).1 : Int), (upG x i H W).2.1.set (upG x i H W).1 x, (upG x i H W).2.2.set x.n ((upG x i H W).1 : Int))
  | 0, H, W, c, hi, x1, l1, l2 => by
    have hnn := c.hn
    refine whileO_done ?_
    unfold ref07_up_w3571_l1
    have e1 : decide ((0 : Int) < ((0 : Nat) : Int)) = false := by simp
    rw [upG]
    simp only [e1, cond_false, List.length_set, l1, l2, beq_self_eq_true, cond_true]
  | i + 1, H, W, c, hi, x1, l1, l2 => by
    have hb := c.hb
    have hnn := c.hn
    have e1 : decide ((0 : Int) < ((i + 1 : Nat) : Int)) = true := decide_eq_true (by omega)
    have hp : i / 2 < n := by omega
    have hne : i / 2 ≠ i + 1 := by omega
    obtain ⟨ok1, a1, a2⟩ := c.ev (i / 2) hp
    have cell : ∀ w, (H.set (i + 1) x)[w]! = if w = i + 1 then x else H[w]! := by
      intro w
      rw [bang_set]
      by_cases e : w = i + 1
      · rw [if_pos ⟨e, by omega⟩, if_pos e]
      · rw [if_neg (fun k => e k.1), if_neg e]
    have g0 : geti ((H.set (i + 1) x).take n) ((i + 1 : Nat) : Int) = some x := by rw [geti_take (by omega) (by rw [List.length_set]; omega), cell, if_pos rfl]
    have g1 : geti ((H.set (i + 1) x).take n) ((i / 2 : Nat) : Int) = some H[i / 2]! := by rw [geti_take (by omega) (by rw [List.length_set]; omega), cell, if_neg hne]
    by_cases h : less x H[i / 2]!
    · have sw := swap_pre (cap := cap) (u := u) (us := us) (fr := fr) (x := x) hi hp hne hnn x0 x1 a1 a2
      have r : ref07_up_w3571_l1 c0 (((i + 1 : Nat) : Int), H.set (i + 1) x, W.set x.n ((i + 1 : Nat) : Int), u, us, fr, n, cap) = some (.next (((i / 2 : Nat) : Int), (H.set (i + 1) H[i / 2]!).set (i / 2) x, (W.set (H[i / 2]!).n ((i + 1 : Nat) : Int)).set x.n ((i / 2 : Nat) : Int), u, us, fr, n, cap)) := by
        unfold ref07_up_w3571_l1
        simp only [e1, cond_true, par_eq (show i < 1000000000 by omega), g0, g1, bindS, Less_eq hx ok1, h, decide_true, sw]
      rw [whileO_next r, up_pre hx x0 (i / 2) _ _ (c.move hi hp _ _) hp (by rw [List.length_set]; exact x1) (by rw [List.length_set]; exact l1) (by rw [List.length_set]; exact l2)]
      have e : upG x (i + 1) H W = upG x (i / 2) (H.set (i + 1) H[i / 2]!) (W.set (H[i / 2]!).n ((i + 1 : Nat) : Int)) := by
        rw [upG, if_pos h]
      rw [e]
    · refine whileO_done ?_
      unfold ref07_up_w3571_l1
      have e : upG x (i + 1) H W = (i + 1, H, W) := by rw [upG, if_neg h]
      rw [e]
      simp only [e1, cond_true, par_eq (show i < 1000000000 by omega), g0, g1, bindS, Less_eq hx ok1, h, decide_false, cond_false, List.length_set, l1, l2, beq_self_eq_true]
termination_by i=>i
decreasing_by omega
theorem down_pre {c0 : List Int × List Bool × List Int × Nat × Nat × Int × List Ev × List Int} {n cap : Nat} {u fr : List Int} {us : List Bool} {x : Ev} (hx : EvOK x) (x0 : 0 <= x.ix) :
    ∀ (d i : Nat) (H : List Ev) (W : List Int), n - i <= d -> Cells n H W -> i < n -> x.ix < W.length -> c0.2.2.2.2.2.2.1.length = H.length -> c0.2.2.2.2.2.2.2.length = W.length ->
      whileO (ref07_down_w3571_l1 c0) ((i : Int), H.set i x, W.set x.n (i : Int), u, us, fr, n, cap) = some (((downG n x i H W).2.1.set (downG n x i H W).1 x, (downG n x i H W).2.2.set x.n ((downG n x i H W).1 : Int)))
  | 0, i, H, W, hd, c, hi, x1, l1, l2 => by omega
  | d + 1, i, H, W, hd, c, hi, x1, l1, l2 => by
    have hb := c.hb
    have hnn := c.hn
    have cell : ∀ w, (H.set i x)[w]! = if w = i then x else H[w]! := by
      intro w
      rw [bang_set]
      by_cases e : w = i
      · rw [if_pos ⟨e, by omega⟩, if_pos e]
      · rw [if_neg (fun k => e k.1), if_neg e]
    have len0 : (H.set i x).length = H.length := List.length_set
    have body : ref07_down_w3571_l1 c0 ((i : Int), H.set i x, W.set x.n (i : Int), u, us, fr, n, cap) = some (if 2 * i + 1 < n /\ less H[kid n H i]! x then .next (((kid n H i : Nat) : Int), (H.set i H[kid n H i]!).set (kid n H i) x, (W.set (H[kid n H i]!).n (i : Int)).set x.n ((kid n H i : Nat) : Int), u, us, fr, n, cap) else .done ((H.set i x, W.set x.n (i : Int)))) := by
      have k1 := kid_eq (show i < 1000000000 by omega)
      unfold ref07_down_w3571_l1
      by_cases h1 : 2 * i + 1 < n
      · have e1 : decide ((n : Int) <= ((2 * i + 1 : Nat) : Int)) = false := decide_eq_false (by omega)
        have e2 : wrapF .i64 (((2 * i + 1 : Nat) : Int) + 1) = ((2 * i + 2 : Nat) : Int) := wi_succ (by omega)
        obtain ⟨ok1, a1, a2⟩ := c.ev (2 * i + 1) h1
        have g0 : geti ((H.set i x).take n) (i : Int) = some x := by rw [geti_take (by omega) (by rw [List.length_set]; omega), cell, if_pos rfl]
        have g1 : geti ((H.set i x).take n) ((2 * i + 1 : Nat) : Int) = some H[2 * i + 1]! := by rw [geti_take (by omega) (by rw [List.length_set]; omega), cell, if_neg (by omega)]
        have s1 := swap_pre (cap := cap) (u := u) (us := us) (fr := fr) (x := x) hi h1 (by omega) hnn x0 x1 a1 a2
        simp only [ofNat_eq, k1, len0, e1, e2, cond_false, g0, g1, bindS, Less_eq ok1 hx, s1, List.length_set, l1, l2, beq_self_eq_true, cond_true]
        by_cases h2 : 2 * i + 2 < n
        · have e3 : decide (((2 * i + 2 : Nat) : Int) < (n : Int)) = true := decide_eq_true (by omega)
          obtain ⟨ok2, b1, b2⟩ := c.ev (2 * i + 2) h2
          have g2 : geti ((H.set i x).take n) ((2 * i + 2 : Nat) : Int) = some H[2 * i + 2]! := by rw [geti_take (by omega) (by rw [List.length_set]; omega), cell, if_neg (by omega)]
          have s2 := swap_pre (cap := cap) (u := u) (us := us) (fr := fr) (x := x) hi h2 (by omega) hnn x0 x1 b1 b2
          simp only [e3, cond_true, g2, bindS, s2, Less_eq ok2 hx, Less_eq ok2 ok1]
          by_cases h3 : less H[2 * i + 2]! H[2 * i + 1]!
          · have k : kid n H i = 2 * i + 2 := by unfold kid; rw [if_pos ⟨h2, h3⟩]
            rw [k]
            by_cases h4 : less H[2 * i + 2]! x
            · simp only [h1, h3, h4, decide_true, cond_true, cond_false, Bool.not_true, and_self, if_true]
            · simp only [h1, h3, h4, decide_true, decide_false, cond_true, Bool.not_false, and_false, if_false]
          · have k : kid n H i = 2 * i + 1 := by unfold kid; rw [if_neg (fun h => h3 h.2)]
            rw [k]
            by_cases h4 : less H[2 * i + 1]! x
            · simp only [h1, h3, h4, decide_true, decide_false, cond_false, Bool.not_true, and_self, if_true]
            · simp only [h1, h3, h4, decide_false, cond_true, cond_false, Bool.not_false, and_false, if_false]
        · have e3 : decide (((2 * i + 2 : Nat) : Int) < (n : Int)) = false := decide_eq_false (by omega)
          have k : kid n H i = 2 * i + 1 := by unfold kid; rw [if_neg (fun h => h2 h.1)]
          rw [k]
          simp only [e3, cond_false]
          by_cases h4 : less H[2 * i + 1]! x
          · simp only [h1, h4, decide_true, cond_false, Bool.not_true, and_self, if_true]
          · simp only [h1, h4, decide_false, cond_true, Bool.not_false, and_false, if_false]
      · have e1 : decide ((n : Int) <= ((2 * i + 1 : Nat) : Int)) = true := decide_eq_true (by omega)
        rw [if_neg (fun h => h1 h.1)]
        simp only [ofNat_eq, k1, len0, e1, cond_true, List.length_set, l1, l2, beq_self_eq_true]
    by_cases h : 2 * i + 1 < n /\ less H[kid n H i]! x
    · rw [if_pos h] at body
      have kc := kid_cases n H i
      have kn : kid n H i < n := by omega
      rw [whileO_next body, down_pre hx x0 d (kid n H i) _ _ (by omega) (c.move hi kn _ _) kn (by rw [List.length_set]; exact x1) (by rw [List.length_set]; exact l1) (by rw [List.length_set]; exact l2)]
      have e : downG n x i H W = downG n x (kid n H i) (H.set i H[kid n H i]!) (W.set (H[kid n H i]!).n (i : Int)) := by
        rw [downG, dif_pos h.1, if_pos h.2]
      rw [e]
    · rw [if_neg h] at body
      rw [whileO_done body]
      have e : downG n x i H W = (i, H, W) := by
        rw [downG]
        split
        · rename_i h1; rw [if_neg (fun k => h ⟨h1, k⟩)]
        · rfl
      rw [e]
theorem swap_own {n:Nat} {H:List Ev} {W:List Int} {x:Ev} {u fr:List Int} {us:List Bool} {i k:Nat} (hi:i<n) (hk:k<n) (hik:k≠i) (hn:n=H.length) (x0:0<=x.ix) (x1:x.ix<W.length) (k0:0<=(H[k]!).ix) (k1:(H[k]!).ix<W.length):
 ref07_swap_w9392 ((i:Int),(k:Int),u,us,fr,H.set i x,W.set x.n (i:Int))=some (u,us,fr,(H.set i H[k]!).set k x,(W.set (H[k]!).n (i:Int)).set x.n (k:Int)):=by
 have cell: ∀w,(H.set i x)[w]! =if w=i then x else H[w]!:=by
  intro w;rw [bang_set]
  by_cases e:w=i
  · rw [if_pos ⟨e,by omega⟩,if_pos e]
  · rw [if_neg (fun k=>e k.1),if_neg e]
 have sh:((H.set i x).set i H[k]!).set k x=(H.set i H[k]!).set k x:=by rw [List.set_set]
 have sw:((W.set x.n (i:Int)).set (H[k]!).n (i:Int)).set x.n (k:Int)=(W.set (H[k]!).n (i:Int)).set x.n (k:Int):=by
  by_cases e:x.n=(H[k]!).n
  · simp only [e,List.set_set]
  · rw [List.set_comm _ _ (fun h=>e h),List.set_set]
 have g1:geti ((H.set i x)) (k:Int)=some H[k]!:=by rw [geti_nat _ _ (by rw [List.length_set];omega),cell,if_neg hik]
 have g2:geti ((H.set i x)) (i:Int)=some x:=by rw [geti_nat _ _ (by rw [List.length_set];omega),cell,if_pos rfl]
 have g3:geti (((H.set i x).set i H[k]!)) (k:Int)=some H[k]!:=by rw [geti_nat _ _ (by rw [List.length_set,List.length_set];omega),bang_set,if_neg (fun h=>hik h.1),cell,if_neg hik]
 have g4:geti (((H.set i H[k]!).set k x)) (i:Int)=some H[k]!:=by rw [geti_nat _ _ (by rw [List.length_set,List.length_set];omega),bang_set,if_neg (fun h=>hik h.1.symm),bang_set,if_pos ⟨rfl,by omega⟩]
 have g5:geti (((H.set i H[k]!).set k x)) (k:Int)=some x:=by rw [geti_nat _ _ (by rw [List.length_set,List.length_set];omega),bang_set,if_pos ⟨rfl,by rw [List.length_set];omega⟩]
 have w6:=geti_int (l:=W.set x.n (i:Int)) k0 (by rw [List.length_set];exact k1)
 have w7:=geti_int (l:=(W.set x.n (i:Int)).set (H[k]!).n (i:Int)) x0 (by rw [List.length_set,List.length_set];exact x1)
 have q1: ∀(l:List Int) (a:Int) (y:Ev),seti l y.2.2.2.1 a=l.set y.n a:=fun _ _ _=>rfl
 unfold ref07_swap_w9392;simp only [seti_nat,g1,g2,g3,bindS,sh,g4,g5,q1,w6,w7,sw,List.length_set,beq_self_eq_true,cond_true]
theorem up_own {c0 : Int × List Int × List Bool × List Int × List Ev × List Int} {n : Nat} {u fr : List Int} {us : List Bool} {x : Ev} (hx : EvOK x) (x0 : 0 <= x.ix) (l3 : c0.2.1.length = u.length) (l4 : c0.2.2.1.length = us.length) (l5 : c0.2.2.2.1.length = fr.length) :
    ∀ (i : Nat) (H : List Ev) (W : List Int), Cells n H W -> i < n -> H.length = n -> x.ix < W.length -> c0.2.2.2.2.1.length = H.length -> c0.2.2.2.2.2.length = W.length ->
      whileO (ref07_up_w8962_l1 c0) ((i : Int), u, us, fr, H.set i x, W.set x.n (i : Int)) = some (((upG x i H W).1 : Int), u, us, fr, (upG x i H W).2.1.set (upG x i H W).1 x, (upG x i H W).2.2.set x.n ((upG x i H W).1 : Int))
  | 0, H, W, c, hi, hln, x1, l1, l2 => by
    have hnn := c.hn
    refine whileO_done ?_
    unfold ref07_up_w8962_l1
    have e1 : decide ((0 : Int) < ((0 : Nat) : Int)) = false := by simp
    rw [upG]
    simp only [e1, cond_false, List.length_set, l1, l2, l3, l4, l5, beq_self_eq_true, cond_true]
  | i + 1, H, W, c, hi, hln, x1, l1, l2 => by
    have hb := c.hb
    have hnn := c.hn
    have e1 : decide ((0 : Int) < ((i + 1 : Nat) : Int)) = true := decide_eq_true (by omega)
    have hp : i / 2 < n := by omega
    have hne : i / 2 ≠ i + 1 := by omega
    obtain ⟨ok1, a1, a2⟩ := c.ev (i / 2) hp
    have cell : ∀ w, (H.set (i + 1) x)[w]! = if w = i + 1 then x else H[w]! := by
      intro w
      rw [bang_set]
      by_cases e : w = i + 1
      · rw [if_pos ⟨e, by omega⟩, if_pos e]
      · rw [if_neg (fun k => e k.1), if_neg e]
    have g0 : geti ((H.set (i + 1) x)) ((i + 1 : Nat) : Int) = some x := by rw [geti_nat _ _ (by rw [List.length_set]; omega), cell, if_pos rfl]
    have g1 : geti ((H.set (i + 1) x)) ((i / 2 : Nat) : Int) = some H[i / 2]! := by rw [geti_nat _ _ (by rw [List.length_set]; omega), cell, if_neg hne]
    by_cases h : less x H[i / 2]!
    · have sw := swap_own (u := u) (us := us) (fr := fr) (x := x) hi hp hne hln.symm x0 x1 a1 a2
      have r : ref07_up_w8962_l1 c0 (((i + 1 : Nat) : Int), u, us, fr, H.set (i + 1) x, W.set x.n ((i + 1 : Nat) : Int)) = some (.next (((i / 2 : Nat) : Int), u, us, fr, (H.set (i + 1) H[i / 2]!).set (i / 2) x, (W.set (H[i / 2]!).n ((i + 1 : Nat) : Int)).set x.n ((i / 2 : Nat) : Int))) := by
        unfold ref07_up_w8962_l1
        simp only [e1, cond_true, par_eq (show i < 1000000000 by omega), g0, g1, bindS, Less_eq hx ok1, h, decide_true, sw]
      rw [whileO_next r, up_own hx x0 l3 l4 l5 (i / 2) _ _ (c.move hi hp _ _) hp (by rw [List.length_set]; exact hln) (by rw [List.length_set]; exact x1) (by rw [List.length_set]; exact l1) (by rw [List.length_set]; exact l2)]
      have e : upG x (i + 1) H W = upG x (i / 2) (H.set (i + 1) H[i / 2]!) (W.set (H[i / 2]!).n ((i + 1 : Nat) : Int)) := by
        rw [upG, if_pos h]
      rw [e]
    · refine whileO_done ?_
      unfold ref07_up_w8962_l1
      have e : upG x (i + 1) H W = (i + 1, H, W) := by rw [upG, if_neg h]
      rw [e]
      simp only [e1, cond_true, par_eq (show i < 1000000000 by omega), g0, g1, bindS, Less_eq hx ok1, h, decide_false, cond_false, List.length_set, l1, l2, l3, l4, l5, beq_self_eq_true]
termination_by i=>i
decreasing_by omega
theorem down_own {c0 : Int × List Int × List Bool × List Int × List Ev × List Int} {n : Nat} {u fr : List Int} {us : List Bool} {x : Ev} (hx : EvOK x) (x0 : 0 <= x.ix) (l3 : c0.2.1.length = u.length) (l4 : c0.2.2.1.length = us.length) (l5 : c0.2.2.2.1.length = fr.length) :
    ∀ (d i : Nat) (H : List Ev) (W : List Int), n - i <= d -> Cells n H W -> i < n -> H.length = n -> x.ix < W.length -> c0.2.2.2.2.1.length = H.length -> c0.2.2.2.2.2.length = W.length ->
      whileO (ref07_down_w8962_l1 c0) ((i : Int), u, us, fr, H.set i x, W.set x.n (i : Int)) = some ((u, us, fr, (downG n x i H W).2.1.set (downG n x i H W).1 x, (downG n x i H W).2.2.set x.n ((downG n x i H W).1 : Int)))
  | 0, i, H, W, hd, c, hi, hln, x1, l1, l2 => by omega
  | d + 1, i, H, W, hd, c, hi, hln, x1, l1, l2 => by
    have hb := c.hb
    have hnn := c.hn
    have cell : ∀ w, (H.set i x)[w]! = if w = i then x else H[w]! := by
      intro w
      rw [bang_set]
      by_cases e : w = i
      · rw [if_pos ⟨e, by omega⟩, if_pos e]
      · rw [if_neg (fun k => e k.1), if_neg e]
    have len0 : (H.set i x).length = H.length := List.length_set
    have body : ref07_down_w8962_l1 c0 ((i : Int), u, us, fr, H.set i x, W.set x.n (i : Int)) = some (if 2 * i + 1 < n /\ less H[kid n H i]! x then .next (((kid n H i : Nat) : Int), u, us, fr, (H.set i H[kid n H i]!).set (kid n H i) x, (W.set (H[kid n H i]!).n (i : Int)).set x.n ((kid n H i : Nat) : Int)) else .done ((u, us, fr, H.set i x, W.set x.n (i : Int)))) := by
      have k1 := kid_eq (show i < 1000000000 by omega)
      unfold ref07_down_w8962_l1
      by_cases h1 : 2 * i + 1 < n
      · have e1 : decide ((n : Int) <= ((2 * i + 1 : Nat) : Int)) = false := decide_eq_false (by omega)
        have e2 : wrapF .i64 (((2 * i + 1 : Nat) : Int) + 1) = ((2 * i + 2 : Nat) : Int) := wi_succ (by omega)
        obtain ⟨ok1, a1, a2⟩ := c.ev (2 * i + 1) h1
        have g0 : geti ((H.set i x)) (i : Int) = some x := by rw [geti_nat _ _ (by rw [List.length_set]; omega), cell, if_pos rfl]
        have g1 : geti ((H.set i x)) ((2 * i + 1 : Nat) : Int) = some H[2 * i + 1]! := by rw [geti_nat _ _ (by rw [List.length_set]; omega), cell, if_neg (by omega)]
        have s1 := swap_own (u := u) (us := us) (fr := fr) (x := x) hi h1 (by omega) hln.symm x0 x1 a1 a2
        simp only [ofNat_eq, k1, len0, hln, e1, e2, cond_false, g0, g1, bindS, Less_eq ok1 hx, s1, List.length_set, l1, l2, l3, l4, l5, beq_self_eq_true, cond_true]
        by_cases h2 : 2 * i + 2 < n
        · have e3 : decide (((2 * i + 2 : Nat) : Int) < (n : Int)) = true := decide_eq_true (by omega)
          obtain ⟨ok2, b1, b2⟩ := c.ev (2 * i + 2) h2
          have g2 : geti ((H.set i x)) ((2 * i + 2 : Nat) : Int) = some H[2 * i + 2]! := by rw [geti_nat _ _ (by rw [List.length_set]; omega), cell, if_neg (by omega)]
          have s2 := swap_own (u := u) (us := us) (fr := fr) (x := x) hi h2 (by omega) hln.symm x0 x1 b1 b2
          simp only [e3, cond_true, g2, bindS, s2, Less_eq ok2 hx, Less_eq ok2 ok1]
          by_cases h3 : less H[2 * i + 2]! H[2 * i + 1]!
          · have k : kid n H i = 2 * i + 2 := by unfold kid; rw [if_pos ⟨h2, h3⟩]
            rw [k]
            by_cases h4 : less H[2 * i + 2]! x
            · simp only [h1, h3, h4, decide_true, cond_true, cond_false, Bool.not_true, and_self, if_true]
            · simp only [h1, h3, h4, decide_true, decide_false, cond_true, Bool.not_false, and_false, if_false]
          · have k : kid n H i = 2 * i + 1 := by unfold kid; rw [if_neg (fun h => h3 h.2)]
            rw [k]
            by_cases h4 : less H[2 * i + 1]! x
            · simp only [h1, h3, h4, decide_true, decide_false, cond_false, Bool.not_true, and_self, if_true]
            · simp only [h1, h3, h4, decide_false, cond_true, cond_false, Bool.not_false, and_false, if_false]
        · have e3 : decide (((2 * i + 2 : Nat) : Int) < (n : Int)) = false := decide_eq_false (by omega)
          have k : kid n H i = 2 * i + 1 := by unfold kid; rw [if_neg (fun h => h2 h.1)]
          rw [k]
          simp only [e3, cond_false]
          by_cases h4 : less H[2 * i + 1]! x
          · simp only [h1, h4, decide_true, cond_false, Bool.not_true, and_self, if_true]
          · simp only [h1, h4, decide_false, cond_true, Bool.not_false, and_false, if_false]
      · have e1 : decide ((n : Int) <= ((2 * i + 1 : Nat) : Int)) = true := decide_eq_true (by omega)
        rw [if_neg (fun h => h1 h.1)]
        simp only [ofNat_eq, k1, len0, hln, e1, cond_true, List.length_set, l1, l2, l3, l4, l5, beq_self_eq_true]
    by_cases h : 2 * i + 1 < n /\ less H[kid n H i]! x
    · rw [if_pos h] at body
      have kc := kid_cases n H i
      have kn : kid n H i < n := by omega
      rw [whileO_next body, down_own hx x0 l3 l4 l5 d (kid n H i) _ _ (by omega) (c.move hi kn _ _) kn (by rw [List.length_set]; exact hln) (by rw [List.length_set]; exact x1) (by rw [List.length_set]; exact l1) (by rw [List.length_set]; exact l2)]
      have e : downG n x i H W = downG n x (kid n H i) (H.set i H[kid n H i]!) (W.set (H[kid n H i]!).n (i : Int)) := by
        rw [downG, dif_pos h.1, if_pos h.2]
      rw [e]
    · rw [if_neg h] at body
      rw [whileO_done body]
      have e : downG n x i H W = (i, H, W) := by
        rw [downG]
        split
        · rename_i h1; rw [if_neg (fun k => h ⟨h1, k⟩)]
        · rfl
      rw [e]
theorem swap_psh {n:Nat} {H:List Ev} {W:List Int} {x:Ev} {u fr:List Int} {us:List Bool} {i k:Nat} (hi:i<n) (hk:k<n) (hik:k≠i) (hn:n=H.length) (x0:0<=x.ix) (x1:x.ix<W.length) (k0:0<=(H[k]!).ix) (k1:(H[k]!).ix<W.length):
 ref07_swap_w7853 (u,us,fr,(i:Int),(k:Int),H.set i x,W.set x.n (i:Int))=some ((H.set i H[k]!).set k x,(W.set (H[k]!).n (i:Int)).set x.n (k:Int)):=by
 have cell: ∀w,(H.set i x)[w]! =if w=i then x else H[w]!:=by
  intro w;rw [bang_set]
  by_cases e:w=i
  · rw [if_pos ⟨e,by omega⟩,if_pos e]
  · rw [if_neg (fun k=>e k.1),if_neg e]
 have sh:((H.set i x).set i H[k]!).set k x=(H.set i H[k]!).set k x:=by rw [List.set_set]
 have sw:((W.set x.n (i:Int)).set (H[k]!).n (i:Int)).set x.n (k:Int)=(W.set (H[k]!).n (i:Int)).set x.n (k:Int):=by
  by_cases e:x.n=(H[k]!).n
  · simp only [e,List.set_set]
  · rw [List.set_comm _ _ (fun h=>e h),List.set_set]
 have g1:geti ((H.set i x)) (k:Int)=some H[k]!:=by rw [geti_nat _ _ (by rw [List.length_set];omega),cell,if_neg hik]
 have g2:geti ((H.set i x)) (i:Int)=some x:=by rw [geti_nat _ _ (by rw [List.length_set];omega),cell,if_pos rfl]
 have g3:geti (((H.set i x).set i H[k]!)) (k:Int)=some H[k]!:=by rw [geti_nat _ _ (by rw [List.length_set,List.length_set];omega),bang_set,if_neg (fun h=>hik h.1),cell,if_neg hik]
 have g4:geti (((H.set i H[k]!).set k x)) (i:Int)=some H[k]!:=by rw [geti_nat _ _ (by rw [List.length_set,List.length_set];omega),bang_set,if_neg (fun h=>hik h.1.symm),bang_set,if_pos ⟨rfl,by omega⟩]
 have g5:geti (((H.set i H[k]!).set k x)) (k:Int)=some x:=by rw [geti_nat _ _ (by rw [List.length_set,List.length_set];omega),bang_set,if_pos ⟨rfl,by rw [List.length_set];omega⟩]
 have w6:=geti_int (l:=W.set x.n (i:Int)) k0 (by rw [List.length_set];exact k1)
 have w7:=geti_int (l:=(W.set x.n (i:Int)).set (H[k]!).n (i:Int)) x0 (by rw [List.length_set,List.length_set];exact x1)
 have q1: ∀(l:List Int) (a:Int) (y:Ev),seti l y.2.2.2.1 a=l.set y.n a:=fun _ _ _=>rfl
 unfold ref07_swap_w7853;simp only [seti_nat,g1,g2,g3,bindS,sh,g4,g5,q1,w6,w7,sw,List.length_set,beq_self_eq_true,cond_true]
theorem up_psh {c0 : List Int × List Bool × List Int × Int × List Ev × List Int} {n : Nat} {u fr : List Int} {us : List Bool} {x : Ev} (hx : EvOK x) (x0 : 0 <= x.ix) :
    ∀ (i : Nat) (H : List Ev) (W : List Int), Cells n H W -> i < n -> H.length = n -> x.ix < W.length -> c0.2.2.2.2.1.length = H.length -> c0.2.2.2.2.2.length = W.length ->
      whileO (ref07_up_w1305_l1 c0) ((i : Int), H.set i x, W.set x.n (i : Int), u, us, fr) = some (((upG x i H W).1 : Int), (upG x i H W).2.1.set (upG x i H W).1 x, (upG x i H W).2.2.set x.n ((upG x i H W).1 : Int))
  | 0, H, W, c, hi, hln, x1, l1, l2 => by
    have hnn := c.hn
    refine whileO_done ?_
    unfold ref07_up_w1305_l1
    have e1 : decide ((0 : Int) < ((0 : Nat) : Int)) = false := by simp
    rw [upG]
    simp only [e1, cond_false, List.length_set, l1, l2, beq_self_eq_true, cond_true]
  | i + 1, H, W, c, hi, hln, x1, l1, l2 => by
    have hb := c.hb
    have hnn := c.hn
    have e1 : decide ((0 : Int) < ((i + 1 : Nat) : Int)) = true := decide_eq_true (by omega)
    have hp : i / 2 < n := by omega
    have hne : i / 2 ≠ i + 1 := by omega
    obtain ⟨ok1, a1, a2⟩ := c.ev (i / 2) hp
    have cell : ∀ w, (H.set (i + 1) x)[w]! = if w = i + 1 then x else H[w]! := by
      intro w
      rw [bang_set]
      by_cases e : w = i + 1
      · rw [if_pos ⟨e, by omega⟩, if_pos e]
      · rw [if_neg (fun k => e k.1), if_neg e]
    have g0 : geti ((H.set (i + 1) x)) ((i + 1 : Nat) : Int) = some x := by rw [geti_nat _ _ (by rw [List.length_set]; omega), cell, if_pos rfl]
    have g1 : geti ((H.set (i + 1) x)) ((i / 2 : Nat) : Int) = some H[i / 2]! := by rw [geti_nat _ _ (by rw [List.length_set]; omega), cell, if_neg hne]
    by_cases h : less x H[i / 2]!
    · have sw := swap_psh (u := u) (us := us) (fr := fr) (x := x) hi hp hne hln.symm x0 x1 a1 a2
      have r : ref07_up_w1305_l1 c0 (((i + 1 : Nat) : Int), H.set (i + 1) x, W.set x.n ((i + 1 : Nat) : Int), u, us, fr) = some (.next (((i / 2 : Nat) : Int), (H.set (i + 1) H[i / 2]!).set (i / 2) x, (W.set (H[i / 2]!).n ((i + 1 : Nat) : Int)).set x.n ((i / 2 : Nat) : Int), u, us, fr)) := by
        unfold ref07_up_w1305_l1
        simp only [e1, cond_true, par_eq (show i < 1000000000 by omega), g0, g1, bindS, Less_eq hx ok1, h, decide_true, sw]
      rw [whileO_next r, up_psh hx x0 (i / 2) _ _ (c.move hi hp _ _) hp (by rw [List.length_set]; exact hln) (by rw [List.length_set]; exact x1) (by rw [List.length_set]; exact l1) (by rw [List.length_set]; exact l2)]
      have e : upG x (i + 1) H W = upG x (i / 2) (H.set (i + 1) H[i / 2]!) (W.set (H[i / 2]!).n ((i + 1 : Nat) : Int)) := by
        rw [upG, if_pos h]
      rw [e]
    · refine whileO_done ?_
      unfold ref07_up_w1305_l1
      have e : upG x (i + 1) H W = (i + 1, H, W) := by rw [upG, if_neg h]
      rw [e]
      simp only [e1, cond_true, par_eq (show i < 1000000000 by omega), g0, g1, bindS, Less_eq hx ok1, h, decide_false, cond_false, List.length_set, l1, l2, beq_self_eq_true]
termination_by i=>i
decreasing_by omega
end Go.Proofs.YtjikemfbommnlaaGreat
namespace Go.Proofs.YtjikemfbommnlaaGreat
open Go.Vm Classical
theorem dec_f {p:Prop} [Decidable p] (h: ¬p):decide p=false:=decide_eq_false h
theorem dec_t {p:Prop} [Decidable p] (h:p):decide p=true:=decide_eq_true h
theorem ref06_l1_eq (uses:List Int) (used:List Bool) (fr:List Int) (fl:List Bool) (h1:uses.length<=200) (h2:used.length=uses.length) (h3:fl.length=uses.length):
 ((∀i,i<uses.length->0<=uses[i]!/\uses[i]!<=1000000/\used[i]!≠fl[i]!/\(used[i]! =true->1<=uses[i]!))->whileO ref06_Check_l1 ((uses.length:Int),0,uses,used,fr,fl)=some (.done 0))/\
 (¬(∀i,i<uses.length->0<=uses[i]!/\uses[i]!<=1000000/\used[i]!≠fl[i]!/\(used[i]! =true->1<=uses[i]!))->whileO ref06_Check_l1 ((uses.length:Int),0,uses,used,fr,fl)=some (.done 8)):=by
 have key:=while_any (body:=ref06_Check_l1) (fun i=>((uses.length:Int),(i:Int),uses,used,fr,fl)) uses.length (fun i=> ¬(0<=uses[i]!/\uses[i]!<=1000000/\used[i]!≠fl[i]!/\(used[i]! =true->1<=uses[i]!))) (r:= .done 8) (e:= .done 0) (fun i hi=>by
  have e1:decide ((i:Int)<(uses.length:Int))=true:=dec_t (by omega)
  unfold ref06_Check_l1;simp only [e1,cond_true,geti_nat uses i hi,geti_nat used i (by omega),geti_nat fl i (by omega),bindS,wi_succ (show i<1000000000 by omega)]
  generalize uses[i]! =u;generalize used[i]! =a;generalize fl[i]! =b
  by_cases a1:u<0
  · simp only [a1,decide_true,cond_true];exact ⟨fun _=>trivial,fun h=>absurd (Classical.not_not.1 h).1 (by omega)⟩
  · by_cases a2:1000000<u
    · simp only [a1,a2,decide_true,decide_false,cond_true,cond_false];exact ⟨fun _=>trivial,fun h=>absurd (Classical.not_not.1 h).2.1 (by omega)⟩
    · simp only [a1,a2,decide_false,cond_false]
      by_cases a3:u<1
      · cases a<;>cases b<;>simp [a3]<;>omega
      · cases a<;>cases b<;>simp [a3]<;>omega) (by
  unfold ref06_Check_l1
  have:decide ((uses.length:Int)<(uses.length:Int))=false:=dec_f (by omega)
  simp only [this,cond_false])
 constructor
 · intro h
   exact key.2 fun i hi=>Classical.not_not.2 (h i hi)
 · intro h
   obtain ⟨i,h⟩:=Classical.not_forall.1 h;obtain ⟨hi,hx⟩:=Classical.not_imp.1 h;exact key.1 ⟨i,hi,hx⟩
theorem makeO_le {α:Type} {n:Nat} (z:α) (h:n<=1048576):makeO (n:Int) z=some (List.replicate n z):=by
 unfold makeO;rw [if_pos ⟨by omega,by omega⟩]
 simp
theorem ref06_Check_eq (s:Slots) (hf:s.free.length<=1000000):ref06_Check s=some (if SlotsOK s then 0 else 8):=by
 obtain ⟨uses,used,fr⟩:=s;dsimp only at hf;unfold ref06_Check;simp only [ofNat_eq]
 by_cases a1:uses.length<1
 · have e:decide ((uses.length:Int)<1)=true:=dec_t (by omega)
   rw [e,if_neg (fun h=>by have:=h.n1;dsimp only at this;omega)];rfl
 have e1:decide ((uses.length:Int)<1)=false:=dec_f (by omega)
 by_cases a2:200<uses.length
 · have e:decide (200<(uses.length:Int))=true:=dec_t (by omega)
   rw [e1,e,if_neg (fun h=>by have:=h.n2;dsimp only at this;omega)];rfl
 have e2:decide (200<(uses.length:Int))=false:=dec_f (by omega)
 by_cases a3:used.length=uses.length
 case neg=>
  have e:((used.length:Int) !=(uses.length:Int))=true:=bne_t (by omega)
  rw [e1,e2,e,if_neg (fun h=>a3 h.ul)];rfl
 have e3:((used.length:Int) !=(uses.length:Int))=false:=bne_f (by omega)
 by_cases a4:uses.length<fr.length
 · have e:decide ((uses.length:Int)<(fr.length:Int))=true:=dec_t (by omega)
   rw [e1,e2,e3,e,if_neg (fun h=>by have:=h.fl;dsimp only at this;omega)];rfl
 have e4:decide ((uses.length:Int)<(fr.length:Int))=false:=dec_f (by omega)
 simp only [e1,e2,e3,e4,cond_false,beq_self_eq_true,cond_true,makeO_le false (show uses.length<=1048576 by omega),bindS]
 have ml: ∀k,(marks (List.replicate uses.length false) (fr.take k)).length=uses.length:=fun k=>by rw [marks_len,List.length_replicate]
 have ml':(marks (List.replicate uses.length false) fr).length=uses.length:=by rw [marks_len,List.length_replicate]
 have rep: ∀i:Nat,(List.replicate uses.length false)[i]! =false:=by
  intro i
  by_cases h:i<uses.length
  · rw [getElem!_pos _ i (by simpa using h),List.getElem_replicate]
  · rw [getElem!_neg _ i (by simpa using h)];rfl
 have inner:=ref06_l1_eq uses used fr (marks (List.replicate uses.length false) fr) (by omega) a3 ml'
 have key:=while_any (body:=ref06_Check_l2) (fun k=>((uses.length:Int),(k:Int),uses,used,fr,marks (List.replicate uses.length false) (fr.take k))) fr.length
  (fun k=>fr[k]!<0\/(uses.length:Int)<=fr[k]!\/(marks (List.replicate uses.length false) (fr.take k))[(fr[k]!).toNat]! =true) (r:=8)
  (e:=if (∀i,i<uses.length->0<=uses[i]!/\uses[i]!<=1000000/\used[i]!≠(marks (List.replicate uses.length false) fr)[i]!/\(used[i]! =true->1<=uses[i]!)) then 0 else 8) (fun k hk=>by
   have f1:decide ((k:Int)<(fr.length:Int))=true:=dec_t (by omega)
   have f5:marks (List.replicate uses.length false) (fr.take (k+1))=seti (marks (List.replicate uses.length false) (fr.take k)) fr[k]! true:=by rw [take_succ_bang hk,marks_snoc]
   unfold ref06_Check_l2;simp only [ofNat_eq,f1,cond_true,geti_nat fr k hk,bindS,wi_succ (show k<1000000000 by omega),f5]
   clear f5;generalize fr[k]! =x
   by_cases b1:x<0
   · simp [b1]
   · by_cases b2:(uses.length:Int)<=x
     · simp [b1,b2]
     · simp only [b1,b2,decide_false,cond_false,false_or]
       rw [geti_int (l:=marks (List.replicate uses.length false) (fr.take k)) (i:=x) (by omega) (by rw [ml];omega)]
       simp only [bindS];cases (marks (List.replicate uses.length false) (fr.take k))[x.toNat]!<;>simp) (by
   have f1:decide ((fr.length:Int)<(fr.length:Int))=false:=dec_f (by omega)
   unfold ref06_Check_l2;simp only [ofNat_eq,f1,cond_false,List.take_length]
   by_cases hx:(∀i,i<uses.length->0<=uses[i]!/\uses[i]!<=1000000/\used[i]!≠(marks (List.replicate uses.length false) fr)[i]!/\(used[i]! =true->1<=uses[i]!))
   · rw [if_pos hx];exact inner.1 hx
   · rw [if_neg hx];exact inner.2 hx)
 have h0:marks (List.replicate uses.length false) (fr.take 0)=List.replicate uses.length false:=rfl;rw [show ((0:Nat):Int)=0 from rfl,h0] at key
 by_cases bad: ∃k,k<fr.length/\(fr[k]!<0\/(uses.length:Int)<=fr[k]!\/(marks (List.replicate uses.length false) (fr.take k))[(fr[k]!).toNat]! =true)
 · rw [key.1 bad,if_neg]
   intro ok;obtain ⟨k,hk,hb⟩:=bad;have hr:=ok.fr fr[k]! (bang_mem hk);dsimp only at hr;rcases hb with hb|hb|hb
   · omega
   · omega
   · rw [marks_get _ _ _ (fun x hx=>(ok.fr x (List.mem_of_mem_take hx)).1) (by rw [List.length_replicate];omega),rep,Bool.false_or] at hb
     have hi:((fr[k]!).toNat:Int)=fr[k]!:=by omega
     rw [hi] at hb;have hm:fr[k]!∈fr.take k:=of_decide_eq_true hb;obtain ⟨j,h1,h2,h3⟩:=mem_take_bang.1 hm;exact nodup_bang.1 ok.fd j k h1 hk h3
 · have good: ∀k,k<fr.length->0<=fr[k]!/\fr[k]!<uses.length/\(marks (List.replicate uses.length false) (fr.take k))[(fr[k]!).toNat]! =false:=by
    intro k hk;refine ⟨?_,?_,?_⟩
    · exact Int.not_lt.1 fun h=>bad ⟨k,hk,.inl h⟩
    · exact Int.not_le.1 fun h=>bad ⟨k,hk,.inr (.inl h)⟩
    · exact Bool.not_eq_true _▸fun h=>bad ⟨k,hk,.inr (.inr h)⟩
   rw [key.2 fun k hk hb=>bad ⟨k,hk,hb⟩]
   have rng: ∀x∈fr,0<=x/\x<(uses.length:Int):=by
    intro x hx;obtain ⟨k,hk,rfl⟩:=mem_bang.1 hx;exact ⟨(good k hk).1,(good k hk).2.1⟩
   have g2: ∀k,k<fr.length->fr[k]!∉fr.take k:=by
    intro k hk;obtain ⟨c1,c2,c3⟩:=good k hk;rw [marks_get _ _ _ (fun x hx=>(rng x (List.mem_of_mem_take hx)).1) (by rw [List.length_replicate];omega),show ((fr[k]!).toNat:Int)=fr[k]! by omega,rep,Bool.false_or] at c3
    exact of_decide_eq_false c3
   have nd:fr.Nodup:=nodup_bang.2 fun i j hij hj he=>g2 j hj (mem_take_bang.2 ⟨i,hij,by omega,he⟩)
   have fl: ∀i,i<uses.length->(marks (List.replicate uses.length false) fr)[i]! =decide ((i:Int)∈fr):=by
    intro i hi;rw [marks_get _ _ _ (fun x hx=>(rng x hx).1) (by rw [List.length_replicate];omega),rep,Bool.false_or]
   by_cases hx:(∀i,i<uses.length->0<=uses[i]!/\uses[i]!<=1000000/\used[i]!≠(marks (List.replicate uses.length false) fr)[i]!/\(used[i]! =true->1<=uses[i]!))
   · rw [if_pos hx,if_pos]
     refine ⟨by show 1<=uses.length;omega,by show uses.length<=200;omega,a3,rng,nd,fun i hi=>?_,fun i hi=>?_⟩
     · have:=(hx i hi).2.2.1
       rw [fl i hi] at this;dsimp only;cases h:used[i]! with
       |true=>
        rw [h] at this;refine ⟨fun _ hm=>?_,fun _=>rfl⟩
        rw [dec_t hm] at this;exact this rfl
       |false=>
        rw [h] at this;refine ⟨fun h=>(by cases h),fun hm=>?_⟩
        rw [dec_f hm] at this;exact absurd rfl this
     · have:=hx i hi
       exact ⟨this.1,this.2.1,this.2.2.2⟩
   · rw [if_neg hx,if_neg]
     intro ok;refine hx fun i hi=>?_
     obtain ⟨u1,u2,u3⟩:=ok.us i hi;refine ⟨u1,u2,?_,u3⟩;rw [fl i hi]
     have:=ok.uf i hi
     dsimp only at this;intro he
     by_cases hm:(i:Int)∈fr
     · rw [dec_t hm] at he;exact (this.1 he) hm
     · rw [dec_f hm] at he
       have:=this.2 hm
       rw [he] at this;cases this
end Go.Proofs.YtjikemfbommnlaaGreat
namespace Go.Proofs.YtjikemfbommnlaaGreat
open Go.Vm Classical
structure AgFit (a:Agenda):Prop where
 fr:a.slots.free.length<=1000000
 hp:a.heap.length<=1000000
 wh:a.where_.length<=1000000
 at64: ∀w,w<a.heap.length->R64 ((a.heap[w]!).1,(a.heap[w]!).2.1)
structure AgOK (a:Agenda):Prop where
 so:SlotsOK a.slots
 wl:a.where_.length=a.slots.uses.length
 hl:a.heap.length+a.slots.free.length=a.slots.uses.length
 fwd: ∀i,i<a.slots.uses.length->a.slots.used[i]! =true->0<=a.where_[i]!/\a.where_[i]!<a.heap.length/\(Ev.ix a.heap[(a.where_[i]!).toNat]!)=i/\(a.heap[(a.where_[i]!).toNat]!).2.2.2.2=a.slots.uses[i]!
 un: ∀i,i<a.slots.uses.length->a.slots.used[i]! =false->a.where_[i]! = -1
 ev: ∀w,w<a.heap.length->EvOK a.heap[w]!
 nd: ∀v w,v<w->w<a.heap.length->(Ev.num a.heap[v]!)≠(Ev.num a.heap[w]!)
 ord: ∀k,0<k->k<a.heap.length-> ¬less a.heap[k]! a.heap[(k-1) / 2]!
theorem cover: ∀(n:Nat) (l:List Nat),(∀x,x<n->x∈l)->n<=l.length
 |0,_,_=>Nat.zero_le _
 |n+1,l,h=>by
  have hn:=h n (by omega)
  have:=cover n (l.erase n) (fun x hx=>by
   rw [List.mem_erase_of_ne (by omega)]
   exact h x (by omega))
  rw [List.length_erase_of_mem hn] at this
  have:=List.length_pos_of_mem hn
  omega
def usedL (s:Slots):List Nat:=(List.range s.uses.length).filter fun i=>s.used[i]!
theorem mem_usedL {s:Slots} {i:Nat}:i∈usedL s↔i<s.uses.length/\s.used[i]! =true:=by
 unfold usedL;rw [List.mem_filter,List.mem_range]
theorem map_nodup {α β:Type} {f:α->β}: ∀{l:List α},l.Nodup->(∀x∈l,∀y∈l,f x=f y->x=y)->(l.map f).Nodup
 | [],_,_=>by simp
 |a::l,h,hf=>by
  rw [List.nodup_cons] at h;rw [List.map_cons,List.nodup_cons];refine ⟨?_,map_nodup h.2 fun x hx y hy=>hf x (by simp [hx]) y (by simp [hy])⟩
  intro hm;obtain ⟨b,hb,e⟩:=List.mem_map.1 hm
  have:=hf b (by simp [hb]) a (by simp) e
  subst this;exact h.1 hb
theorem AgOK.back {a:Agenda} (ok:AgOK a) {w:Nat} (hw:w<a.heap.length):0<=(Ev.ix a.heap[w]!)/\(Ev.ix a.heap[w]!)<a.slots.uses.length/\a.slots.used[(Ev.n a.heap[w]!)]! =true/\a.slots.uses[(Ev.n a.heap[w]!)]! =(a.heap[w]!).2.2.2.2/\a.where_[(Ev.n a.heap[w]!)]! =(w:Int):=by
 have so:=ok.so;have len:a.slots.uses.length<=(usedL a.slots).length+a.slots.free.length:=by
  have:=cover a.slots.uses.length (usedL a.slots++a.slots.free.map Int.toNat) (fun x hx=>by
   rw [List.mem_append]
   by_cases hu:a.slots.used[x]! =true
   · exact .inl (mem_usedL.2 ⟨hx,hu⟩)
   · right
     have:=so.uf x hx
     have hm:(x:Int)∈a.slots.free:=Classical.byContradiction fun hc=>hu (this.2 hc)
     exact List.mem_map.2 ⟨_,hm,by omega⟩)
  rw [List.length_append,List.length_map] at this;exact this
 have f0: ∀i∈usedL a.slots,0<=a.where_[i]!/\a.where_[i]!<a.heap.length/\(Ev.ix a.heap[(a.where_[i]!).toNat]!)=i/\(a.heap[(a.where_[i]!).toNat]!).2.2.2.2=a.slots.uses[i]!:=fun i hi=>ok.fwd i (mem_usedL.1 hi).1 (mem_usedL.1 hi).2
 have full:=pigeon_full (n:=a.heap.length) (l:=(usedL a.slots).map fun i=>(a.where_[i]!).toNat) (by
  refine map_nodup ?_ ?_
  · exact List.Pairwise.filter _ List.nodup_range
  · intro x hx y hy he
    have h1:=(f0 x hx).2.2.1;have h2:=(f0 y hy).2.2.1;rw [he] at h1
    omega) (by
  intro x hx;obtain ⟨i,hi,rfl⟩:=List.mem_map.1 hx
  have:=f0 i hi
  omega) (by
  rw [List.length_map]
  have:=ok.hl
  omega) w hw
 obtain ⟨i,hi,e⟩:=List.mem_map.1 full;obtain ⟨c1,c2,c3,c4⟩:=f0 i hi;obtain ⟨d1,d2⟩:=mem_usedL.1 hi;rw [e] at c3 c4;have hn:(Ev.n a.heap[w]!)=i:=by show ((Ev.ix a.heap[w]!)).toNat=i;omega
 rw [hn];refine ⟨by omega,by omega,d2,c4.symm,by omega⟩
noncomputable def cmpG (x y:Ev):Int:=if RatOK (x.1,x.2.1)/\RatOK (y.1,y.2.1) then cmpE x y else cmpI x.2.2.1 y.2.2.1
theorem agenda_compare_eqG {x y:Ev} (hx:R64 (x.1,x.2.1)) (hy:R64 (y.1,y.2.1)):agenda_compare x y=some (cmpG x y):=by
 unfold agenda_compare cmpG cmpE;rw [Cmp_eq hx hy]
 by_cases h:RatOK (x.1,x.2.1)/\RatOK (y.1,y.2.1)
 · rw [if_pos h,if_pos h]
   simp only [bindS,Compare_121_eq,cmp_Or_eq]
 · rw [if_neg h,if_neg h]
   simp only [bindS,Compare_121_eq,cmp_Or_eq];simp
def WhOK (a:Agenda) (i:Nat):Prop:=(a.slots.used[i]! =true->0<=a.where_[i]!/\a.where_[i]!<a.heap.length/\(Ev.ix a.heap[(a.where_[i]!).toNat]!)=i/\(a.heap[(a.where_[i]!).toNat]!).2.2.2.2=a.slots.uses[i]!)/\(a.slots.used[i]! =false->a.where_[i]! = -1)
def HpOK (H:List Ev) (k:Nat):Prop:=RatOK ((H[k]!).1,(H[k]!).2.1)/\0<=(H[k]!).2.2.1/\(H[k]!).2.2.1<=1000000/\(∀j,j<k->(H[j]!).2.2.1≠(H[k]!).2.2.1)/\(0<k-> ¬cmpG H[k]! H[(k-1) / 2]!<0)
theorem AgOK.of {a:Agenda} (fit:AgFit a) (so:SlotsOK a.slots) (wl:a.where_.length=a.slots.uses.length) (hl:a.heap.length+a.slots.free.length=a.slots.uses.length) (wh: ∀i,i<a.slots.uses.length->WhOK a i) (hp: ∀k,k<a.heap.length->HpOK a.heap k):AgOK a:=by
 have ev: ∀w,w<a.heap.length->EvOK a.heap[w]!:=fun w hw=>⟨(hp w hw).1,fit.at64 w hw,(hp w hw).2.1,(hp w hw).2.2.1⟩
 refine ⟨so,wl,hl,fun i hi=>(wh i hi).1,fun i hi=>(wh i hi).2,ev,fun v w hv hw=>(hp w hw).2.2.2.1 v hv,fun k k0 hk=>?_⟩
 have:=(hp k hk).2.2.2.2 k0
 unfold cmpG at this;rw [if_pos ⟨(hp k hk).1,(hp ((k-1) / 2) (by omega)).1⟩,cmpE_lt] at this
 exact this
theorem AgOK.to {a:Agenda} (ok:AgOK a):(∀i,i<a.slots.uses.length->WhOK a i)/\(∀k,k<a.heap.length->HpOK a.heap k):=by
 refine ⟨fun i hi=>⟨ok.fwd i hi,ok.un i hi⟩,fun k hk=>?_⟩
 have e:=ok.ev k hk;refine ⟨e.1,e.2.2.1,e.2.2.2,fun j hj=>ok.nd j k hj hk,fun k0=>?_⟩
 unfold cmpG;rw [if_pos ⟨e.1,(ok.ev ((k-1) / 2) (by omega)).1⟩,cmpE_lt]
 exact ok.ord k k0 hk
theorem keys_nums (H:List Ev) (k:Nat) (n:Int):keysLike [n] ((H.take k).map fun x=>[x.2.2.1])=true:=by
 unfold keysLike;rw [List.all_eq_true];intro x hx;obtain ⟨y,hy,rfl⟩:=List.mem_map.1 hx;rfl
theorem hasL_nums (H:List Ev) (k:Nat) (n:Int):hasL ((H.take k).map fun x=>[x.2.2.1]) [n]=decide (∃j,j<k/\j<H.length/\(H[j]!).2.2.1=n):=by
 unfold hasL;rw [Bool.eq_iff_iff,List.any_eq_true,decide_eq_true_iff];constructor
 · rintro ⟨x,hx,he⟩
   obtain ⟨y,hy,rfl⟩:=List.mem_map.1 hx;obtain ⟨j,h1,h2,rfl⟩:=mem_take_bang.1 hy
   have:[n]=[(H[j]!).2.2.1]:=by simpa using he
   exact ⟨j,h1,h2,by injection this with h;exact h.symm⟩
 · rintro ⟨j,h1,h2,h3⟩
   refine ⟨[(H[j]!).2.2.1],List.mem_map.2 ⟨H[j]!,mem_take_bang.2 ⟨j,h1,h2,rfl⟩,rfl⟩,?_⟩;rw [h3];simp
theorem agenda_l1_eq (H:List Ev) (u fr W:List Int) (us:List Bool) (hl:H.length<=1000000) (r64: ∀w,w<H.length->R64 ((H[w]!).1,(H[w]!).2.1)):
 ((∀k,k<H.length->HpOK H k)->whileO agenda_Check_l1 (H,(H.length:Int),0,u,us,fr,H,W,[])=some (.done 0))/\(¬(∀k,k<H.length->HpOK H k)->whileO agenda_Check_l1 (H,(H.length:Int),0,u,us,fr,H,W,[])=some (.done 8)):=by
 have key:=while_any (body:=agenda_Check_l1) (fun k=>(H,(H.length:Int),(k:Int),u,us,fr,H,W,(H.take k).map fun x=>[x.2.2.1])) H.length (fun k=> ¬HpOK H k) (r:= .done 8) (e:= .done 0) (fun k hk=>by
  have e1:decide ((k:Int)<(H.length:Int))=true:=dec_t (by omega)
  have ins: ∀n:Int,¬(∃j,j<k/\j<H.length/\(H[j]!).2.2.1=n)->insO ((H.take k).map fun x=>[x.2.2.1]) [n]=some (((H.take k).map fun x=>[x.2.2.1])++[[n]]):=by
   intro n hn;unfold insO insL;rw [keys_nums,hasL_nums,dec_f hn];rfl
  have has: ∀n:Int,hasO ((H.take k).map fun x=>[x.2.2.1]) [n]=some (decide (∃j,j<k/\j<H.length/\(H[j]!).2.2.1=n)):=by
   intro n;unfold hasO;rw [keys_nums,hasL_nums];rfl
  have nx:(H.take (k+1)).map (fun x=>[x.2.2.1])=((H.take k).map fun x=>[x.2.2.1])++[[(H[k]!).2.2.1]]:=by
   rw [take_succ_bang hk,List.map_append];rfl
  unfold agenda_Check_l1;simp only [e1,cond_true,geti_nat H k hk,bindS,ratio_Check_eq (r64 k hk),wi_succ (show k<1000000000 by omega),has,nx]
  unfold HpOK
  by_cases b1:RatOK ((H[k]!).1,(H[k]!).2.1)
  case neg=>
   rw [if_neg b1];exact ⟨fun _=>rfl,fun h=>absurd (Classical.not_not.1 h).1 b1⟩
  rw [if_pos b1]
  by_cases b2:(H[k]!).2.2.1<0
  · rw [dec_t b2]
    exact ⟨fun _=>rfl,fun h=>absurd (Classical.not_not.1 h).2.1 (by omega)⟩
  by_cases b3:1000000<(H[k]!).2.2.1
  · rw [dec_f b2,dec_t b3]
    exact ⟨fun _=>rfl,fun h=>absurd (Classical.not_not.1 h).2.2.1 (by omega)⟩
  rw [dec_f b2,dec_f b3]
  by_cases b4: ∃j,j<k/\j<H.length/\(H[j]!).2.2.1=(H[k]!).2.2.1
  · rw [dec_t b4]
    refine ⟨fun _=>rfl,fun h=>?_⟩
    obtain ⟨j,j1,j2,j3⟩:=b4;exact absurd j3 ((Classical.not_not.1 h).2.2.2.1 j j1)
  rw [dec_f b4,ins _ b4];have b4': ∀j,j<k->(H[j]!).2.2.1≠(H[k]!).2.2.1:=fun j hj he=>b4 ⟨j,hj,by omega,he⟩
  simp only [show ((0:Int) !=0)=false from rfl,cond_false,bindS]
  by_cases b5:0<k
  · obtain ⟨m,rfl⟩: ∃m,k=m+1:=⟨k-1,by omega⟩
    have f1:decide ((0:Int)<((m+1:Nat):Int))=true:=dec_t (by omega)
    simp only [f1,cond_true,par_eq (show m<1000000000 by omega),geti_nat H (m / 2) (by omega),bindS,agenda_compare_eqG (r64 (m+1) hk) (r64 (m / 2) (by omega)),show (m+1-1) / 2=m / 2 by omega]
    by_cases b6:cmpG H[m+1]! H[m / 2]!<0
    · rw [dec_t b6]
      exact ⟨fun _=>rfl,fun h=>absurd b6 ((Classical.not_not.1 h).2.2.2.2 (by omega))⟩
    · rw [dec_f b6]
      exact ⟨fun h=>absurd ⟨b1,by omega,by omega,b4',fun _=>b6⟩ h,fun _=>rfl⟩
  · have f1:decide ((0:Int)<(k:Int))=false:=dec_f (by omega)
    rw [f1];exact ⟨fun h=>absurd ⟨b1,by omega,by omega,b4',fun h=>absurd h b5⟩ h,fun _=>rfl⟩) (by
  unfold agenda_Check_l1
  have:decide ((H.length:Int)<(H.length:Int))=false:=dec_f (by omega)
  simp only [this,cond_false])
 constructor
 · intro h
   exact key.2 fun i hi=>Classical.not_not.2 (h i hi)
 · intro h
   obtain ⟨i,h⟩:=Classical.not_forall.1 h;obtain ⟨hi,hx⟩:=Classical.not_imp.1 h;exact key.1 ⟨i,hi,hx⟩
end Go.Proofs.YtjikemfbommnlaaGreat
namespace Go.Proofs.YtjikemfbommnlaaGreat
open Go.Vm Classical
theorem agenda_l2_eq (a:Agenda) (fit:AgFit a) (so:SlotsOK a.slots) (wl:a.where_.length=a.slots.uses.length):
 whileO agenda_Check_l2 (a.where_,(a.where_.length:Int),0,a.slots.uses,a.slots.used,a.slots.free,a.heap,a.where_)=some (if (∀i,i<a.slots.uses.length->WhOK a i)/\(∀k,k<a.heap.length->HpOK a.heap k) then 0 else 8):=by
 have hu:=so.ul;have hn:=so.n2;have hh:=fit.hp;have inner:=agenda_l1_eq a.heap a.slots.uses a.slots.free a.where_ a.slots.used fit.hp fit.at64
 have key:=while_any (body:=agenda_Check_l2) (fun i=>(a.where_,(a.where_.length:Int),(i:Int),a.slots.uses,a.slots.used,a.slots.free,a.heap,a.where_)) a.where_.length (fun i=> ¬WhOK a i) (r:=8) (e:=if (∀k,k<a.heap.length->HpOK a.heap k) then 0 else 8) (fun i hi=>by
  have e1:decide ((i:Int)<(a.where_.length:Int))=true:=dec_t (by omega)
  unfold agenda_Check_l2;simp only [ofNat_eq,e1,cond_true,geti_nat a.where_ i hi,geti_nat a.slots.used i (by omega),geti_nat a.slots.uses i (by omega),bindS,wi_succ (show i<1000000000 by omega)]
  unfold WhOK;generalize a.where_[i]! =w at*;cases hb:a.slots.used[i]! with
  |false=>
   simp only [Bool.not_false,cond_true]
   by_cases hw:w= -1
   · rw [bne_f hw]
     exact ⟨fun h=>absurd ⟨fun h=>(by cases h),fun _=>hw⟩ h,fun _=>rfl⟩
   · rw [bne_t hw]
     exact ⟨fun _=>rfl,fun h=>absurd ((Classical.not_not.1 h).2 trivial) hw⟩
  |true=>
   simp only [Bool.not_true,cond_false]
   by_cases b1:w<0
   · rw [dec_t b1]
     exact ⟨fun _=>rfl,fun h=>absurd ((Classical.not_not.1 h).1 trivial).1 (by omega)⟩
   by_cases b2:(a.heap.length:Int)<=w
   · rw [dec_f b1,dec_t b2]
     exact ⟨fun _=>rfl,fun h=>absurd ((Classical.not_not.1 h).1 trivial).2.1 (by omega)⟩
   rw [dec_f b1,dec_f b2];simp only [cond_false,geti_int (l:=a.heap) (i:=w) (by omega) (by omega),bindS]
   by_cases b3:(a.heap[w.toNat]!).2.2.2.1=i
   · by_cases b4:(a.heap[w.toNat]!).2.2.2.2=a.slots.uses[i]!
     · rw [beq_t b3,beq_t b4]
       exact ⟨fun h=>absurd ⟨fun _=>⟨by omega,by omega,b3,b4⟩,fun h=>(by cases h)⟩ h,fun _=>rfl⟩
     · rw [beq_t b3,beq_f b4]
       exact ⟨fun _=>rfl,fun h=>absurd ((Classical.not_not.1 h).1 trivial).2.2.2 b4⟩
   · rw [beq_f b3]
     exact ⟨fun _=>rfl,fun h=>absurd ((Classical.not_not.1 h).1 trivial).2.2.1 b3⟩) (by
  unfold agenda_Check_l2
  have:decide ((a.where_.length:Int)<(a.where_.length:Int))=false:=dec_f (by omega)
  simp only [ofNat_eq,this,cond_false]
  by_cases hx: ∀k,k<a.heap.length->HpOK a.heap k
  · rw [if_pos hx];exact inner.1 hx
  · rw [if_neg hx];exact inner.2 hx)
 by_cases hw: ∀i,i<a.slots.uses.length->WhOK a i
 · refine (key.2 fun i hi=>Classical.not_not.2 (hw i (by omega))).trans ?_
   by_cases hx: ∀k,k<a.heap.length->HpOK a.heap k
   · rw [if_pos hx,if_pos ⟨hw,hx⟩]
   · rw [if_neg hx,if_neg (fun h=>hx h.2)]
 · rw [if_neg (fun h=>hw h.1)]
   obtain ⟨i,h⟩:=Classical.not_forall.1 hw;obtain ⟨hi,hx⟩:=Classical.not_imp.1 h;exact key.1 ⟨i,by omega,hx⟩
theorem agenda_Check_eq (a:Agenda) (fit:AgFit a):agenda_Check a=some (if AgOK a then 0 else 8):=by
 have hh:=fit.hp;unfold agenda_Check;rw [slot_Check_eq _ fit.fr];simp only [ofNat_eq]
 by_cases so:SlotsOK a.slots
 case neg=>rw [if_neg so,if_neg (fun h=>so h.so)];rfl
 have hu:=so.ul;have hn:=so.n2;have hf:=so.fl;rw [if_pos so];simp only [bindS,show ((0:Int) !=0)=false from rfl,cond_false]
 by_cases wl:a.where_.length=a.slots.uses.length
 case neg=>
  rw [bne_t (by omega),if_neg (fun h=>wl h.wl)];rfl
 rw [bne_f (by omega)]
 have e:wrapF .i64 ((a.slots.used.length:Int) - (a.slots.free.length:Int))=((a.slots.uses.length-a.slots.free.length:Nat):Int):=by rw [wi];omega
 rw [e]
 by_cases hl:a.heap.length+a.slots.free.length=a.slots.uses.length
 case neg=>
  rw [bne_t (by omega),if_neg (fun h=>hl h.hl)];rfl
 rw [bne_f (by omega)]
 simp only [cond_false];rw [agenda_l2_eq a fit so wl]
 by_cases ok:AgOK a
 · rw [if_pos ok,if_pos ok.to]
 · rw [if_neg ok,if_neg]
   intro h;exact ok (AgOK.of fit so wl hl h.1 h.2)
theorem Less_eqR {x y:Ev} (hx:R64 (x.1,x.2.1)) (hy:R64 (y.1,y.2.1)):ref07_Less x y=some (decide (less x y)):=by
 unfold ref07_Less less;rw [Compare_eq hx hy];simp only [bindS];generalize cmpR (x.1,x.2.1) (y.1,y.2.1)=c
 by_cases h1:c<0
 · simp [h1]
 · by_cases h2:c=0
   · subst h2;simp
   · simp only [h1,beq_f h2,h2,decide_false,cond_false,false_or,false_and]
theorem Live_eq {s:Slots} (ok:SlotsOK s) (h:Int×Int):ref06_Live s h=some (decide (SLive s h)):=by
 have hu:=ok.ul;unfold ref06_Live SLive;simp only [ofNat_eq]
 by_cases a1:0<=h.1
 · by_cases a2:h.1<s.uses.length
   · simp only [a1,a2,decide_true,cond_true,geti_int (l:=s.used) a1 (by omega),geti_int (l:=s.uses) a1 a2,bindS,true_and]
     generalize s.uses[h.1.toNat]! =u;cases s.used[h.1.toNat]!<;>simp [beq_dec]
   · simp [a1,a2]
 · simp [a1]
theorem placed_eq (a:Agenda) (so:SlotsOK a.slots):ref07_placed a=some (decide (a.where_.length=a.slots.uses.length/\a.heap.length+a.slots.free.length=a.slots.uses.length/\ ∀i,i<a.slots.uses.length->WhOK a i)):=by
 have hu:=so.ul;have hn:=so.n2;have hf:=so.fl;unfold ref07_placed;simp only [ofNat_eq]
 by_cases wl:a.where_.length=a.slots.uses.length
 case neg=>
  rw [bne_t (by omega),dec_f (fun h=>wl h.1)];rfl
 rw [bne_f (by omega)]
 have e:wrapF .i64 ((a.slots.uses.length:Int) - (a.slots.free.length:Int))=((a.slots.uses.length-a.slots.free.length:Nat):Int):=by rw [wi];omega
 rw [e]
 by_cases hl:a.heap.length+a.slots.free.length=a.slots.uses.length
 case neg=>
  rw [bne_t (by omega),dec_f (fun h=>hl h.2.1)];rfl
 rw [bne_f (by omega)]
 simp only [cond_false];have key:=while_any (body:=ref07_placed_l1) (fun i=>((a.slots.uses.length:Int),(i:Int),a.slots.uses,a.slots.used,a.slots.free,a.heap,a.where_)) a.slots.uses.length (fun i=> ¬WhOK a i) (r:=false) (e:=true) (fun i hi=>by
  have e1:decide ((i:Int)<(a.slots.uses.length:Int))=true:=dec_t (by omega)
  unfold ref07_placed_l1;simp only [ofNat_eq,e1,cond_true,geti_nat a.where_ i (by omega),geti_nat a.slots.used i (by omega),bindS,wi_succ (show i<1000000000 by omega)]
  unfold WhOK;generalize a.where_[i]! =w at*;cases hb:a.slots.used[i]! with
  |false=>
   simp only [Bool.not_false,cond_true]
   by_cases hw:w= -1
   · rw [bne_f hw]
     exact ⟨fun h=>absurd ⟨fun h=>(by cases h),fun _=>hw⟩ h,fun _=>rfl⟩
   · rw [bne_t hw]
     exact ⟨fun _=>rfl,fun h=>absurd ((Classical.not_not.1 h).2 trivial) hw⟩
  |true=>
   simp only [Bool.not_true,cond_false]
   by_cases b1:w<0
   · rw [dec_t b1]
     exact ⟨fun _=>rfl,fun h=>absurd ((Classical.not_not.1 h).1 trivial).1 (by omega)⟩
   by_cases b2:(a.heap.length:Int)<=w
   · rw [dec_f b1,dec_t b2]
     exact ⟨fun _=>rfl,fun h=>absurd ((Classical.not_not.1 h).1 trivial).2.1 (by omega)⟩
   rw [dec_f b1,dec_f b2];simp only [cond_false,geti_int (l:=a.heap) (i:=w) (by omega) (by omega),bindS]
   by_cases b3:(a.heap[w.toNat]!).2.2.2.1=i
   · rw [bne_f b3]
     simp only [cond_false];rw [Live_eq (s:=⟨a.slots.uses,a.slots.used,a.slots.free⟩) so];have lv:SLive ⟨a.slots.uses,a.slots.used,a.slots.free⟩ (a.heap[w.toNat]!).2.2.2↔(a.heap[w.toNat]!).2.2.2.2=a.slots.uses[i]!:=by
      unfold SLive;dsimp only;rw [b3];constructor
      · intro h;exact h.2.2.2.symm
      · intro h;exact ⟨by omega,by omega,by rw [Int.toNat_natCast];exact hb,by rw [Int.toNat_natCast];exact h.symm⟩
     simp only [bindS,lv]
     by_cases b4:(a.heap[w.toNat]!).2.2.2.2=a.slots.uses[i]!
     · rw [dec_t b4]
       exact ⟨fun h=>absurd ⟨fun _=>⟨by omega,by omega,b3,b4⟩,fun h=>(by cases h)⟩ h,fun _=>rfl⟩
     · rw [dec_f b4]
       exact ⟨fun _=>rfl,fun h=>absurd ((Classical.not_not.1 h).1 trivial).2.2.2 b4⟩
   · rw [bne_t b3]
     exact ⟨fun _=>rfl,fun h=>absurd ((Classical.not_not.1 h).1 trivial).2.2.1 b3⟩) (by
  unfold ref07_placed_l1
  have:decide ((a.slots.uses.length:Int)<(a.slots.uses.length:Int))=false:=dec_f (by omega)
  simp only [this,cond_false])
 by_cases hw: ∀i,i<a.slots.uses.length->WhOK a i
 · rw [dec_t ⟨wl,hl,hw⟩]
   exact key.2 fun i hi=>Classical.not_not.2 (hw i hi)
 · rw [dec_f (fun h=>hw h.2.2)]
   obtain ⟨i,h⟩:=Classical.not_forall.1 hw;obtain ⟨hi,hx⟩:=Classical.not_imp.1 h;exact key.1 ⟨i,hi,hx⟩
theorem ref07_l1_eq (H:List Ev) (u fr W:List Int) (us:List Bool) (k:Nat) (hk:k<H.length) (hl:H.length<=1000000) (x:Ev):
 ((∃j,j<k/\(H[j]!).2.2.1=x.2.2.1)->whileO ref07_Check_l1 ((k:Int),0,u,us,fr,H,W,x)=some (.done 8))/\
 ((∀j,j<k-> ¬(H[j]!).2.2.1=x.2.2.1)->whileO ref07_Check_l1 ((k:Int),0,u,us,fr,H,W,x)=some (.next (((k+1:Nat):Int),u,us,fr,H,W))):=by
 refine while_any (body:=ref07_Check_l1) (fun j=>((k:Int),(j:Int),u,us,fr,H,W,x)) k (fun j=>(H[j]!).2.2.1=x.2.2.1) (r:= .done 8) (e:= .next (((k+1:Nat):Int),u,us,fr,H,W)) (fun j hj=>?_) ?_
 · have e1:decide ((j:Int)<(k:Int))=true:=dec_t (by omega)
   unfold ref07_Check_l1;simp only [e1,cond_true,geti_nat H j (by omega),bindS,wi_succ (show j<1000000000 by omega)]
   constructor
   · intro h;rw [beq_t h];rfl
   · intro h;rw [beq_f h];rfl
 · unfold ref07_Check_l1
   have:decide ((k:Int)<(k:Int))=false:=dec_f (by omega)
   simp only [this,cond_false,wi_succ (show k<1000000000 by omega)]
theorem ref07_l2_eq (H:List Ev) (u fr W:List Int) (us:List Bool) (hl:H.length<=1000000) (r64: ∀w,w<H.length->R64 ((H[w]!).1,(H[w]!).2.1)):
 whileO ref07_Check_l2 (1,u,us,fr,H,W)=some (.done (if∀k,0<k->k<H.length-> ¬less H[k]! H[(k-1) / 2]! then 0 else 8)):=by
 by_cases h0:H.length=0
 · rw [if_pos (fun k _ hk=>by omega)]
   refine whileO_done ?_;unfold ref07_Check_l2
   have:decide ((1:Int)<(H.length:Int))=false:=dec_f (by omega)
   simp only [ofNat_eq,this,cond_false]
 have key:=while_any (body:=ref07_Check_l2) (fun i=>(((i+1:Nat):Int),u,us,fr,H,W)) (H.length-1) (fun i=>less H[i+1]! H[i / 2]!) (r:= .done 8) (e:= .done 0) (fun i hi=>by
  have e1:decide (((i+1:Nat):Int)<(H.length:Int))=true:=dec_t (by omega)
  unfold ref07_Check_l2;simp only [ofNat_eq,e1,cond_true,par_eq (show i<1000000000 by omega),geti_nat H (i+1) (by omega),geti_nat H (i / 2) (by omega),bindS,Less_eqR (r64 (i+1) (by omega)) (r64 (i / 2) (by omega)),wi_succ (show i+1<1000000000 by omega)]
  constructor
  · intro h;rw [dec_t h];rfl
  · intro h;rw [dec_f h];rfl) (by
  unfold ref07_Check_l2
  have:decide (((H.length-1+1:Nat):Int)<(H.length:Int))=false:=dec_f (by omega)
  simp only [ofNat_eq,this,cond_false])
 by_cases ho: ∀k,0<k->k<H.length-> ¬less H[k]! H[(k-1) / 2]!
 · rw [if_pos ho]
   refine key.2 fun i hi hc=>ho (i+1) (by omega) (by omega) ?_
   rwa [show (i+1-1) / 2=i / 2 by omega]
 · rw [if_neg ho]
   obtain ⟨k,h⟩:=Classical.not_forall.1 ho;obtain ⟨k0,h⟩:=Classical.not_imp.1 h;obtain ⟨hk,hx⟩:=Classical.not_imp.1 h;refine key.1 ⟨k-1,by omega,?_⟩
   rw [show k-1+1=k by omega]
   exact Classical.not_not.1 hx
def EvLook (H:List Ev) (k:Nat):Prop:=RatOK ((H[k]!).1,(H[k]!).2.1)/\0<=(H[k]!).2.2.1/\(H[k]!).2.2.1<=1000000/\(∀j,j<k-> ¬(H[j]!).2.2.1=(H[k]!).2.2.1)
theorem ref07_Check_eq (a:Agenda) (fit:AgFit a):ref07_Check a=some (if AgOK a then 0 else 8):=by
 have hh:=fit.hp;unfold ref07_Check;rw [ref06_Check_eq _ fit.fr]
 by_cases so:SlotsOK a.slots
 case neg=>rw [if_neg so,if_neg (fun h=>so h.so)];rfl
 rw [if_pos so];simp only [bindS,show ((0:Int) !=0)=false from rfl,cond_false,placed_eq a so]
 by_cases pl:a.where_.length=a.slots.uses.length/\a.heap.length+a.slots.free.length=a.slots.uses.length/\ ∀i,i<a.slots.uses.length->WhOK a i
 case neg=>
  rw [dec_f pl,if_neg (fun h=>pl ⟨h.wl,h.hl,h.to.1⟩)];rfl
 rw [dec_t pl];obtain ⟨wl,hl,hw⟩:=pl;simp only [Bool.not_true,cond_false];have key:=while_any (body:=ref07_Check_l3) (fun k=>((k:Int),a.slots.uses,a.slots.used,a.slots.free,a.heap,a.where_)) a.heap.length (fun k=> ¬EvLook a.heap k) (r:=8) (e:=if∀k,0<k->k<a.heap.length-> ¬less a.heap[k]! a.heap[(k-1) / 2]! then 0 else 8) (fun k hk=>by
  have e1:decide ((k:Int)<(a.heap.length:Int))=true:=dec_t (by omega)
  have l1:=ref07_l1_eq a.heap a.slots.uses a.slots.free a.where_ a.slots.used k hk hh a.heap[k]!;unfold ref07_Check_l3;simp only [ofNat_eq,e1,cond_true,geti_nat a.heap k hk,bindS,ref01_Check_eq (fit.at64 k hk)];unfold EvLook
  by_cases b1:RatOK ((a.heap[k]!).1,(a.heap[k]!).2.1)
  case neg=>
   rw [if_neg b1];exact ⟨fun _=>rfl,fun h=>absurd (Classical.not_not.1 h).1 b1⟩
  rw [if_pos b1]
  by_cases b2:(a.heap[k]!).2.2.1<0
  · rw [dec_t b2]
    exact ⟨fun _=>rfl,fun h=>absurd (Classical.not_not.1 h).2.1 (by omega)⟩
  by_cases b3:1000000<(a.heap[k]!).2.2.1
  · rw [dec_f b2,dec_t b3]
    exact ⟨fun _=>rfl,fun h=>absurd (Classical.not_not.1 h).2.2.1 (by omega)⟩
  rw [dec_f b2,dec_f b3];simp only [show ((0:Int) !=0)=false from rfl,cond_false]
  by_cases b4: ∃j,j<k/\(a.heap[j]!).2.2.1=(a.heap[k]!).2.2.1
  · refine ⟨fun _=>l1.1 b4,fun h=>?_⟩
    obtain ⟨j,j1,j2⟩:=b4;exact absurd j2 ((Classical.not_not.1 h).2.2.2 j j1)
  · have b4': ∀j,j<k-> ¬(a.heap[j]!).2.2.1=(a.heap[k]!).2.2.1:=fun j h1 h2=>b4 ⟨j,h1,h2⟩
    exact ⟨fun h=>absurd ⟨b1,by omega,by omega,b4'⟩ h,fun _=>l1.2 b4'⟩) (by
  unfold ref07_Check_l3
  have:decide ((a.heap.length:Int)<(a.heap.length:Int))=false:=dec_f (by omega)
  simp only [ofNat_eq,this,cond_false];exact ref07_l2_eq a.heap _ _ _ _ hh fit.at64)
 have same:AgOK a↔(∀k,k<a.heap.length->EvLook a.heap k)/\ ∀k,0<k->k<a.heap.length-> ¬less a.heap[k]! a.heap[(k-1) / 2]!:=by
  constructor
  · intro ok
    refine ⟨fun k hk=>?_,ok.ord⟩
    have:=ok.to.2 k hk
    exact ⟨this.1,this.2.1,this.2.2.1,this.2.2.2.1⟩
  · rintro ⟨h1,h2⟩
    refine AgOK.of fit so wl hl hw fun k hk=>?_
    obtain ⟨c1,c2,c3,c4⟩:=h1 k hk;refine ⟨c1,c2,c3,c4,fun k0=>?_⟩
    unfold cmpG;rw [if_pos ⟨c1,(h1 ((k-1) / 2) (by omega)).1⟩,cmpE_lt]
    exact h2 k k0 hk
 by_cases he: ∀k,k<a.heap.length->EvLook a.heap k
 · refine (key.2 fun i hi=>Classical.not_not.2 (he i hi)).trans ?_
   by_cases ho: ∀k,0<k->k<a.heap.length-> ¬less a.heap[k]! a.heap[(k-1) / 2]!
   · rw [if_pos ho,if_pos (same.2 ⟨he,ho⟩)]
   · rw [if_neg ho,if_neg (fun h=>ho (same.1 h).2)]
 · rw [if_neg (fun h=>he (same.1 h).1)]
   obtain ⟨i,h⟩:=Classical.not_forall.1 he;obtain ⟨hi,hx⟩:=Classical.not_imp.1 h;exact key.1 ⟨i,hi,hx⟩
end Go.Proofs.YtjikemfbommnlaaGreat
namespace Go.Proofs.YtjikemfbommnlaaGreat
open Go.Vm Classical
theorem take_bang_mem {l:List Ev} {n:Nat} {e:Ev} (hn:n<=l.length):e∈l.take n↔ ∃w,w<n/\l[w]! =e:=by
 rw [mem_take_bang];constructor
 · rintro ⟨i,h1,_,h3⟩;exact ⟨i,h1,h3⟩
 · rintro ⟨i,h1,h3⟩;exact ⟨i,h1,by omega,h3⟩
theorem ok_of {s:Slots} (so:SlotsOK s) {n:Nat} {H:List Ev} {W:List Int} (E:Ev->Prop) (hn:n<=H.length) (wl:W.length=s.uses.length) (hl:n+s.free.length=s.uses.length)
 (ix: ∀w,w<n->0<=(H[w]!).ix/\(H[w]!).ix<W.length/\W[(H[w]!).n]! =(w:Int)) (mem: ∀e,(∃w,w<n/\H[w]! =e)↔E e) (ord: ∀k,0<k->k<n-> ¬less H[k]! H[(k-1) / 2]!)
 (ue: ∀i,i<s.uses.length->s.used[i]! =true-> ∃e:Ev,E e/\e.ix=i/\e.2.2.2.2=s.uses[i]!) (un: ∀i,i<s.uses.length->s.used[i]! =false->W[i]! = -1)
 (ev: ∀e,E e->EvOK e) (nums: ∀e f:Ev,E e->E f->e.num=f.num->e.ix=f.ix):AgOK ⟨s,H.take n,W⟩:=by
 have len:(H.take n).length=n:=by rw [List.length_take];omega
 have cell: ∀w,w<n->(H.take n)[w]! =H[w]!:=fun w hw=>bang_take hw
 refine ⟨so,wl,by show (H.take n).length+_=_;rw [len];exact hl,?_,un,?_,?_,?_⟩
 · intro i hi hu
   dsimp only at hi hu ⊢;rw [len];obtain ⟨e,he,e1,e2⟩:=ue i hi hu;obtain ⟨w,hw,rfl⟩:=(mem e).2 he;obtain ⟨a1,a2,a3⟩:=ix w hw;have hn':(H[w]!).n=i:=by show ((H[w]!).ix).toNat=i;omega
   rw [hn'] at a3;rw [a3,Int.toNat_natCast,cell w hw];exact ⟨by omega,by omega,e1,e2⟩
 · intro w hw
   dsimp only at hw ⊢;rw [len] at hw;rw [cell w hw];exact ev _ ((mem _).1 ⟨w,hw,rfl⟩)
 · intro v w hv hw
   dsimp only at hw ⊢;rw [len] at hw;rw [cell v (by omega),cell w hw]
   intro hc
   have:=nums _ _ ((mem _).1 ⟨v,by omega,rfl⟩) ((mem _).1 ⟨w,hw,rfl⟩) hc
   obtain ⟨a1,a2,a3⟩:=ix v (by omega)
   obtain ⟨b1,b2,b3⟩:=ix w hw;have hn':(H[v]!).n=(H[w]!).n:=by show ((H[v]!).ix).toNat=((H[w]!).ix).toNat;rw [this]
   rw [hn'] at a3;omega
 · intro k k0 hk
   dsimp only at hk ⊢;rw [len] at hk;rw [cell k hk,cell _ (by omega)]
   exact ord k k0 hk
theorem ok_of_settled {s:Slots} (so:SlotsOK s) {n:Nat} {x:Ev} {M:Ev->Prop} {K:Nat->Prop} {H H1:List Ev} {W W1:List Int} (st:Settled n x M K H W H1 W1) (hn:n<=H.length) (wl:W.length=s.uses.length) (hl:n+s.free.length=s.uses.length)
 (ue: ∀i,i<s.uses.length->s.used[i]! =true-> ∃e:Ev,(e=x\/M e)/\e.ix=i/\e.2.2.2.2=s.uses[i]!) (un: ∀i,i<s.uses.length->s.used[i]! =false->K i/\W[i]! = -1)
 (ev: ∀e,(e=x\/M e)->EvOK e) (nums: ∀e f:Ev,(e=x\/M e)->(f=x\/M f)->e.num=f.num->e.ix=f.ix):AgOK ⟨s,H1.take n,W1⟩:=by
 refine ok_of so (fun e=>e=x\/M e) (by rw [st.hl];exact hn) (by rw [st.wl];exact wl) hl (by rw [st.wl];exact st.ix) st.mem st.ord ue ?_ ev nums
 intro i hi hu;rw [st.out i (un i hi hu).1];exact (un i hi hu).2
theorem AgOK.bd {a:Agenda} (ok:AgOK a):a.heap.length<=200/\a.where_.length<=200:=by
 have:=ok.hl;have:=ok.wl;have:=ok.so.n2
 omega
theorem AgOK.cells {a:Agenda} (ok:AgOK a):Cells a.heap.length a.heap a.where_:=by
 have:=ok.bd
 refine ⟨Nat.le_refl _,by omega,fun w hw=>?_⟩
 obtain ⟨b1,b2,b3,b4,b5⟩:=ok.back hw;exact ⟨ok.ev w hw,b1,by rw [ok.wl];exact b2⟩
theorem AgOK.inj {a:Agenda} (ok:AgOK a) {v w:Nat} (hv:v<a.heap.length) (hw:w<a.heap.length) (h:Ev.ix a.heap[v]! =Ev.ix a.heap[w]!):v=w:=by
 have h1:=(ok.back hv).2.2.2.2;have h2:=(ok.back hw).2.2.2.2
 have:Ev.n a.heap[v]! =Ev.n a.heap[w]!:=by show (Ev.ix a.heap[v]!).toNat=(Ev.ix a.heap[w]!).toNat;rw [h]
 rw [this] at h1;omega
theorem AgOK.grand {a:Agenda} (ok:AgOK a) {i k:Nat} (i0:0<i) (k0:0<k) (hk:k<a.heap.length) (hp:(k-1) / 2=i): ¬less a.heap[k]! a.heap[(i-1) / 2]!:=by
 have h1:=ok.ord k k0 hk;rw [hp] at h1;exact leq_trans (ok.ev _ (by omega)).den (ok.ev _ (by omega)).den (ok.ev _ hk).den (ok.ord i i0 (by omega)) h1
theorem AgOK.live {a:Agenda} (ok:AgOK a) {h:Int×Int} (lv:SLive a.slots h): ∃i,i<a.heap.length/\a.where_[h.1.toNat]! =(i:Int)/\(a.heap[i]!).2.2.2=h:=by
 obtain ⟨l1,l2,l3,l4⟩:=lv;obtain ⟨f1,f2,f3,f4⟩:=ok.fwd h.1.toNat (by omega) l3
 refine ⟨(a.where_[h.1.toNat]!).toNat,by omega,by omega,?_⟩
 have e1:(a.heap[(a.where_[h.1.toNat]!).toNat]!).2.2.2.1=h.1:=by
  have:Ev.ix a.heap[(a.where_[h.1.toNat]!).toNat]! =(h.1.toNat:Int):=f3
  have h2:Ev.ix a.heap[(a.where_[h.1.toNat]!).toNat]! =(a.heap[(a.where_[h.1.toNat]!).toNat]!).2.2.2.1:=rfl;omega
 exact Prod.ext e1 (by rw [f4,l4])
theorem AgOK.handle {a:Agenda} (ok:AgOK a) {i:Nat} (hi:i<a.heap.length):SLive a.slots (a.heap[i]!).2.2.2/\a.where_[((a.heap[i]!).2.2.2.1).toNat]! =(i:Int):=by
 obtain ⟨b1,b2,b3,b4,b5⟩:=ok.back hi;exact ⟨⟨b1,b2,b3,b4⟩,b5⟩
theorem AgOK.used_ev {a:Agenda} (ok:AgOK a) {i:Nat} (hi:i<a.slots.uses.length) (hu:a.slots.used[i]! =true): ∃w,w<a.heap.length/\Ev.ix a.heap[w]! =i/\(a.heap[w]!).2.2.2.2=a.slots.uses[i]!:=by
 obtain ⟨f1,f2,f3,f4⟩:=ok.fwd i hi hu;exact ⟨(a.where_[i]!).toNat,by omega,f3,f4⟩
theorem AgOK.no_ev {a:Agenda} (ok:AgOK a) {i:Nat} (hu:a.slots.used[i]! =false) {w:Nat} (hw:w<a.heap.length):Ev.n a.heap[w]!≠i:=by
 intro h
 have:=(ok.back hw).2.2.1
 rw [h,hu] at this;cases this
theorem AgOK.nums {a:Agenda} (ok:AgOK a) {v w:Nat} (hv:v<a.heap.length) (hw:w<a.heap.length) (h:Ev.num a.heap[v]! =Ev.num a.heap[w]!):v=w:=by
 rcases Nat.lt_trichotomy v w with h1|h1|h1
 · exact absurd h (ok.nd v w h1 hw)
 · exact h1
 · exact absurd h.symm (ok.nd w v h1 hv)
theorem set_same {α:Type} [Inhabited α] {l:List α} {k:Nat} {v:α} (h:l[k]! =v):l.set k v=l:=by
 by_cases hk:k<l.length
 · apply ext_bang (by rw [List.length_set])
   intro i hi;rw [bang_set];split
   · rename_i e;rw [e.1];exact h.symm
   · rfl
 · exact List.set_eq_of_length_le (by omega)
def reAt (x:Ev) (t:Int×Int):Ev:=(t.1,t.2,x.2.2)
noncomputable def agRekey (a:Agenda) (i:Nat) (t:Int×Int):Agenda:=⟨a.slots,(settleG a.heap.length (reAt a.heap[i]! t) i a.heap a.where_).1,(settleG a.heap.length (reAt a.heap[i]! t) i a.heap a.where_).2⟩
theorem rekey_ev {a:Agenda} (ok:AgOK a) {i:Nat} (hi:i<a.heap.length) {t:Int×Int} (ht:RatOK t) (h64:R64 t):EvOK (reAt a.heap[i]! t):=by
 have:=ok.ev i hi
 exact ⟨ht,h64,this.2.2.1,this.2.2.2⟩
theorem rekey_hole {a:Agenda} (ok:AgOK a) {i:Nat} (hi:i<a.heap.length) (t:Int×Int):Hole a.heap.length (reAt a.heap[i]! t) (fun e=> ∃w,w<a.heap.length/\w≠i/\a.heap[w]! =e) a.heap a.where_ i:=by
 obtain ⟨b1,b2,b3,b4,b5⟩:=ok.back hi;refine ⟨hi,Nat.le_refl _,fun w hw hwi=>?_,b1,by rw [ok.wl];exact b2,fun e=>Iff.rfl⟩
 obtain ⟨c1,c2,c3,c4,c5⟩:=ok.back hw;exact ⟨c1,by rw [ok.wl];exact c2,c5,fun h=>hwi (ok.inj hw hi h)⟩
theorem rekey_ord {a:Agenda} (ok:AgOK a) (i:Nat):Ord a.heap.length a.heap i:=
 ⟨fun w hw=>(ok.ev w hw).den,fun k k0 hk _ _=>ok.ord k k0 hk,fun i0 _k k0 hk hp=>ok.grand i0 k0 hk hp⟩
theorem rekey_settled {a:Agenda} (ok:AgOK a) {i:Nat} (hi:i<a.heap.length) {t:Int×Int} (ht:RatOK t):
 Settled a.heap.length (reAt a.heap[i]! t) (fun e=> ∃w,w<a.heap.length/\w≠i/\a.heap[w]! =e) (fun k=>k≠Ev.n (reAt a.heap[i]! t)/\ ∀w,w<a.heap.length->w≠i->Ev.n a.heap[w]!≠k) a.heap a.where_ (agRekey a i t).heap (agRekey a i t).where_:=
 settle_spec (x:=reAt a.heap[i]! t) ht.1 (rekey_hole ok hi t) (rekey_ord ok i)
theorem rekey_len {a:Agenda} (ok:AgOK a) {i:Nat} (hi:i<a.heap.length) {t:Int×Int} (ht:RatOK t):(agRekey a i t).heap.length=a.heap.length/\(agRekey a i t).where_.length=a.where_.length:=
 ⟨(rekey_settled ok hi ht).hl,(rekey_settled ok hi ht).wl⟩
theorem rekey_mem {a:Agenda} (ok:AgOK a) {i:Nat} (hi:i<a.heap.length) {t:Int×Int} (ht:RatOK t) (e:Ev):e∈(agRekey a i t).heap↔(e=reAt a.heap[i]! t\/(e∈a.heap/\e≠a.heap[i]!)):=by
 have st:=rekey_settled ok hi ht;have h1:e∈(agRekey a i t).heap↔ ∃w,w<a.heap.length/\((agRekey a i t).heap)[w]! =e:=by
  rw [mem_bang,(rekey_len ok hi ht).1]
 rw [h1];refine (st.mem e).trans ?_;constructor
 · rintro (h|⟨w,hw,hwi,rfl⟩)
   · exact .inl h
   · exact .inr ⟨bang_mem hw,fun h=>hwi (ok.inj hw hi (by rw [h]))⟩
 · rintro (h|⟨h,hne⟩)
   · exact .inl h
   · obtain ⟨w,hw,rfl⟩:=mem_bang.1 h
     exact .inr ⟨w,hw,fun h=>hne (by rw [h]),rfl⟩
theorem rekey_ok {a:Agenda} (ok:AgOK a) {i:Nat} (hi:i<a.heap.length) {t:Int×Int} (ht:RatOK t) (h64:R64 t):AgOK (agRekey a i t):=by
 have st:=rekey_settled ok hi ht;have len:=(rekey_len ok hi ht).1;have hx:Ev.ix (reAt a.heap[i]! t)=Ev.ix a.heap[i]!:=rfl;have key:=ok_of_settled ok.so st (Nat.le_refl _) ok.wl ok.hl (fun j hj hu=>by
  obtain ⟨w,hw,e1,e2⟩:=ok.used_ev hj hu
  by_cases e:w=i
  · subst e;exact ⟨reAt a.heap[w]! t,.inl rfl,e1,e2⟩
  · exact ⟨a.heap[w]!,.inr ⟨w,hw,e,rfl⟩,e1,e2⟩) (fun j hj hu=>⟨⟨(ok.no_ev hu hi).symm,fun w hw _=>ok.no_ev hu hw⟩,ok.un j hj hu⟩) (by
  rintro e (rfl|⟨w,hw,_,rfl⟩)
  · exact rekey_ev ok hi ht h64
  · exact ok.ev w hw) (by
  rintro e f (rfl|⟨v,hv,hvi,rfl⟩) (rfl|⟨w,hw,hwi,rfl⟩) he
  · rfl
  · exact absurd (ok.nums hi hw he).symm hwi
  · exact absurd (ok.nums hv hi he) hvi
  · rw [ok.nums hv hw he])
 have:(agRekey a i t).heap.take a.heap.length=(agRekey a i t).heap:=List.take_of_length_le (by rw [len];exact Nat.le_refl _)
 show AgOK ⟨a.slots,(agRekey a i t).heap,(agRekey a i t).where_⟩;rw [<- this];exact key
theorem max8 (p q:Prop) [Decidable p] [Decidable q]:(if (if q then (0:Int) else 8)>(if p then 0 else 8) then (if q then (0:Int) else 8) else if p then 0 else 8)=if p/\q then 0 else 8:=by
 by_cases h1:p<;>by_cases h2:q<;>simp [h1,h2]
theorem place_ag {a:Agenda} (ok:AgOK a) (fit:AgFit a) {h:Int×Int} {i:Nat} (hi:i<a.heap.length) (hh:(a.heap[i]!).2.2.2=h):agenda_place a h=some ((i:Int),0):=by
 obtain ⟨lv,wv⟩:=ok.handle hi;rw [hh] at lv;unfold agenda_place;rw [agenda_Check_eq a fit,if_pos ok];simp only [bindS,show ((0:Int) !=0)=false from rfl,cond_false,slot_Has_eq ok.so,dec_t lv,Bool.not_true]
 have:=lv.2.1;have:=lv.1;have:=ok.wl
 have e:(a.heap[i]!).2.2.2.1=h.1:=by rw [hh]
 rw [geti_int (l:=a.where_) lv.1 (by omega),<- e,wv]
 rfl
theorem agenda_Rekey_eq {a:Agenda} (ok:AgOK a) (fit:AgFit a) {h t:Int×Int} {i:Nat} (hi:i<a.heap.length) (hh:(a.heap[i]!).2.2.2=h) (ht:RatOK t) (h64:R64 t):agenda_Rekey a h t=some (agRekey a i t,0):=by
 have bd:=ok.bd;obtain ⟨b1,b2,b3,b4,b5⟩:=ok.back hi;unfold agenda_Rekey;rw [agenda_Check_eq a fit,if_pos ok,ratio_Check_eq h64,if_pos ht];have pl:=place_ag ok fit hi hh;have se:=settleO_eq (u:=a.slots.uses) (us:=a.slots.used) (fr:=a.slots.free) (rekey_ev ok hi ht h64) (show 0<=Ev.ix (reAt a.heap[i]! t) from b1) ok.cells rfl hi (show Ev.ix (reAt a.heap[i]! t)<a.where_.length by rw [ok.wl];exact b2)
 have se':agenda_settle_w6855 (a.slots.uses,a.slots.used,a.slots.free,(i:Int),t.1,t.2,(a.heap[i]!).2.2.1,(a.heap[i]!).2.2.2.1,(a.heap[i]!).2.2.2.2,a.heap,a.where_)=some (settleG a.heap.length (reAt a.heap[i]! t) i a.heap a.where_):=se
 simp only [bindS,gt_iff_lt,Int.lt_irrefl,if_false,show ((0:Int) !=0)=false from rfl,cond_false,pl,cloneO_le (show a.heap.length<=1048576 by omega),cloneO_le (show a.where_.length<=1048576 by omega),geti_nat a.heap i hi,se']
 rfl
theorem ref07_Twin_eq {a:Agenda} (ok:AgOK a):ref07_Twin a=some a:=by
 have bd:=ok.bd;unfold ref07_Twin;simp only [ref06_Twin_eq ok.so,bindS,cloneO_le (show a.heap.length<=1048576 by omega),cloneO_le (show a.where_.length<=1048576 by omega)]
theorem ref07_Rekeyed_eq {a:Agenda} (ok:AgOK a) {h t:Int×Int} {i:Nat} (hi:i<a.heap.length) (hh:(a.heap[i]!).2.2.2=h) (ht:RatOK t) (h64:R64 t):ref07_Rekeyed a h t=some (agRekey a i t):=by
 have bd:=ok.bd;obtain ⟨b1,b2,b3,b4,b5⟩:=ok.back hi;obtain ⟨lv,wv⟩:=ok.handle hi;have hx:=rekey_ev ok hi ht h64;have x1:Ev.ix (reAt a.heap[i]! t)<a.where_.length:=by rw [ok.wl];exact b2
 have st:=rekey_settled ok hi ht;obtain ⟨j,H1,W1,e1,e3,e4,e5,e6,e7,e8,e9,e10⟩:=up_spec (x:=reAt a.heap[i]! t) ht.1 i a.heap a.where_ (rekey_hole ok hi t) (rekey_ord ok i);have w1:a.where_.set (Ev.n (reAt a.heap[i]! t)) (i:Int)=a.where_:=set_same b5;unfold ref07_Rekeyed;rw [ref07_Twin_eq ok];have g1:geti a.where_ h.1=some (i:Int):=by
  have e:(a.heap[i]!).2.2.2.1=h.1:=by rw [hh]
  rw [geti_int (l:=a.where_) (i:=h.1) (by rw [<- e];exact b1) (by rw [<- e,ok.wl];exact b2),<- e,wv]
 have u1:ref07_up_w8962 ((i:Int),a.slots.uses,a.slots.used,a.slots.free,a.heap.set i (reAt a.heap[i]! t),a.where_)=some ((j:Int),a.slots.uses,a.slots.used,a.slots.free,H1.set j (reAt a.heap[i]! t),W1.set (Ev.n (reAt a.heap[i]! t)) (j:Int)):=by
  unfold ref07_up_w8962
  have:=up_own (c0:=((i:Int),a.slots.uses,a.slots.used,a.slots.free,a.heap.set i (reAt a.heap[i]! t),a.where_)) (u:=a.slots.uses) (us:=a.slots.used) (fr:=a.slots.free) hx b1 rfl rfl rfl i a.heap a.where_ ok.cells hi rfl x1 List.length_set rfl
  rw [w1,e1] at this;exact this
 have cells1:Cells a.heap.length H1 W1:=by
  refine ⟨by rw [e5];exact Nat.le_refl _,by omega,fun w hw=>?_⟩
  exact ⟨(up_cells ok.cells hi e1 w hw).1,(up_cells ok.cells hi e1 w hw).2.1,by rw [e6];exact (up_cells ok.cells hi e1 w hw).2.2⟩
 have d1:ref07_down_w8962 ((j:Int),a.slots.uses,a.slots.used,a.slots.free,H1.set j (reAt a.heap[i]! t),W1.set (Ev.n (reAt a.heap[i]! t)) (j:Int))=some (a.slots.uses,a.slots.used,a.slots.free,(settleG a.heap.length (reAt a.heap[i]! t) i a.heap a.where_).1,(settleG a.heap.length (reAt a.heap[i]! t) i a.heap a.where_).2):=by
  unfold ref07_down_w8962
  have:=down_own (c0:=((j:Int),a.slots.uses,a.slots.used,a.slots.free,H1.set j (reAt a.heap[i]! t),W1.set (Ev.n (reAt a.heap[i]! t)) (j:Int))) (n:=a.heap.length) (u:=a.slots.uses) (us:=a.slots.used) (fr:=a.slots.free) hx b1 rfl rfl rfl a.heap.length j H1 W1 (by omega) cells1 e3.lt e5 (by rw [e6];exact x1) List.length_set List.length_set
  rw [this];unfold settleG;rw [e1]
 have s1:seti a.heap (i:Int) (t.1,t.2,(a.heap[i]!).2.2)=a.heap.set i (reAt a.heap[i]! t):=rfl;simp only [bindS,g1,geti_nat a.heap i hi,s1,u1,d1];rfl
end Go.Proofs.YtjikemfbommnlaaGreat
