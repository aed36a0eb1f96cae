/- Plain laws (1). -/
import Derived.Test.YtmlghnibpjlchaaGreatTVm2
import Derived.Test.YtmlghnibpjlchaaGreatTVm1
import Derived.Test.YtmlghnibpjlchaaGreatTQS2
namespace Go.Proofs.YtmlghnibpjlchaaGreat
open Go.Vm
abbrev AP (n:Int):Prop:= -9223372036854775808<=n/\n<9223372036854775808
abbrev U64 (n:Int):Prop:=0<=n/\n<18446744073709551616
theorem wi (n:Int):aA .i64 n=(n+9223372036854775808)%18446744073709551616-9223372036854775808:=by
 rw [vE];simp only [IntKind.wrap,IntKind.bits,IntKind.signed,Bool.true_and];have e1:(2:Int)^64=18446744073709551616:=by decide
 have e2:(2:Int)^(64-1)=9223372036854775808:=by decide
 simp only [e1,e2,decide_eq_true_eq];split<;>omega
theorem wu (n:Int):aA .u64 n=n%18446744073709551616:=by
 rw [vE];simp only [IntKind.wrap,IntKind.bits,IntKind.signed,Bool.false_and];have e1:(2:Int)^64=18446744073709551616:=by decide
 simp only [e1];simp
theorem jW {n:Int} (h:AP n):aA .i64 n=n:=by rw [wi];omega
theorem eJ {a b:Int} (h:a≠b):(a !=b)=true:=by simpa using h
theorem cI {a b:Int} (h:a=b):(a !=b)=false:=by simpa using h
theorem fZ {a b:Int} (h:a=b):(a==b)=true:=by simpa using h
theorem fI {a b:Int} (h:a≠b):(a==b)=false:=by simpa using h
theorem W7 (a b:Int):(a==b)=decide (a=b):=by
 by_cases h:a=b
 · rw [fZ h,decide_eq_true h]
 · rw [fI h,decide_eq_false h]
theorem lt_or_ge (a b:Int):a<b\/b<=a:=by omega
theorem aNk (a:Int):sZ .u64 a 32=a / 4294967296:=by
 unfold sZ;rw [show (min (32:Int).toNat (IntKind.bits .u64))=32 from by decide,show (2:Int)^32=4294967296 from by decide]
 exact Int.fdiv_eq_ediv_of_nonneg _ (by decide)
theorem UJ {a:Int} (h:U64 a):IW .u64 a 4294967295=a%4294967296:=by
 obtain ⟨n,rfl⟩:=Int.eq_ofNat_of_zero_le h.1;unfold IW;have e:(BitVec.ofInt (IntKind.bits .u64) (n:Int)&&&BitVec.ofInt (IntKind.bits .u64) 4294967295).toNat=n%4294967296:=by
  rw [BitVec.toNat_and];have e1:(BitVec.ofInt (IntKind.bits .u64) (n:Int)).toNat=n:=by
   rw [BitVec.toNat_ofInt]
   have:((2^(IntKind.bits .u64):Nat):Int)=18446744073709551616:=by decide
   rw [this];omega
  have e2:(BitVec.ofInt (IntKind.bits .u64) (4294967295:Int)).toNat=2^32-1:=by decide
  rw [e1,e2,Nat.and_two_pow_sub_one_eq_mod]
 rw [e]
 have:=wu ((n%4294967296:Nat):Int)
 rw [vE] at this;rw [this];omega
theorem aHA {a b:Nat} (ha:a<1000000000) (hb:b<1000000000):aA .i64 (sZ .u64 (aA .u64 (aA .i64 ((a:Int)+(b:Int)))) 1)=(((a+b) / 2:Nat):Int):=by
 unfold sZ;rw [show (min (1:Int).toNat (IntKind.bits .u64))=1 from by decide,show (2:Int)^1=2 from by decide,Int.fdiv_eq_ediv_of_nonneg _ (by decide),wi (_+_),wu,wi]
 omega
section
variable {σ ρ : Type} {body : σ -> Option (bX σ ρ)}
theorem cU (st:Nat->σ) (n:Nat) (h: ∀i,i<n->body (st i)=some (.next (st (i+1)))):aH body (st 0)=aH body (st n):=by
 induction n with
 |zero=>rfl
 |succ n ih=>
  rw [ih fun i hi=>h i (by omega)]
  exact aV (h n (by omega))
theorem cY (st:Nat->σ) (n:Nat) (c:Nat->Prop) {r e:ρ} (h: ∀i,i<n->(c i->body (st i)=some (.done r))/\(¬c i->body (st i)=some (.next (st (i+1)))))
 (hend:body (st n)=some (.done e)):((∃i,i<n/\c i)->aH body (st 0)=some r)/\((∀i,i<n-> ¬c i)->aH body (st 0)=some e):=by
 constructor
 · rintro ⟨i,hi,hc⟩
   have key: ∀k,k<=n->(∃i,i<n/\n-k<=i/\c i)->aH body (st (n-k))=some r:=by
    intro k
    induction k with
    |zero=>rintro _ ⟨i,h1,h2,_⟩;omega
    |succ k ih=>
     rintro hk ⟨i,h1,h2,h3⟩
     by_cases hc:c (n- (k+1))
     · exact aI ((h _ (by omega)).1 hc)
     · rw [aV ((h _ (by omega)).2 hc),show n- (k+1)+1=n-k by omega]
       refine ih (by omega) ⟨i,h1,?_,h3⟩
       by_cases he:i=n- (k+1)
       · subst he;exact absurd h3 hc
       · omega
   have:=key n (Nat.le_refl n) ⟨i,hi,by omega,hc⟩
   rwa [Nat.sub_self] at this
 · intro hn
   rw [cU st n fun i hi=>(h i hi).2 (hn i hi)]
   exact aI hend
theorem CD {c:Nat->Prop}: ∀{n:Nat},(∃i,i<n/\c i)-> ∃k,k<n/\c k/\ ∀j,j<k-> ¬c j
 |0,h=>by obtain ⟨i,hi,_⟩:=h;omega
 |n+1,h=>by
  by_cases hx: ∃i,i<n/\c i
  · obtain ⟨k,h1,h2,h3⟩:=CD hx
    exact ⟨k,by omega,h2,h3⟩
  · obtain ⟨i,hi,hc⟩:=h
    refine ⟨i,hi,hc,fun j hj hcj=>hx ⟨j,by omega,hcj⟩⟩
theorem lG (st:Nat->σ) (n:Nat) (c:Nat->Prop) (r:Nat->ρ) {e:ρ} (h: ∀i,i<n->(c i->body (st i)=some (.done (r i)))/\(¬c i->body (st i)=some (.next (st (i+1)))))
 (hend:body (st n)=some (.done e)):(∀k,k<n->c k->(∀j,j<k-> ¬c j)->aH body (st 0)=some (r k))/\((∀i,i<n-> ¬c i)->aH body (st 0)=some e):=by
 constructor
 · intro k hk hc hj
   rw [cU st k fun i hi=>(h i (by omega)).2 (hj i hi)]
   exact aI ((h k hk).1 hc)
 · intro hn
   rw [cU st n fun i hi=>(h i hi).2 (hn i hi)]
   exact aI hend
theorem HK (st:Nat->Nat->σ) (n m:Nat) (c:Nat->Prop)
 (h: ∀lo hi,lo<hi->hi<=n->(c ((lo+hi) / 2)->body (st lo hi)=some (.next (st ((lo+hi) / 2+1) hi)))/\(¬c ((lo+hi) / 2)->body (st lo hi)=some (.next (st lo ((lo+hi) / 2)))))
 (h1: ∀i,i<m->c i) (h2: ∀i,m<=i->i<n-> ¬c i): ∀d lo hi,hi-lo<=d->lo<=m->m<=hi->hi<=n->aH body (st lo hi)=aH body (st m m)
 |0,lo,hi,hd,a,b,_=>by
  have e1:lo=m:=by omega
  have e2:hi=m:=by omega
  rw [e1,e2]
 |d+1,lo,hi,hd,a,b,e=>by
  by_cases hl:lo<hi
  · by_cases hc:c ((lo+hi) / 2)
    · rw [aV ((h lo hi hl e).1 hc)]
      refine HK st n m c h h1 h2 d _ _ (by omega) ?_ b e
      refine Classical.byContradiction fun hx=>?_
      exact h2 ((lo+hi) / 2) (by omega) (by omega) hc
    · rw [aV ((h lo hi hl e).2 hc)]
      refine HK st n m c h h1 h2 d _ _ (by omega) a ?_ (by omega)
      refine Classical.byContradiction fun hx=>?_
      exact hc (h1 ((lo+hi) / 2) (by omega))
  · have e1:lo=m:=by omega
    have e2:hi=m:=by omega
    rw [e1,e2]
end
section
variable {α : Type} [Inhabited α]
theorem aB (l:List α) (n:Nat) (h:n<l.length):aJ l (n:Int)=some l[n]!:=by
 show l[n]? =some l[n]!;rw [List.getElem?_eq_getElem h,getElem!_pos l n h]
theorem dK {l:List α} {i:Int} (h0:0<=i) (h:i<l.length):aJ l i=some l[i.toNat]!:=by
 obtain ⟨n,rfl⟩:=Int.eq_ofNat_of_zero_le h0;exact aB l n (by omega)
theorem fX {β:Type} (l:List β) (n:Nat) (a:β):bJ l (n:Int) a=l.set n a:=rfl
theorem bD (l:List α) (n m:Nat) (a:α):(l.set n a)[m]! =if m=n/\n<l.length then a else l[m]!:=by
 by_cases hm:m<l.length
 · rw [getElem!_pos (l.set n a) m (by simpa using hm),getElem!_pos l m hm,List.getElem_set]
   split
   · rw [if_pos (by omega)]
   · rw [if_neg (by omega)]
 · rw [getElem!_neg (l.set n a) m (by simpa using hm),getElem!_neg l m hm]
   split
   · omega
   · rfl
theorem aZ {l:List α} {x:α}:x∈l↔ ∃i,i<l.length/\l[i]! =x:=by
 rw [List.mem_iff_getElem];constructor
 · rintro ⟨i,h,rfl⟩;exact ⟨i,h,getElem!_pos l i h⟩
 · rintro ⟨i,h,rfl⟩;exact ⟨i,h,(getElem!_pos l i h).symm⟩
theorem bE {l:List α} {i:Nat} (h:i<l.length):l[i]!∈l:=aZ.2 ⟨i,h,rfl⟩
theorem mE {l m:List α} {i:Nat} (h:i<l.length):(l++m)[i]! =l[i]!:=by
 rw [getElem!_pos (l++m) i (by simp;omega),getElem!_pos l i h,List.getElem_append_left h]
theorem nC {l m:List α} {i:Nat} (h:l.length<=i):(l++m)[i]! =m[i-l.length]!:=by
 by_cases hi:i<l.length+m.length
 · rw [getElem!_pos (l++m) i (by simp;omega),getElem!_pos m (i-l.length) (by omega),List.getElem_append_right h]
 · rw [getElem!_neg (l++m) i (by simp;omega),getElem!_neg m (i-l.length) (by omega)]
theorem mF {l:List α} {n i:Nat} (h:i<n):(l.take n)[i]! =l[i]!:=by
 by_cases hi:i<l.length
 · rw [getElem!_pos (l.take n) i (by simp;omega),getElem!_pos l i hi,List.getElem_take]
 · rw [getElem!_neg (l.take n) i (by simp;omega),getElem!_neg l i hi]
theorem uZ {l:List α} {n i:Nat}:(l.drop n)[i]! =l[n+i]!:=by
 by_cases hi:n+i<l.length
 · rw [getElem!_pos (l.drop n) i (by simp;omega),getElem!_pos l (n+i) hi,List.getElem_drop]
 · rw [getElem!_neg (l.drop n) i (by simp;omega),getElem!_neg l (n+i) hi]
theorem K8 {l m:List α} (hl:l.length=m.length) (h: ∀i,i<l.length->l[i]! =m[i]!):l=m:=by
 apply List.ext_getElem hl;intro i h1 h2
 have:=h i h1
 rwa [getElem!_pos l i h1,getElem!_pos m i h2] at this
theorem R2 {l:List α} {i:Nat} (h:i<l.length):l=l.take i++l[i]!::l.drop (i+1):=by
 rw [getElem!_pos l i h,List.getElem_cons_drop,List.take_append_drop]
end
theorem aW {α:Type} {l:List α} (h:l.length<=1048576):bO l=some l:=by unfold bO;rw [if_pos h]
theorem fE {α:Type} {l m:List α} (h:l.length+m.length<=1048576):bV l m=some (l++m):=by unfold bV;rw [if_pos h]
@[simp] theorem aC {α β:Type} (a:α) (f:α->Option β):(some a).bind f=f a:=rfl
end Go.Proofs.YtmlghnibpjlchaaGreat
namespace Go.Proofs.YtmlghnibpjlchaaGreat
open Go.Vm Classical
theorem jS {n:Int} (h:AP n):hH n=some (n.natAbs:Int):=by
 unfold hH;simp only [wi,wu]
 by_cases hn:n<0
 · simp only [hn,decide_true,cond_true,Option.some.injEq];omega
 · simp only [hn,decide_false,cond_false,Option.some.injEq];omega
theorem qG {n:Int} (h:AP n):mB n=some (n.natAbs:Int):=by
 unfold mB;simp only [wu]
 by_cases hn:n<0
 · simp only [hn,decide_true,cond_true,Option.some.injEq];omega
 · simp only [hn,decide_false,cond_false,Option.some.injEq];omega
theorem rJ (m n:Nat):pW m n=some (Nat.gcd m n:Int):=by
 unfold pW
 induction n using Nat.strongRecOn generalizing m with
 |ind n ih=>
  by_cases h0:n=0
  · subst h0
    rw [Nat.gcd_zero_right];exact aI (by simp [oG])
  · have e:oG ((m:Int),(n:Int))=some (.next ((n:Int),((m%n:Nat):Int))):=by
     have h1:((n:Int) !=0)=true:=by simp;omega
     have h2:((n:Int)==0)=false:=by simp;omega
     simp only [oG,h1,h2,cond_true,cond_false,Int.ofNat_tmod]
    rw [aV e,ih (m%n) (Nat.mod_lt _ (by omega)) n,Nat.gcd_comm m n,Nat.gcd_rec n m,Nat.gcd_comm]
theorem D0 (m n:Nat):yW m n=some (Nat.gcd m n:Int):=by
 unfold yW
 induction n using Nat.strongRecOn generalizing m with
 |ind n ih=>
  by_cases h0:n=0
  · subst h0
    rw [Nat.gcd_zero_right];exact aI (by simp [uN])
  · have e:uN ((m:Int),(n:Int))=some (.next ((n:Int),((m%n:Nat):Int))):=by
     have h1:decide (0<(n:Int))=true:=by simp;omega
     have h2:((n:Int)==0)=false:=by simp;omega
     simp only [uN,h1,h2,cond_true,cond_false,Int.ofNat_tmod]
    rw [aV e,ih (m%n) (Nat.mod_lt _ (by omega)) n,Nat.gcd_comm m n,Nat.gcd_rec n m,Nat.gcd_comm]
def cE (r:Int×Int):Prop:=1<=r.2/\r.1≠ -9223372036854775808/\Nat.gcd r.2.natAbs r.1.natAbs=1
abbrev qK (r:Int×Int):Prop:=AP r.1/\AP r.2
theorem gP {r:Int×Int} (h:qK r):iG r=some (if cE r then 0 else 8):=by
 obtain ⟨a,b⟩:=r;obtain ⟨ha,hb⟩:=h;unfold iG cE;dsimp only at ha hb ⊢
 by_cases h1:b<1
 · rw [if_neg (by omega)];simp [h1]
 · by_cases h2:a= -9223372036854775808
   · rw [if_neg (by omega)];simp [h1,h2]
   · have e2:(a== -9223372036854775808)=false:=by simpa using h2
     have e3:aA .u64 b=(b.natAbs:Int):=by rw [wu];omega
     simp only [h1,decide_false,cond_false,e2,qG ha,aC,e3,D0];have hp:0<Nat.gcd b.natAbs a.natAbs:=Nat.gcd_pos_of_pos_left _ (by omega)
     by_cases h3:Nat.gcd b.natAbs a.natAbs=1
     · rw [if_pos ⟨by omega,h2,h3⟩,h3];rfl
     · rw [if_neg (fun h=>h3 h.2.2)]
       have:decide (1<(Nat.gcd b.natAbs a.natAbs:Int))=true:=by simp;omega
       rw [this];rfl
theorem CE {r:Int×Int} (h:qK r):tL r=some (if cE r then 0 else 8):=by
 obtain ⟨a,b⟩:=r;obtain ⟨ha,hb⟩:=h;unfold tL cE;dsimp only at ha hb ⊢
 by_cases h1:b<1
 · rw [if_neg (by omega)];simp [h1]
 · by_cases h2:a= -9223372036854775808
   · rw [if_neg (by omega)];simp [h1,h2]
   · have e2:(a== -9223372036854775808)=false:=by simpa using h2
     have e3:aA .u64 b=(b.natAbs:Int):=by rw [wu];omega
     simp only [h1,decide_false,cond_false,e2,jS ha,aC,e3,rJ];rw [Nat.gcd_comm]
     by_cases h3:Nat.gcd b.natAbs a.natAbs=1
     · rw [if_pos ⟨by omega,h2,h3⟩,h3];rfl
     · rw [if_neg (fun h=>h3 h.2.2)]
       have:((Nat.gcd b.natAbs a.natAbs:Int) !=1)=true:=by simp;omega
       rw [this];rfl
theorem aAW (x y:Int) (hx:U64 x) (hy:U64 y): ∃p q r s:Int,0<=p/\p<=18446744065119617025/\0<=q/\q<=18446744065119617025/\0<=r/\r<=18446744065119617025/\0<=s/\s<=18446744065119617025/\
 x / 4294967296*(y / 4294967296)=p/\x / 4294967296*(y%4294967296)=q/\x%4294967296*(y / 4294967296)=r/\x%4294967296*(y%4294967296)=s/\
 x*y=p*18446744073709551616+(q+r)*4294967296+s:=by
 have hx1:0<=x / 4294967296/\x / 4294967296<=4294967295:=by omega
 have hx0:0<=x%4294967296/\x%4294967296<=4294967295:=by omega
 have hy1:0<=y / 4294967296/\y / 4294967296<=4294967295:=by omega
 have hy0:0<=y%4294967296/\y%4294967296<=4294967295:=by omega
 have ex:x=x / 4294967296*4294967296+x%4294967296:=by omega
 have ey:y=y / 4294967296*4294967296+y%4294967296:=by omega
 generalize x / 4294967296=a at*;generalize x%4294967296=b at*;generalize y / 4294967296=c at*;generalize y%4294967296=d at*;have bd: ∀{u v:Int},0<=u/\u<=4294967295->0<=v/\v<=4294967295->0<=u*v/\u*v<=18446744065119617025:=by
  intro u v hu hv;refine ⟨Int.mul_nonneg hu.1 hv.1,?_⟩
  calc u*v<=4294967295*4294967295:=Int.mul_le_mul hu.2 hv.2 hv.1 (by decide)
   _=_:=by decide
 refine ⟨a*c,a*d,b*c,b*d,(bd hx1 hy1).1,(bd hx1 hy1).2,(bd hx1 hy0).1,(bd hx1 hy0).2,(bd hx0 hy1).1,(bd hx0 hy1).2,(bd hx0 hy0).1,(bd hx0 hy0).2,rfl,rfl,rfl,rfl,?_⟩;rw [ex,ey]
 grind
theorem K9 {x y:Int} (hx:U64 x) (hy:U64 y):jC x y=some (x*y / 18446744073709551616,x*y%18446744073709551616):=by
 unfold jC;obtain ⟨p,q,r,s,p0,p1,q0,q1,r0,r1,s0,s1,ep,eq,er,es,exy⟩:=aAW x y hx hy;have key: ∀z:Int,IW .u64 (z%18446744073709551616) 4294967295=z%18446744073709551616%4294967296:=fun z=>UJ (by constructor<;>omega)
 simp only [aNk,UJ hx,UJ hy,wu,key,ep,eq,er,es,exy,Option.some.injEq,Prod.mk.injEq,and_true];clear ep eq er es exy key hx hy;have e1:s%18446744073709551616=s:=by omega
 have e2:(q+s / 4294967296)%18446744073709551616=q+s / 4294967296:=by omega
 have ep:p%18446744073709551616=p:=by omega
 have eq:q%18446744073709551616=q:=by omega
 have er:r%18446744073709551616=r:=by omega
 rw [e1,ep,eq,er,e2];have e3:s=s / 4294967296*4294967296+s%4294967296:=by omega
 have e4:q+s / 4294967296=(q+s / 4294967296) / 4294967296*4294967296+(q+s / 4294967296)%4294967296:=by omega
 have b1:0<=s%4294967296/\s%4294967296<4294967296:=by omega
 have b2:0<=(q+s / 4294967296)%4294967296/\(q+s / 4294967296)%4294967296<4294967296:=by omega
 have b3:0<=(q+s / 4294967296) / 4294967296/\(q+s / 4294967296) / 4294967296<=4294967295:=by omega
 have b4:0<=s / 4294967296/\s / 4294967296<=4294967295:=by omega
 generalize (q+s / 4294967296) / 4294967296=t1 at*;generalize (q+s / 4294967296)%4294967296=t0 at*;generalize s / 4294967296=c1 at*;generalize s%4294967296=c0 at*;clear e1 e2;have e5:(t0+r)%18446744073709551616=t0+r:=by omega
 rw [e5];have e6:t0+r=(t0+r) / 4294967296*4294967296+(t0+r)%4294967296:=by omega
 have b5:0<=(t0+r)%4294967296/\(t0+r)%4294967296<4294967296:=by omega
 have b6:0<=(t0+r) / 4294967296/\(t0+r) / 4294967296<=4294967295:=by omega
 generalize (t0+r) / 4294967296=u1 at*;generalize (t0+r)%4294967296=u0 at*;omega
theorem UK {x y:Int} (hx:U64 x) (hy:U64 y):sD x y=some (false,x*y / 18446744073709551616,x*y%18446744073709551616):=by
 unfold sD;obtain ⟨p,q,r,s,p0,p1,q0,q1,r0,r1,s0,s1,ep,eq,er,es,exy⟩:=aAW x y hx hy;have t1: ∀a:Int,0<=a->Int.tdiv a 4294967296=a / 4294967296:=fun a h=>Int.tdiv_eq_ediv_of_nonneg h
 have t2: ∀a:Int,0<=a->Int.tmod a 4294967296=a%4294967296:=fun a h=>Int.tmod_eq_emod_of_nonneg h
 simp only [wu];rw [t1 x hx.1,t1 y hy.1,t2 x hx.1,t2 y hy.1];have f1:x / 4294967296%18446744073709551616=x / 4294967296:=by omega
 have f2:y / 4294967296%18446744073709551616=y / 4294967296:=by omega
 simp only [f1,f2,ep,eq,er,es];have g: ∀a:Int,Int.tdiv (a%18446744073709551616) 4294967296=a%18446744073709551616 / 4294967296:=fun a=>t1 _ (by omega)
 have g2: ∀a:Int,Int.tmod (a%18446744073709551616) 4294967296=a%18446744073709551616%4294967296:=fun a=>t2 _ (by omega)
 simp only [g,g2,exy,Option.some.injEq,Prod.mk.injEq,true_and];constructor<;>omega
abbrev B64 (a:Bool×Int×Int):Prop:=U64 a.2.1/\U64 a.2.2
theorem DC {n:Int} (h:AP n):U64 (n.natAbs:Int):=by constructor<;>omega
theorem DD {n:Int} (h:AP n):(n.natAbs:Int)<=9223372036854775808:=by omega
theorem F9 (a b:Int):((a.natAbs:Int)*(b.natAbs:Int))=((a*b).natAbs:Int):=by rw [Int.natAbs_mul];rfl
theorem vX {a b:Int} (ha:AP a) (hb:AP b):((a*b).natAbs:Int)<=85070591730234615865843651857942052864:=by
 rw [<- F9]
 calc (a.natAbs:Int)*(b.natAbs:Int)<=9223372036854775808*9223372036854775808:=Int.mul_le_mul (DD ha) (DD hb) (by omega) (by decide)
  _=_:=by decide
theorem AQ {a b:Int} (ha:AP a) (hb:AP b):
 jQ a b=some (decide (a*b<0),((a*b).natAbs:Int) / 18446744073709551616,((a*b).natAbs:Int)%18446744073709551616):=by
 unfold jQ;simp only [jS ha,jS hb,aC,UK (DC ha) (DC hb),F9];have hs:(a*b<0)↔((a<0/\0<b)\/(0<a/\b<0)):=by
  constructor
  · intro h
    rcases Int.lt_trichotomy a 0 with h1|h1|h1
    · rcases Int.lt_trichotomy b 0 with h2|h2|h2
      · have:=Int.mul_pos_of_neg_of_neg h1 h2;omega
      · subst h2;simp at h
      · exact .inl ⟨h1,h2⟩
    · subst h1;simp at h
    · rcases Int.lt_trichotomy b 0 with h2|h2|h2
      · exact .inr ⟨h1,h2⟩
      · subst h2;simp at h
      · have:=Int.mul_pos h1 h2;omega
  · rintro (⟨h1,h2⟩|⟨h1,h2⟩)
    · exact Int.mul_neg_of_neg_of_pos h1 h2
    · exact Int.mul_neg_of_pos_of_neg h1 h2
 have hd:decide (a*b<0)=decide ((a<0/\0<b)\/(0<a/\b<0)):=by simp only [hs]
 rw [hd];clear hd hs;generalize ((a*b).natAbs:Int)=z
 by_cases h1:a<0
 · have h1': ¬0<a:=by omega
   have h1'':(a !=0)=true:=eJ (by omega)
   by_cases h2:b<0
   · have h2': ¬0<b:=by omega
     simp [h1,h2,h1',h2']
   · by_cases h3:b=0
     · simp [h1,h3,h1'']
     · have h3':0<b:=by omega
       simp [h1,h2,h3',h1'',eJ h3]
 · by_cases h0:a=0
   · subst h0
     by_cases h2:b<0<;>simp [h2]
   · have h1':0<a:=by omega
     by_cases h2:b<0
     · have h2':(b !=0)=true:=eJ (by omega)
       simp [h1,h2,h1',eJ h0,h2']
     · simp [h1,h2,h1']
theorem R3 {a b:Int} (ha:AP a) (hb:AP b):
 tG a b=some (!(decide (a<0)==decide (b<0)),((a*b).natAbs:Int) / 18446744073709551616,((a*b).natAbs:Int)%18446744073709551616):=by
 unfold tG;simp only [qG ha,qG hb,aC,K9 (DC ha) (DC hb),F9]
def jZ (a b:Int):Int:=if a<b then -1 else if b<a then 1 else 0
theorem D1 (a b:Int):jI a b=some (jZ a b):=by
 unfold jI oF jZ
 by_cases h1:a<b<;>by_cases h2:b<a<;>simp [h1,h2]
theorem MH (a b:Int):iQ a b=some (jZ a b):=by
 unfold iQ nJ jZ
 by_cases h1:a<b<;>by_cases h2:b<a<;>simp [h1,h2]
theorem kU (a b:Int):fA a b=some (jZ a b):=by
 unfold fA rY jZ
 by_cases h1:a<b<;>by_cases h2:b<a<;>simp [h1,h2]
theorem fY (a b:Int):(a<b/\jZ a b= -1)\/(a=b/\jZ a b=0)\/(b<a/\jZ a b=1):=by
 unfold jZ
 by_cases h1:a<b
 · exact .inl ⟨h1,by rw [if_pos h1]⟩
 · by_cases h2:b<a
   · exact .inr (.inr ⟨h2,by rw [if_neg h1,if_pos h2]⟩)
   · exact .inr (.inl ⟨by omega,by rw [if_neg h1,if_neg h2]⟩)
theorem O9 (a b:Bool×Int×Int) (ha:B64 a) (hb:B64 b):rF a b=some (jZ (a.2.1*18446744073709551616+a.2.2) (b.2.1*18446744073709551616+b.2.2)):=by
 obtain ⟨s,ah,al⟩:=a;obtain ⟨t,bh,bl⟩:=b;obtain ⟨⟨a1,a2⟩,a3,a4⟩:=ha;obtain ⟨⟨b1,b2⟩,b3,b4⟩:=hb;dsimp only at*;unfold rF jZ;dsimp only
 by_cases h1:ah=bh
 · subst h1
   by_cases h2:al=bl
   · subst h2;simp
   · by_cases h3:al<bl
     · simp [eJ h2,h3]
     · rw [if_neg (by omega),if_pos (by omega)];simp [eJ h2,h3]
 · by_cases h3:ah<bh
   · rw [if_pos (by omega)];simp [eJ h1,h3]
   · rw [if_neg (by omega),if_pos (by omega)];simp [eJ h1,h3]
theorem UL (a b:Bool×Int×Int) (ha:B64 a) (hb:B64 b):rX a b=some (jZ (a.2.1*18446744073709551616+a.2.2) (b.2.1*18446744073709551616+b.2.2)):=by
 obtain ⟨s,ah,al⟩:=a;obtain ⟨t,bh,bl⟩:=b;obtain ⟨⟨a1,a2⟩,a3,a4⟩:=ha;obtain ⟨⟨b1,b2⟩,b3,b4⟩:=hb;dsimp only at*;unfold rX;simp only [MH,aC];unfold jZ
 by_cases h1:ah=bh
 · subst h1
   by_cases h3:al<bl
   · simp [h3]
   · by_cases h2:bl<al
     · rw [if_neg (show¬(ah*18446744073709551616+al<ah*18446744073709551616+bl) by omega),if_pos (show ah*18446744073709551616+bl<ah*18446744073709551616+al by omega)];simp [h2,h3]
     · have:al=bl:=by omega
       subst this;simp
 · by_cases h3:ah<bh
   · rw [if_pos (show ah*18446744073709551616+al<bh*18446744073709551616+bl by omega)];simp [h3]
   · rw [if_neg (show¬(ah*18446744073709551616+al<bh*18446744073709551616+bl) by omega),if_pos (show bh*18446744073709551616+bl<ah*18446744073709551616+al by omega)];simp [h3,show bh<ah by omega]
theorem xI (a:Bool) {n:Int} (h0:0<=n) (h:n<=85070591730234615865843651857942052864):B64 (a,n / 18446744073709551616,n%18446744073709551616):=by
 constructor<;>constructor<;>dsimp only<;>omega
theorem PA {n:Int} (h:(n.natAbs:Int)<=85070591730234615865843651857942052864):lP (decide (n<0),(n.natAbs:Int) / 18446744073709551616,(n.natAbs:Int)%18446744073709551616)=some (jZ n 0):=by
 unfold lP jZ;dsimp only
 by_cases h0:n=0
 · subst h0;simp
 · by_cases h1:n<0
   · rw [if_pos h1]
     by_cases h2:(n.natAbs:Int) / 18446744073709551616=0
     · have h3: ¬((n.natAbs:Int)%18446744073709551616=0):=by omega
       simp [h1,h2,fI h3]
     · simp [h1,fI h2]
   · rw [if_neg h1,if_pos (by omega)]
     by_cases h2:(n.natAbs:Int) / 18446744073709551616=0
     · have h3: ¬((n.natAbs:Int)%18446744073709551616=0):=by omega
       simp [h1,h2,fI h3]
     · simp [h1,fI h2]
def EZ (a b:Int×Int):Int:=jZ (a.1*b.2) (b.1*a.2)
theorem LA {a b:Int×Int} (ha:qK a) (hb:qK b):sE a b=some (EZ a b):=by
 unfold sE EZ;have n1:=vX ha.1 hb.2;have n2:=vX hb.1 ha.2;simp only [AQ ha.1 hb.2,AQ hb.1 ha.2,aC,PA n1,PA n2];generalize a.1*b.2=x at*;generalize b.1*a.2=y at*;rw [O9 _ _ (xI _ (by omega) n1) (xI _ (by omega) n2),O9 _ _ (xI _ (by omega) n2) (xI _ (by omega) n1)]
 have ex:((x.natAbs:Int) / 18446744073709551616)*18446744073709551616+(x.natAbs:Int)%18446744073709551616=(x.natAbs:Int):=by omega
 have ey:((y.natAbs:Int) / 18446744073709551616)*18446744073709551616+(y.natAbs:Int)%18446744073709551616=(y.natAbs:Int):=by omega
 simp only [ex,ey,aC];rcases fY x 0 with ⟨h1,e1⟩|⟨h1,e1⟩|⟨h1,e1⟩<;>rcases fY y 0 with ⟨h2,e2⟩|⟨h2,e2⟩|⟨h2,e2⟩<;>rw [e1,e2]<;>simp<;>
  unfold jZ<;>(repeat' split)<;>first|rfl|omega
theorem aHB {a b:Int×Int} (ha:qK a) (hb:qK b):AE a b=some (if cE a/\cE b then 0 else 8):=by
 unfold AE;simp only [gP ha,gP hb,aC]
 by_cases h1:cE a<;>by_cases h2:cE b<;>simp [h1,h2]
theorem aAX {a b:Int×Int} (ha:qK a) (hb:qK b):C3 a b=some (if cE a/\cE b then (EZ a b,0) else (0,8)):=by
 unfold C3;rw [aHB ha hb]
 by_cases h:cE a/\cE b
 · rw [if_pos h,if_pos h]
   obtain ⟨⟨a1,a2,a3⟩,b1,b2,b3⟩:=h;have n1:=vX ha.1 hb.2;have n2:=vX hb.1 ha.2;simp only [aC,D1,R3 ha.1 hb.2,R3 hb.1 ha.2];rw [UL _ _ (xI _ (by omega) n1) (xI _ (by omega) n2)]
   have ex:((a.1*b.2).natAbs:Int) / 18446744073709551616*18446744073709551616+((a.1*b.2).natAbs:Int)%18446744073709551616=((a.1*b.2).natAbs:Int):=by omega
   have ey:((b.1*a.2).natAbs:Int) / 18446744073709551616*18446744073709551616+((b.1*a.2).natAbs:Int)%18446744073709551616=((b.1*a.2).natAbs:Int):=by omega
   simp only [ex,ey,aC];unfold EZ;have s1:(a.1<0↔a.1*b.2<0):=by
    constructor
    · intro h;exact Int.mul_neg_of_neg_of_pos h (by omega)
    · intro h;rcases lt_or_ge a.1 0 with h1|h1
      · exact h1
      · have:=Int.mul_nonneg h1 (show 0<=b.2 by omega);omega
   have s2:(b.1<0↔b.1*a.2<0):=by
    constructor
    · intro h;exact Int.mul_neg_of_neg_of_pos h (by omega)
    · intro h;rcases lt_or_ge b.1 0 with h1|h1
      · exact h1
      · have:=Int.mul_nonneg h1 (show 0<=a.2 by omega);omega
   generalize a.1*b.2=x at*;generalize b.1*a.2=y at*
   by_cases h1:a.1<0<;>by_cases h2:b.1<0
   · have h3:=s1.1 h1;have h4:=s2.1 h2
     have:aA .i64 (-jZ (x.natAbs:Int) (y.natAbs:Int))=jZ x y:=by
      rw [wi];unfold jZ;(repeat' split)<;>omega
     simp [h1,h2,this]
   · have h3:=s1.1 h1;have h4: ¬y<0:=fun h=>h2 (s2.2 h)
     have:jZ a.1 b.1=jZ x y:=by unfold jZ;(repeat' split)<;>omega
     simp [h1,h2,this]
   · have h3: ¬x<0:=fun h=>h1 (s1.2 h);have h4:=s2.1 h2
     have:jZ a.1 b.1=jZ x y:=by unfold jZ;(repeat' split)<;>omega
     simp [h1,h2,this]
   · have h3: ¬x<0:=fun h=>h1 (s1.2 h);have h4: ¬y<0:=fun h=>h2 (s2.2 h)
     have:jZ (x.natAbs:Int) (y.natAbs:Int)=jZ x y:=by unfold jZ;(repeat' split)<;>omega
     simp [h1,h2,this]
 · rw [if_neg h,if_neg h];rfl
end Go.Proofs.YtmlghnibpjlchaaGreat
namespace Go.Proofs.YtmlghnibpjlchaaGreat
open Go.Vm Classical
abbrev Pt:=Int×Int×Int
def hY (p:Pt):Prop:=0<=p.1/\p.1<=65535/\ -1048576<=p.2.1/\p.2.1<=1048576/\ -1048576<=p.2.2/\p.2.2<=1048576
theorem BD (p:Pt):nI p=some (if hY p then 0 else 8):=by
 obtain ⟨i,a,b⟩:=p;unfold nI pP hY;dsimp only
 by_cases h1:i<0
 · rw [if_neg (by omega)];simp [h1]
 by_cases h2:65535<i
 · rw [if_neg (by omega)];simp [h1,h2]
 by_cases h3:a< -1048576
 · rw [if_neg (by omega)];simp [h1,h2,h3]
 by_cases h4:1048576<a
 · rw [if_neg (by omega)];simp [h1,h2,h3,h4]
 by_cases h5:b< -1048576
 · rw [if_neg (by omega)];simp [h1,h2,h3,h4,h5]
 by_cases h6:1048576<b
 · rw [if_neg (by omega)];simp [h1,h2,h3,h4,h5,h6]
 rw [if_pos (by omega)];simp [h1,h2,h3,h4,h5,h6]
theorem LB (p:Pt):xB p=some (if hY p then 0 else 8):=by
 obtain ⟨i,a,b⟩:=p;unfold xB hY;dsimp only
 by_cases h1:i<0
 · rw [if_neg (by omega)];simp [h1]
 by_cases h2:65535<i
 · rw [if_neg (by omega)];simp [h1,h2]
 by_cases h3:a< -1048576
 · rw [if_neg (by omega)];simp [h1,h2,h3]
 by_cases h4:1048576<a
 · rw [if_neg (by omega)];simp [h1,h2,h3,h4]
 by_cases h5:b< -1048576
 · rw [if_neg (by omega)];simp [h1,h2,h3,h4,h5]
 by_cases h6:1048576<b
 · rw [if_neg (by omega)];simp [h1,h2,h3,h4,h5,h6]
 rw [if_pos (by omega)];simp [h1,h2,h3,h4,h5,h6]
theorem yY {x y:Int} (hx:AP x) (hy:AP y): -85070591730234615865843651857942052864<=x*y/\x*y<=85070591730234615865843651857942052864:=by
 have:=vX hx hy;omega
theorem aIg {x y:Int} (hx:AP x) (hy:AP y):(x%18446744073709551616)*(y%18446744073709551616)=x*y+(if x<0 then y else 0)*18446744073709551616+(if y<0 then x else 0)*18446744073709551616+(if x<0/\y<0 then 340282366920938463463374607431768211456 else 0):=by
 by_cases h1:x<0<;>by_cases h2:y<0
 · have e1:x%18446744073709551616=x+18446744073709551616:=by omega
   have e2:y%18446744073709551616=y+18446744073709551616:=by omega
   rw [e1,e2,if_pos h1,if_pos h2,if_pos ⟨h1,h2⟩];grind
 · have e1:x%18446744073709551616=x+18446744073709551616:=by omega
   have e2:y%18446744073709551616=y:=by omega
   rw [e1,e2,if_pos h1,if_neg h2,if_neg (fun h=>h2 h.2)];grind
 · have e1:x%18446744073709551616=x:=by omega
   have e2:y%18446744073709551616=y+18446744073709551616:=by omega
   rw [e1,e2,if_neg h1,if_pos h2,if_neg (fun h=>h1 h.1)];grind
 · have e1:x%18446744073709551616=x:=by omega
   have e2:y%18446744073709551616=y:=by omega
   rw [e1,e2,if_neg h1,if_neg h2,if_neg (fun h=>h1 h.1)];grind
theorem R4 {a b:Int} (ha:0<=a) (hb:0<=b):qY a b 0=some ((a+b)%18446744073709551616,(a+b) / 18446744073709551616):=by
 unfold qY;simp [ha,hb]
theorem aAY {a b c d u v:Int} (ha:AP a) (hb:AP b):nY (a,b,c,d,0,u,v,0,0)=some (.next (a,b,c,d,1,u,v,a*b / 18446744073709551616,a*b%18446744073709551616)):=by
 unfold nY;have hm:=K9 (x:=aA .u64 a) (y:=aA .u64 b) (by rw [wu];constructor<;>omega) (by rw [wu];constructor<;>omega)
 have hb2:=yY ha hb;have hu:=aIg ha hb;simp only [hm,aC];simp only [wu,hu];generalize a*b=x at*
 by_cases h1:a<0<;>by_cases h2:b<0
 all_goals
  simp only [h1,h2,decide_true,decide_false,cond_true,cond_false,if_true,if_false,and_self,and_false,false_and];rw [R4 (by omega) (by omega)]
  simp only [wi,aC,show decide ((0:Int)<2)=true from rfl,cond_true,show ((0:Int)==0)=true from rfl,Option.some.injEq,bX.next.injEq,Prod.mk.injEq,true_and]
  refine ⟨by omega,?_,?_⟩<;>omega
theorem aAZ {a b c d u v h l:Int} (hc:AP c) (hd:AP d) (hl:U64 l)
 (_hh: -9223372036854775808<=h/\h<9223372036854775808) (hs: -170141183460469231731687303715884105728<=h*18446744073709551616+l+c*d/\h*18446744073709551616+l+c*d<170141183460469231731687303715884105728):
 nY (a,b,c,d,1,u,v,h,l)=some (.next (a,b,c,d,2,u,v,(h*18446744073709551616+l+c*d) / 18446744073709551616,(h*18446744073709551616+l+c*d)%18446744073709551616)):=by
 unfold nY;have hm:=K9 (x:=aA .u64 c) (y:=aA .u64 d) (by rw [wu];constructor<;>omega) (by rw [wu];constructor<;>omega)
 have hb2:=yY hc hd;have hu:=aIg hc hd;simp only [hm,aC];simp only [wu,hu];generalize c*d=x at*
 by_cases h1:c<0<;>by_cases h2:d<0
 all_goals
  simp only [h1,h2,decide_true,decide_false,cond_true,cond_false,if_true,if_false,and_self,and_false,false_and];rw [R4 (by omega) (by omega)]
  simp only [wi,aC,show decide ((1:Int)<2)=true from rfl,cond_true,cond_false,show ((1:Int)==0)=false from rfl,show ((1:Int)==1)=true from rfl,Option.some.injEq,bX.next.injEq,Prod.mk.injEq,true_and]
  refine ⟨by omega,?_,?_⟩<;>omega
theorem MI {a b c d:Int} (ha:AP a) (hb:AP b) (hc:AP c) (hd:AP d) (hs: -170141183460469231731687303715884105728<=a*b+c*d/\a*b+c*d<170141183460469231731687303715884105728):
 AF (a,b,c,d)=some ((a*b+c*d) / 18446744073709551616,(a*b+c*d)%18446744073709551616):=by
 unfold AF;dsimp only;have hb2:=yY ha hb;have e:a*b / 18446744073709551616*18446744073709551616+a*b%18446744073709551616+c*d=a*b+c*d:=by omega
 rw [aV (aAY ha hb),aV (aAZ hc hd (by constructor<;>omega) (by constructor<;>omega) (by rw [e];exact hs)),e]
 exact aI rfl
def NG (p q:Pt) (t:Int×Int):Int:=(p.2.1-q.2.1)*t.2+(p.2.2-q.2.2)*t.1
def bQ (p q:Pt) (t:Int×Int):Prop:=0<NG p q t\/(NG p q t=0/\(q.2.2<p.2.2\/(p.2.2=q.2.2/\p.1<q.1)))
def UM (p q:Pt) (t:Int×Int):Int:=if NG p q t<0 then -1 else if 0<NG p q t then 1 else if p.2.2<q.2.2 then -1 else if q.2.2<p.2.2 then 1 else jZ q.1 p.1
theorem LC (p q:Pt) (t:Int×Int):0<UM p q t↔bQ p q t:=by
 unfold UM bQ
 by_cases h1:NG p q t<0
 · rw [if_pos h1];omega
 · by_cases h2:0<NG p q t
   · rw [if_neg h1,if_pos h2];simp [h2]
   · rw [if_neg h1,if_neg h2]
     by_cases h3:p.2.2<q.2.2
     · rw [if_pos h3];omega
     · by_cases h4:q.2.2<p.2.2
       · rw [if_neg h3,if_pos h4];omega
       · rw [if_neg h3,if_neg h4]
         rcases fY q.1 p.1 with ⟨h,e⟩|⟨h,e⟩|⟨h,e⟩<;>rw [e]<;>omega
theorem DE (a b:Int):vN [a,b]=some (if a≠0 then a else b):=by
 unfold vN
 by_cases h1:a=0
 · subst h1
   rw [aV (y:=(0,[0,b],2,1)) (by rfl)]
   by_cases h2:b=0
   · subst h2
     rw [aV (y:=(0,[0,0],2,2)) (by rfl)]
     exact aI rfl
   · refine (aI (r:=b) ?_).trans (by simp)
     have e:xS (0,[0,b],2,1)=(bif b !=0 then some (.done b) else some (.next (0,[0,b],2,aA .i64 (1+1)))):=rfl
     rw [e,eJ h2];rfl
 · refine (aI (r:=a) ?_).trans (by simp [h1])
   have e:xS (0,[a,b],Int.ofNat [a,b].length,0)=(bif a !=0 then some (.done a) else some (.next (0,[a,b],Int.ofNat [a,b].length,aA .i64 (0+1)))):=rfl
   rw [e,eJ h1];rfl
theorem aA0 {p q:Pt} {t:Int×Int} (hp:hY p) (hq:hY q) (ht:qK t):AP (p.2.1-q.2.1)/\AP (p.2.2-q.2.2)/\ -170141183460469231731687303715884105728<=NG p q t/\NG p q t<170141183460469231731687303715884105728:=by
 obtain ⟨a1,a2,a3,a4,a5,a6⟩:=hp;obtain ⟨b1,b2,b3,b4,b5,b6⟩:=hq;have h1:AP (p.2.1-q.2.1):=by constructor<;>omega
 have h2:AP (p.2.2-q.2.2):=by constructor<;>omega
 refine ⟨h1,h2,?_⟩;have k: ∀{x y:Int},-2097152<=x/\x<=2097152->AP y-> -19342813113834066795298816<=x*y/\x*y<=19342813113834066795298816:=by
  intro x y hx hy
  have:((x*y).natAbs:Int)<=2097152*9223372036854775808:=by
   rw [<- F9];exact Int.mul_le_mul (by omega) (DD hy) (by omega) (by decide)
  omega
 have k1:=k (x:=p.2.1-q.2.1) (by omega) ht.2
 have k2:=k (x:=p.2.2-q.2.2) (by omega) ht.1
 unfold NG;omega
theorem xJ {p q:Pt} {t:Int×Int} (hp:hY p) (hq:hY q) (ht:qK t):mR p q t=some (UM p q t):=by
 obtain ⟨g1,g2,g3⟩:=aA0 hp hq ht;unfold mR;rw [jW g1,jW g2,MI g1 ht.2 g2 ht.1 g3];simp only [aC,D1,kU,DE];rw [show (p.2.1-q.2.1)*t.2+(p.2.2-q.2.2)*t.1=NG p q t from rfl];unfold UM;generalize NG p q t=n at*
 by_cases h1:n<0
 · have e1:(n / 18446744073709551616==0)=false:=by simp;omega
   have e2:decide (n / 18446744073709551616<0)=true:=by simp;omega
   rw [if_pos h1];simp [e1,e2]
 · by_cases h2:0<n
   · have e1:((n / 18446744073709551616==0)&&(n%18446744073709551616==0))=false:=by simp;omega
     have e2:decide (n / 18446744073709551616<0)=false:=by simp;omega
     rw [if_neg h1,if_pos h2];simp only [e1,e2,Bool.not_false,cond_true,cond_false]
   · have:n=0:=by omega
     subst this;rw [if_neg h1,if_neg h2];unfold jZ
     by_cases h3:p.2.2<q.2.2
     · simp [h3]
     · by_cases h4:q.2.2<p.2.2
       · simp [h3,h4]
       · simp [h3,h4]
theorem aHC {x y:Int} (hx: -85070591730234615865843651857942052864<=x/\x<=85070591730234615865843651857942052864) (hy: -85070591730234615865843651857942052864<=y/\y<=85070591730234615865843651857942052864):
 AI (decide (x<0),(x.natAbs:Int) / 18446744073709551616,(x.natAbs:Int)%18446744073709551616) (decide (y<0),(y.natAbs:Int) / 18446744073709551616,(y.natAbs:Int)%18446744073709551616)=
  some (decide (x+y<0),((x+y).natAbs:Int) / 18446744073709551616,((x+y).natAbs:Int)%18446744073709551616):=by
 have n1:(x.natAbs:Int)<=85070591730234615865843651857942052864:=by omega
 have n2:(y.natAbs:Int)<=85070591730234615865843651857942052864:=by omega
 unfold AI;rw [O9 _ _ (xI _ (by omega) n1) (xI _ (by omega) n2)]
 have ex:((x.natAbs:Int) / 18446744073709551616)*18446744073709551616+(x.natAbs:Int)%18446744073709551616=(x.natAbs:Int):=by omega
 have ey:((y.natAbs:Int) / 18446744073709551616)*18446744073709551616+(y.natAbs:Int)%18446744073709551616=(y.natAbs:Int):=by omega
 simp only [ex,ey,aC];have same: ∀{X Y Z:Int},0<=X->0<=Y->X<=85070591730234615865843651857942052864->Y<=85070591730234615865843651857942052864->Z=X+Y-> ∀b:Bool,
  (bif decide (aA .u64 (X%18446744073709551616+Y%18446744073709551616)<X%18446744073709551616) then some (b,aA .u64 (aA .u64 (X / 18446744073709551616+Y / 18446744073709551616)+1),aA .u64 (X%18446744073709551616+Y%18446744073709551616))
   else some (b,aA .u64 (X / 18446744073709551616+Y / 18446744073709551616),aA .u64 (X%18446744073709551616+Y%18446744073709551616)))=some (b,Z / 18446744073709551616,Z%18446744073709551616):=by
  intro X Y Z h1 h2 h3 h4 h5 b;subst h5;simp only [wu]
  by_cases h:(X%18446744073709551616+Y%18446744073709551616)%18446744073709551616<X%18446744073709551616
  · simp only [h,decide_true,cond_true,Option.some.injEq,Prod.mk.injEq,true_and];constructor<;>omega
  · simp only [h,decide_false,cond_false,Option.some.injEq,Prod.mk.injEq,true_and];constructor<;>omega
 have minus: ∀{X Y Z:Int} (b c:Bool),0<=X->0<=Y->X<=85070591730234615865843651857942052864->Y<=X->Z=X-Y->tP (b,X / 18446744073709551616,X%18446744073709551616) (c,Y / 18446744073709551616,Y%18446744073709551616)=some (false,Z / 18446744073709551616,Z%18446744073709551616):=by
  intro X Y Z b c h1 h2 h3 h4 h5;subst h5;unfold tP;simp only [wu]
  by_cases h:X%18446744073709551616<Y%18446744073709551616
  · simp only [h,decide_true,cond_true,Option.some.injEq,Prod.mk.injEq,true_and];constructor<;>omega
  · simp only [h,decide_false,cond_false,Option.some.injEq,Prod.mk.injEq,true_and];constructor<;>omega
 by_cases h1:x<0<;>by_cases h2:y<0
 · have h3:x+y<0:=by omega
   simp only [h1,h2,h3,decide_true,beq_self_eq_true,cond_true];exact same (by omega) (by omega) n1 n2 (by omega) true
 · simp only [h1,h2,decide_true,decide_false,show (true==false)=false from rfl,cond_false,cond_true]
   by_cases h3:(y.natAbs:Int)<=(x.natAbs:Int)
   · have e:decide (0<=jZ (x.natAbs:Int) (y.natAbs:Int))=true:=by
      rcases fY (x.natAbs:Int) (y.natAbs:Int) with ⟨h,e⟩|⟨h,e⟩|⟨h,e⟩<;>rw [e]<;>first|rfl|omega
     rw [e,minus (Z:=((x+y).natAbs:Int)) _ _ (by omega) (by omega) n1 h3 (by omega)]
     simp only [cond_true,aC]
     by_cases h4:x+y=0
     · rw [h4];rfl
     · have h5:x+y<0:=by omega
       by_cases h6:0<((x+y).natAbs:Int) / 18446744073709551616
       · simp [h5,h6]
       · have h7:0<((x+y).natAbs:Int)%18446744073709551616:=by omega
         simp only [h5,h6,h7,decide_true,decide_false,cond_false]
   · have e:decide (0<=jZ (x.natAbs:Int) (y.natAbs:Int))=false:=by
      rcases fY (x.natAbs:Int) (y.natAbs:Int) with ⟨h,e⟩|⟨h,e⟩|⟨h,e⟩<;>rw [e]<;>first|rfl|omega
     rw [e,minus (Z:=((x+y).natAbs:Int)) _ _ (by omega) (by omega) n2 (by omega) (by omega)]
     have h5: ¬(x+y<0):=by omega
     simp [h5]
 · simp only [h1,h2,decide_true,decide_false,show (false==true)=false from rfl,cond_false]
   by_cases h3:(y.natAbs:Int)<=(x.natAbs:Int)
   · have e:decide (0<=jZ (x.natAbs:Int) (y.natAbs:Int))=true:=by
      rcases fY (x.natAbs:Int) (y.natAbs:Int) with ⟨h,e⟩|⟨h,e⟩|⟨h,e⟩<;>rw [e]<;>first|rfl|omega
     rw [e,minus (Z:=((x+y).natAbs:Int)) _ _ (by omega) (by omega) n1 h3 (by omega)]
     have h5: ¬(x+y<0):=by omega
     simp [h5]
   · have e:decide (0<=jZ (x.natAbs:Int) (y.natAbs:Int))=false:=by
      rcases fY (x.natAbs:Int) (y.natAbs:Int) with ⟨h,e⟩|⟨h,e⟩|⟨h,e⟩<;>rw [e]<;>first|rfl|omega
     rw [e,minus (Z:=((x+y).natAbs:Int)) _ _ (by omega) (by omega) n2 (by omega) (by omega)]
     have h5:x+y<0:=by omega
     simp [h5]
 · have h3: ¬(x+y<0):=by omega
   simp only [h1,h2,h3,decide_false,beq_self_eq_true,cond_true];exact same (by omega) (by omega) n1 n2 (by omega) false
theorem aNl {p q:Pt} {t:Int×Int} (hp:hY p) (hq:hY q) (ht:qK t):C9 p q t=some (jZ (NG p q t) 0):=by
 obtain ⟨g1,g2,g3⟩:=aA0 hp hq ht;unfold C9;rw [jW g1,jW g2,AQ g1 ht.2,AQ g2 ht.1];simp only [aC];rw [aHC (yY g1 ht.2) (yY g2 ht.1)];simp only [aC];rw [show (p.2.1-q.2.1)*t.2+(p.2.2-q.2.2)*t.1=NG p q t from rfl];obtain ⟨a1,a2,a3,a4,a5,a6⟩:=hp;obtain ⟨b1,b2,b3,b4,b5,b6⟩:=hq
 have k: ∀{x y:Int},-2097152<=x/\x<=2097152->AP y-> -19342813113834066795298816<=x*y/\x*y<=19342813113834066795298816:=by
  intro x y hx hy
  have:((x*y).natAbs:Int)<=2097152*9223372036854775808:=by
   rw [<- F9];exact Int.mul_le_mul (by omega) (DD hy) (by omega) (by decide)
  omega
 have k1:=k (x:=p.2.1-q.2.1) (by omega) ht.2
 have k2:=k (x:=p.2.2-q.2.2) (by omega) ht.1
 have:((NG p q t).natAbs:Int)<=85070591730234615865843651857942052864:=by unfold NG;omega
 rw [PA this];rfl
theorem LD {p q:Pt} {t:Int×Int} (hp:hY p) (hq:hY q) (ht:qK t):pD p q t=some (decide (bQ p q t)):=by
 unfold pD bQ;rw [aNl hp hq ht];simp only [aC];rcases fY (NG p q t) 0 with ⟨h,e⟩|⟨h,e⟩|⟨h,e⟩<;>rw [e]
 · have h1: ¬(0<NG p q t):=by omega
   have h2: ¬(NG p q t=0):=by omega
   simp [h1,h2]
 · rw [h]
   by_cases h3:p.2.2=q.2.2
   · simp [h3]
   · simp [h3,eJ h3]
 · simp [h]
theorem xY {p q:Pt} {t:Int×Int} (ht:qK t):rB p q t=some (if hY p/\hY q/\cE t then (if p.1=q.1 then 2 else 0) else 8):=by
 unfold rB;simp only [BD,gP ht,aC]
 by_cases h4:p.1=q.1
 · by_cases h1:hY p<;>by_cases h2:hY q<;>by_cases h3:cE t<;>simp [h1,h2,h3,h4]
 · have h5:=fI h4
   by_cases h1:hY p<;>by_cases h2:hY q<;>by_cases h3:cE t<;>simp [h1,h2,h3,h4,h5]
theorem aHD {n d:Int} (hn:AP n) (hd:AP d):AG n d=mX n d:=by
 unfold AG mX
 by_cases h0:d=0
 · subst h0;rfl
 · have e0:(d==0)=false:=by simpa using h0
   simp only [e0,cond_false,qG hn,qG hd,jS hn,jS hd,aC,D0,rJ];have hp:0<Nat.gcd n.natAbs d.natAbs:=Nat.gcd_pos_of_pos_right _ (by omega)
   have e1:((Nat.gcd n.natAbs d.natAbs:Int)==0)=false:=by simp;omega
   simp only [e1,cond_false];unfold B9 rG;simp only [show decide ((0:Int)<0)=false from rfl,cond_false]
   by_cases h3:n=0
   · subst h3
     have z: ∀k:Int,aA .u64 (Int.tdiv (((0:Int).natAbs:Nat):Int) k)=0:=fun k=>by
      rw [show (((0:Int).natAbs:Nat):Int)=0 from rfl,Int.zero_tdiv];rfl
     have z2:aA .i64 0=0:=rfl;have z3:aA .i64 (0-0)=0:=rfl;simp only [z,z2,z3,show ((0:Int) !=0)=false from rfl,cond_false,show decide ((0:Int)<0)=false from rfl];cases (!(false==decide (d<0)))<;>simp
   · simp only [eJ h3]
     cases (!(decide (n<0)==decide (d<0)))<;>rfl
noncomputable def met (p q:Pt):Int×Int:=((mX (p.2.1-q.2.1) (q.2.2-p.2.2)).getD ((0,0),0)).1
theorem UN {n d:Int} (hn: -2097152<=n/\n<=2097152) (hd: -2097152<=d/\d<=2097152) (h0:d≠0): ∃r,mX n d=some (r,0)/\cE r/\qK r/\r.1*d=n*r.2:=by
 have hn':AP n:=by constructor<;>omega
 have hd':AP d:=by constructor<;>omega
 unfold mX;have e0:(d==0)=false:=by simpa using h0
 have hp:0<Nat.gcd n.natAbs d.natAbs:=Nat.gcd_pos_of_pos_right _ (by omega)
 have e1:((Nat.gcd n.natAbs d.natAbs:Int)==0)=false:=by simp;omega
 simp only [e0,cond_false,jS hn',jS hd',aC,rJ,e1];have q1:Int.tdiv (n.natAbs:Int) (Nat.gcd n.natAbs d.natAbs:Int)=((n.natAbs / Nat.gcd n.natAbs d.natAbs:Nat):Int):=by
  rw [Int.ofNat_tdiv]
 have q2:Int.tdiv (d.natAbs:Int) (Nat.gcd n.natAbs d.natAbs:Int)=((d.natAbs / Nat.gcd n.natAbs d.natAbs:Nat):Int):=by
  rw [Int.ofNat_tdiv]
 rw [q1,q2];have l1:n.natAbs / Nat.gcd n.natAbs d.natAbs<=2097152:=Nat.le_trans (Nat.div_le_self _ _) (by omega)
 have l2:d.natAbs / Nat.gcd n.natAbs d.natAbs<=2097152:=Nat.le_trans (Nat.div_le_self _ _) (by omega)
 have l3:1<=d.natAbs / Nat.gcd n.natAbs d.natAbs:=Nat.div_pos (Nat.le_of_dvd (by omega) (Nat.gcd_dvd_right _ _)) hp
 have co:Nat.gcd (d.natAbs / Nat.gcd n.natAbs d.natAbs) (n.natAbs / Nat.gcd n.natAbs d.natAbs)=1:=by
  rw [Nat.gcd_comm,Nat.gcd_div (Nat.gcd_dvd_left _ _) (Nat.gcd_dvd_right _ _)];exact Nat.div_self hp
 have v1:n.natAbs=Nat.gcd n.natAbs d.natAbs*(n.natAbs / Nat.gcd n.natAbs d.natAbs):=(Nat.mul_div_cancel' (Nat.gcd_dvd_left _ _)).symm;have v2:d.natAbs=Nat.gcd n.natAbs d.natAbs*(d.natAbs / Nat.gcd n.natAbs d.natAbs):=(Nat.mul_div_cancel' (Nat.gcd_dvd_right _ _)).symm
 have val:(n.natAbs:Int)*((d.natAbs / Nat.gcd n.natAbs d.natAbs:Nat):Int)=(d.natAbs:Int)*((n.natAbs / Nat.gcd n.natAbs d.natAbs:Nat):Int):=by
  generalize n.natAbs / Nat.gcd n.natAbs d.natAbs=a at*;generalize d.natAbs / Nat.gcd n.natAbs d.natAbs=b at*;generalize Nat.gcd n.natAbs d.natAbs=g at*;rw [v1,v2,Int.natCast_mul,Int.natCast_mul,Int.mul_assoc,Int.mul_assoc,Int.mul_comm (a:Int) (b:Int)]
 clear v1 v2;generalize n.natAbs / Nat.gcd n.natAbs d.natAbs=a at*;generalize d.natAbs / Nat.gcd n.natAbs d.natAbs=b at*;have w1:aA .u64 (a:Int)=a:=by rw [wu];omega
 have w2:aA .u64 (b:Int)=b:=by rw [wu];omega
 have made: ∀s:Bool,rG s (false,0,(a:Int)) (false,0,(b:Int))=some ((if s=true then -(a:Int) else a,(b:Int)),0):=by
  intro s;unfold rG;have d1:decide (9223372036854775807<(a:Int))=false:=by simp;omega
  have d2:decide (9223372036854775807<(b:Int))=false:=by simp;omega
  have v1:aA .i64 (a:Int)=a:=by rw [wi];omega
  have v2:aA .i64 (b:Int)=b:=by rw [wi];omega
  have v3:aA .i64 (0- (a:Int))= -(a:Int):=by rw [wi];omega
  simp only [show decide ((0:Int)<0)=false from rfl,cond_false,d1,d2,v1,v2,v3];cases s<;>simp
 have fin: ∀s:Bool,(if s=true then -(a:Int) else a)*d=n*b-> ∃r,(some ((if s=true then -(a:Int) else a,(b:Int)),(0:Int)):Option ((Int×Int)×Int))=some (r,0)/\cE r/\qK r/\r.1*d=n*r.2:=by
  intro s hv;refine ⟨_,rfl,?_,?_,hv⟩
  · unfold cE
    dsimp only;refine ⟨by omega,?_,?_⟩
    · cases s
      · simp only [Bool.false_eq_true,if_false];omega
      · simp only [if_true];omega
    · rw [show (if s=true then -(a:Int) else (a:Int)).natAbs=a by cases s<;>simp,show ((b:Int)).natAbs=b by omega];exact co
  · constructor
    · dsimp only;cases s
      · simp only [Bool.false_eq_true,if_false];constructor<;>omega
      · simp only [if_true];constructor<;>omega
    · dsimp only;constructor<;>omega
 simp only [w1,w2,made,aC]
 by_cases h1:(!(decide (n<0)==decide (d<0)))=true
 · rw [h1]
   refine fin (n !=0) ?_
   by_cases hn0:n=0
   · subst hn0
     have a0:(a:Int)=0:=by
      have:((d.natAbs:Nat):Int)*(a:Int)=0:=by rw [<- val];simp
      rcases Int.mul_eq_zero.1 this with h|h
      · omega
      · exact h
     simp [a0]
   · have e:(n !=0)=true:=by simpa using hn0
     rw [e,if_pos rfl]
     by_cases hneg:n<0
     · have hd0: ¬d<0:=fun k=>by simp [hneg,k] at h1
       have x1:(n.natAbs:Int)= -n:=by omega
       have x2:(d.natAbs:Int)=d:=by omega
       rw [x1,x2,Int.neg_mul] at val;rw [Int.neg_mul,Int.mul_comm];omega
     · have hd0:d<0:=by
        by_cases k:d<0
        · exact k
        · simp [hneg,k] at h1
       have x1:(n.natAbs:Int)=n:=by omega
       have x2:(d.natAbs:Int)= -d:=by omega
       rw [x1,x2,Int.neg_mul] at val;rw [Int.neg_mul,Int.mul_comm];omega
 · rw [Bool.not_eq_true] at h1;rw [h1]
   refine fin false ?_;rw [if_neg (by simp)]
   by_cases hneg:n<0
   · have hd0:d<0:=by
      by_cases k:d<0
      · exact k
      · simp [hneg,k] at h1
     have x1:(n.natAbs:Int)= -n:=by omega
     have x2:(d.natAbs:Int)= -d:=by omega
     rw [x1,x2,Int.neg_mul,Int.neg_mul] at val;rw [Int.mul_comm];omega
   · have hd0: ¬d<0:=fun k=>by simp [hneg,k] at h1
     have x1:(n.natAbs:Int)=n:=by omega
     have x2:(d.natAbs:Int)=d:=by omega
     rw [x1,x2] at val;rw [Int.mul_comm];omega
theorem UO {p q:Pt} (hp:hY p) (hq:hY q) (h:p.2.2≠q.2.2):mX (p.2.1-q.2.1) (q.2.2-p.2.2)=some (met p q,0)/\cE (met p q)/\qK (met p q)/\(met p q).1*(q.2.2-p.2.2)=(p.2.1-q.2.1)*(met p q).2:=by
 obtain ⟨a1,a2,a3,a4,a5,a6⟩:=hp;obtain ⟨b1,b2,b3,b4,b5,b6⟩:=hq;obtain ⟨r,h1,h2,h3⟩:=UN (n:=p.2.1-q.2.1) (d:=q.2.2-p.2.2) (by omega) (by omega) (by omega)
 have:met p q=r:=by unfold met;rw [h1];rfl
 rw [this];exact ⟨h1,h2,h3⟩
theorem NH {p q:Pt} (hp:hY p) (hq:hY q):aA .i64 (p.2.1-q.2.1)=p.2.1-q.2.1/\aA .i64 (q.2.2-p.2.2)=q.2.2-p.2.2/\AP (p.2.1-q.2.1)/\AP (q.2.2-p.2.2):=by
 obtain ⟨a1,a2,a3,a4,a5,a6⟩:=hp;obtain ⟨b1,b2,b3,b4,b5,b6⟩:=hq;have h1:AP (p.2.1-q.2.1):=by constructor<;>omega
 have h2:AP (q.2.2-p.2.2):=by constructor<;>omega
 exact ⟨jW h1,jW h2,h1,h2⟩
noncomputable def D2 (h l:Pt) (t:Int×Int):(Int×Int)×Bool:=if bQ l h t then (t,true) else if h.2.2<l.2.2 then (met h l,true) else ((0,0),false)
theorem aNm {p q:Pt} (hp:hY p) (hq:hY q) (h:p.2.2≠q.2.2):DA p q=some (met p q):=by
 obtain ⟨w1,w2,_,_⟩:=NH hp hq;unfold DA;rw [w1,w2,(UO hp hq h).1];rfl
theorem UP {h l:Pt} {t:Int×Int} (hh:hY h) (hl:hY l) (ht:qK t):sF h l t=some (D2 h l t):=by
 unfold sF D2;rw [LD hl hh ht];simp only [aC]
 by_cases h1:bQ l h t
 · simp [h1]
 · simp only [h1,decide_false,cond_false,if_false]
   by_cases h2:h.2.2<l.2.2
   · simp [h2,aNm hh hl (by omega)]
   · simp [h2]
theorem aA1:cE (0,1):=by unfold cE;decide
theorem IY {h l:Pt} {t:Int×Int} (ht:qK t):
 uO h l t=some (if hY h/\hY l/\cE t/\h.1≠l.1 then ((D2 h l t).1,(D2 h l t).2,0) else ((0,0),false,if hY h/\hY l/\cE t then 2 else 8)):=by
 unfold uO;rw [xY ht]
 by_cases h1:hY h/\hY l/\cE t
 · rw [if_pos h1]
   by_cases h2:h.1=l.1
   · simp [h1,h2]
   · obtain ⟨hh,hl,hr⟩:=h1
     rw [if_neg h2,if_pos ⟨hh,hl,hr,h2⟩];simp only [aC,show ((0:Int) !=0)=false from rfl,cond_false,xJ hl hh ht];unfold D2
     by_cases h3:bQ l h t
     · have:decide (0<UM l h t)=true:=by simpa using (LC l h t).2 h3
       rw [this];simp [h3]
     · have:decide (0<UM l h t)=false:=decide_eq_false fun k=>h3 ((LC l h t).1 k)
       rw [this,if_neg h3];simp only [cond_false]
       by_cases h4:h.2.2<l.2.2
       · have e:decide (l.2.2<=h.2.2)=false:=by simp;omega
         rw [e,if_pos h4];unfold CA;obtain ⟨w1,w2,i1,i2⟩:=NH hh hl;have e2:(h.2.2==l.2.2)=false:=by simp;omega
         rw [xY (by constructor<;>constructor<;>decide),if_pos ⟨hh,hl,aA1⟩,if_neg h2]
         simp only [aC,show ((0:Int) !=0)=false from rfl,cond_false,e2,w1,w2,aHD i1 i2,(UO hh hl (by omega)).1]
         rfl
       · have e:decide (l.2.2<=h.2.2)=true:=by simp;omega
         rw [e,if_neg h4];rfl
 · rw [if_neg h1,if_neg (fun h=>h1 ⟨h.1,h.2.1,h.2.2.1⟩),if_neg h1];rfl
theorem LE {h l:Pt} {t:Int×Int} (hh:hY h) (hl:hY l) (ht:qK t) (hr:cE t) (h2:(D2 h l t).2=true):cE (D2 h l t).1/\qK (D2 h l t).1:=by
 unfold D2 at*
 by_cases h3:bQ l h t
 · rw [if_pos h3];exact ⟨hr,ht⟩
 · rw [if_neg h3] at h2 ⊢
   by_cases h4:h.2.2<l.2.2
   · rw [if_pos h4];have:=(UO hh hl (by omega)).2;exact ⟨this.1,this.2.1⟩
   · rw [if_neg h4] at h2;cases h2
end Go.Proofs.YtmlghnibpjlchaaGreat
namespace Go.Proofs.YtmlghnibpjlchaaGreat
open Go.Vm Classical
theorem BE {p q:Pt} {t:Int×Int} (hp:hY p) (hq:hY q) (ht:qK t) (hr:cE t):iE p q t=some (decide (bQ p q t),if p.1=q.1 then 2 else 0)\/(p.1=q.1/\iE p q t=some (false,2)):=by
 unfold iE;rw [xY ht,if_pos ⟨hp,hq,hr⟩]
 by_cases h:p.1=q.1
 · right;simp [h]
 · left
   simp only [h,if_false,aC,xJ hp hq ht]
   have:decide (0<UM p q t)=decide (bQ p q t):=by simp only [LC]
   simp [this]
end Go.Proofs.YtmlghnibpjlchaaGreat
namespace Go.Proofs.YtmlghnibpjlchaaGreat
open Go.Vm Classical
theorem UQ: ∀(n:Nat) (l:List Nat),l.Nodup->(∀x∈l,x<n)->l.length<=n
 |0,l,_,h=>by
  cases l with
  |nil=>simp
  |cons a l=>exact absurd (h a (by simp)) (by omega)
 |n+1,l,hd,h=>by
  have h1:=UQ n (l.filter (fun x=>x≠n)) (hd.filter _) (by
   intro x hx;rw [List.mem_filter] at hx
   have:=h x hx.1
   have h2:x≠n:=by simpa using hx.2
   omega)
  have h2:l.length<=(l.filter (fun x=>x≠n)).length+1:=by
   clear h1 h
   induction l with
   |nil=>simp
   |cons a l ih=>
    rw [List.nodup_cons] at hd
    have:=ih hd.2
    by_cases ha:a=n
    · subst ha
      have e:l.filter (fun x=>decide (x≠a))=l:=by
       rw [List.filter_eq_self];intro x hx;simp only [ne_eq,decide_eq_true_eq];rintro rfl;exact hd.1 hx
      rw [List.filter_cons_of_neg (by simp),e];simp
    · rw [List.filter_cons_of_pos (by simpa using ha)]
      simp only [List.length_cons];omega
  omega
theorem IH {n:Nat} {l:List Nat} (hd:l.Nodup) (h: ∀x∈l,x<n) (hn:n<=l.length): ∀x,x<n->x∈l:=by
 intro x hx;refine Classical.byContradiction fun hc=>?_
 have:=UQ n (x::l) (by rw [List.nodup_cons];exact ⟨hc,hd⟩) (by
  intro y hy;rcases List.mem_cons.1 hy with rfl|hy
  · exact hx
  · exact h y hy)
 simp only [List.length_cons] at this;omega
def kV (l:List Pt):Prop:= ∀i,i+1<l.length->(l[i]!).1<(l[i+1]!).1
def cB (l:List Pt):Prop:=l.length<=64/\(∀p∈l,hY p)/\kV l
noncomputable def vY (l:List Pt):Int:=if 64<l.length then 4 else if¬(∀p∈l,hY p) then 8 else if¬kV l then 32 else 0
theorem gQ {l:List Pt}:vY l=0↔cB l:=by
 unfold vY cB
 by_cases h1:64<l.length
 · rw [if_pos h1];simp;omega
 · rw [if_neg h1]
   by_cases h2: ∀p∈l,hY p
   · rw [if_neg (Classical.not_not.2 h2)]
     by_cases h3:kV l
     · rw [if_neg (Classical.not_not.2 h3)]
       exact ⟨fun _=>⟨by omega,h2,h3⟩,fun _=>rfl⟩
     · rw [if_pos h3]
       exact ⟨fun h=>(by cases h),fun h=>absurd h.2.2 h3⟩
   · rw [if_pos h2]
     constructor
     · intro h;cases h
     · intro h;exact absurd h.2.1 h2
theorem bA {n:Nat} (h:n<1000000000):aA .i64 ((n:Int)+1)=((n+1:Nat):Int):=by rw [wi];omega
theorem uU {n:Nat} (h:n<1000000000) (h1:1<=n):aA .i64 ((n:Int) -1)=((n-1:Nat):Int):=by rw [wi];omega
theorem aE (n:Nat):Int.ofNat n=(n:Int):=rfl
theorem R5 (l:List Pt) (h:l.length<=64):aH iS (1,l)=some (.done (if kV l then 0 else 32)):=by
 by_cases hl:l.length<=1
 · have:kV l:=fun i hi=>by omega
   rw [if_pos this];refine aI ?_;unfold iS;rw [aE]
   have:decide ((1:Int)<(l.length:Int))=false:=by simp;omega
   simp [this]
 · have key:=cY (body:=iS) (fun i=>(((i+1:Nat):Int),l)) (l.length-1) (fun i=>(l[i+1]!).1<=(l[i]!).1) (r:= .done 32) (e:= .done 0) (by
    intro i hi;have e1:decide (((i+1:Nat):Int)<(l.length:Int))=true:=by simp;omega
    have e2:aA .i64 (((i+1:Nat):Int) -1)=(i:Int):=by rw [wi];omega
    have hb:iS (((i+1:Nat):Int),l)=bif decide ((l[i+1]!).1<=(l[i]!).1) then some (.done (.done 32)) else some (.next (((i+1+1:Nat):Int),l)):=by
     unfold iS;simp only [aE,e1,cond_true,e2,aB l i (by omega),aB l (i+1) (by omega),aC,bA (show i+1<1000000000 by omega)]
    constructor
    · intro hc;rw [hb,decide_eq_true hc];rfl
    · intro hc;rw [hb,decide_eq_false hc];rfl) (by
    unfold iS
    have:decide (((l.length-1+1:Nat):Int)<Int.ofNat l.length)=false:=by rw [aE];simp;omega
    simp only [this,cond_false])
   by_cases hs:kV l
   · rw [if_pos hs]
     refine key.2 fun i hi=>?_
     have:=hs i (by omega)
     omega
   · rw [if_neg hs]
     refine key.1 ?_;unfold kV at hs;simp only [Classical.not_forall] at hs;obtain ⟨i,hi,h2⟩:=hs;exact ⟨i,by omega,by omega⟩
theorem vZ (f:Field):mW f=some (vY f.points):=by
 unfold mW vY;rw [aE]
 by_cases h:64<f.points.length
 · have:decide ((64:Int)<(f.points.length:Int))=true:=by simp;omega
   rw [this,if_pos h];rfl
 · have:decide ((64:Int)<(f.points.length:Int))=false:=by simp;omega
   rw [this,if_neg h];simp only [cond_false];generalize f.points=l at*;have key:=cY (body:=mV) (fun i=>((i:Int),l)) l.length (fun i=> ¬hY l[i]!) (r:=8) (e:=if kV l then 0 else 32) (by
    intro i hi;have e1:decide ((i:Int)<(l.length:Int))=true:=by simp;omega
    have hb:mV ((i:Int),l)=bif (if hY l[i]! then (0:Int) else 8) !=0 then some (.done 8) else some (.next (((i+1:Nat):Int),l)):=by
     unfold mV;simp only [aE,e1,cond_true,aB l i (by omega),aC,LB,bA (show i<1000000000 by omega)]
    constructor
    · intro hc;rw [hb,if_neg hc];rfl
    · intro hc;rw [hb,if_pos (Classical.not_not.1 hc)];rfl) (by
    unfold mV
    have:decide ((l.length:Int)<Int.ofNat l.length)=false:=by rw [aE];simp
    simp only [this,cond_false];exact R5 l (by omega))
   by_cases hp: ∀p∈l,hY p
   · rw [if_neg (Classical.not_not.2 hp)]
     refine (key.2 fun i hi=>?_).trans ?_
     · exact Classical.not_not.2 (hp _ (bE hi))
     · by_cases hs:kV l
       · simp [hs]
       · simp [hs]
   · rw [if_pos hp]
     refine key.1 ?_;obtain ⟨p,hp⟩:=Classical.not_forall.1 hp;obtain ⟨hm,h2⟩:=Classical.not_imp.1 hp;obtain ⟨i,hi,rfl⟩:=aZ.1 hm;exact ⟨i,hi,h2⟩
theorem R6 (l:List Pt) (h:l.length<=64):aH iP (l,(l.length:Int),0,l)=some (.done (if kV l then 0 else 32)):=by
 have key:=cY (body:=iP) (fun i=>(l,(l.length:Int),(i:Int),l)) l.length (fun i=>0<i/\(l[i]!).1<=(l[i-1]!).1) (r:= .done 32) (e:= .done 0) (by
  intro i hi;have e1:decide ((i:Int)<(l.length:Int))=true:=by simp;omega
  by_cases h0:0<i
  · have e3:decide ((0:Int)<(i:Int))=true:=by simp;omega
    have hb:iP (l,(l.length:Int),(i:Int),l)=bif decide ((l[i]!).1<=(l[i-1]!).1) then some (.done (.done 32)) else some (.next (l,(l.length:Int),((i+1:Nat):Int),l)):=by
     unfold iP;simp only [e1,e3,cond_true,aB l i (by omega),uU (show i<1000000000 by omega) h0,aB l (i-1) (by omega),aC,bA (show i<1000000000 by omega)]
    constructor
    · intro hc;rw [hb,decide_eq_true hc.2];rfl
    · intro hc
      have: ¬(l[i]!).1<=(l[i-1]!).1:=fun h=>hc ⟨h0,h⟩
      rw [hb,decide_eq_false this];rfl
  · have e3:decide ((0:Int)<(i:Int))=false:=by simp;omega
    constructor
    · intro hc;exact absurd hc.1 h0
    · intro _
      unfold iP;simp only [e1,e3,cond_true,cond_false,aB l i (by omega),aC,bA (show i<1000000000 by omega)]) (by
  unfold iP
  have:decide ((l.length:Int)<(l.length:Int))=false:=by simp
  simp only [this,cond_false])
 by_cases hs:kV l
 · rw [if_pos hs]
   refine key.2 fun i hi=>?_
   rintro ⟨h0,h1⟩
   have:=hs (i-1) (by omega)
   rw [show i-1+1=i by omega] at this
   omega
 · rw [if_neg hs]
   refine key.1 ?_;unfold kV at hs;simp only [Classical.not_forall] at hs;obtain ⟨i,hi,h2⟩:=hs;exact ⟨i+1,by omega,by omega,by rw [show i+1-1=i by omega];omega⟩
theorem iU (f:Field):fF f=some (vY f.points):=by
 unfold fF vY;rw [aE]
 by_cases h:64<f.points.length
 · have:decide ((64:Int)<(f.points.length:Int))=true:=by simp;omega
   rw [this,if_pos h];rfl
 · have:decide ((64:Int)<(f.points.length:Int))=false:=by simp;omega
   rw [this,if_neg h];simp only [cond_false];generalize f.points=l at*;have key:=cY (body:=mQ) (fun i=>(l,(l.length:Int),(i:Int),l)) l.length (fun i=> ¬hY l[i]!) (r:=8) (e:=if kV l then 0 else 32) (by
    intro i hi;have e1:decide ((i:Int)<(l.length:Int))=true:=by simp;omega
    have hb:mQ (l,(l.length:Int),(i:Int),l)=bif (if hY l[i]! then (0:Int) else 8) !=0 then some (.done (if hY l[i]! then (0:Int) else 8)) else some (.next (l,(l.length:Int),((i+1:Nat):Int),l)):=by
     unfold mQ;simp only [e1,cond_true,aB l i (by omega),aC,BD,bA (show i<1000000000 by omega)]
    constructor
    · intro hc;rw [hb,if_neg hc];rfl
    · intro hc;rw [hb,if_pos (Classical.not_not.1 hc)];rfl) (by
    unfold mQ
    have:decide ((l.length:Int)<(l.length:Int))=false:=by simp
    simp only [this,cond_false];exact R6 l (by omega))
   by_cases hp: ∀p∈l,hY p
   · rw [if_neg (Classical.not_not.2 hp)]
     refine (key.2 fun i hi=>?_).trans ?_
     · exact Classical.not_not.2 (hp _ (bE hi))
     · by_cases hs:kV l
       · simp [hs]
       · simp [hs]
   · rw [if_pos hp]
     refine key.1 ?_;obtain ⟨p,hp⟩:=Classical.not_forall.1 hp;obtain ⟨hm,h2⟩:=Classical.not_imp.1 hp;obtain ⟨i,hi,rfl⟩:=aZ.1 hm;exact ⟨i,hi,h2⟩
theorem jE {l:List Pt} (h:kV l) {i j:Nat} (hij:i<j) (hj:j<l.length):(l[i]!).1<(l[j]!).1:=by
 induction j with
 |zero=>omega
 |succ j ih=>
  have h1:=h j hj
  by_cases he:i=j
  · subst he;exact h1
  · have:=ih (by omega) (by omega);omega
theorem LF {l:List Pt} (h:kV l) {i j:Nat} (hi:i<l.length) (hj:j<l.length) (he:(l[i]!).1=(l[j]!).1):i=j:=by
 rcases Nat.lt_trichotomy i j with h1|h1|h1
 · have:=jE h h1 hj;omega
 · exact h1
 · have:=jE h h1 hi;omega
theorem II (l:List Pt) (id:Int) (hl:l.length<=1000000):(∀k,k<l.length->(l[k]!).1=id->(∀j,j<k->(l[j]!).1≠id)->gD ⟨l⟩ id=some (k:Int))/\((∀k,k<l.length->(l[k]!).1≠id)->gD ⟨l⟩ id=some (-1)):=by
 unfold gD;refine lG (body:=tN) (fun i=>(id,(i:Int),l)) l.length (fun i=>(l[i]!).1=id) (fun i=>(i:Int)) (fun i hi=>?_) ?_
 · have e1:decide ((i:Int)<(l.length:Int))=true:=by simp;omega
   have hb:tN (id,(i:Int),l)=bif (l[i]!).1==id then some (.done (i:Int)) else some (.next (id,((i+1:Nat):Int),l)):=by
    unfold tN;simp only [aE,e1,cond_true,aB l i hi,aC,bA (show i<1000000000 by omega)]
   constructor
   · intro hc;rw [hb,fZ hc];rfl
   · intro hc;rw [hb,fI hc];rfl
 · unfold tN
   have:decide ((l.length:Int)<(l.length:Int))=false:=by simp
   simp only [aE,this,cond_false]
theorem NI {l:List Pt} (hs:kV l) (hl:l.length<=1000000) {k:Nat} (hk:k<l.length) {id:Int} (he:(l[k]!).1=id):gD ⟨l⟩ id=some (k:Int):=by
 refine (II l id hl).1 k hk he fun j hj hc=>?_
 have:=jE hs hj hk
 omega
theorem aHF {l:List Pt} (hl:l.length<=1000000) {id:Int} (h: ∀k,k<l.length->(l[k]!).1≠id):gD ⟨l⟩ id=some (-1):=(II l id hl).2 h
theorem R7 (f:Nat->Int) (id:Int): ∀(n:Nat),(∀i j,i<j->j<n->f i<f j)-> ∃m,m<=n/\(∀i,i<m->f i<id)/\(∀i,m<=i->i<n->id<=f i)
 |0,_=>⟨0,Nat.le_refl _,fun i h=>by omega,fun i _ h=>by omega⟩
 |n+1,h=>by
  obtain ⟨m,h1,h2,h3⟩:=R7 f id n fun i j a b=>h i j a (by omega)
  by_cases hm:m=n
  · by_cases hf:f n<id
    · refine ⟨n+1,Nat.le_refl _,fun i hi=>?_,fun i a b=>by omega⟩
      by_cases he:i=n
      · subst he;exact hf
      · exact h2 i (by omega)
    · refine ⟨n,by omega,fun i hi=>h2 i (by omega),fun i a b=>?_⟩
      have:i=n:=by omega
      subst this;omega
  · refine ⟨m,by omega,h2,fun i a b=>?_⟩
    by_cases he:i=n
    · subst he
      have:=h m i (by omega) (by omega)
      have:=h3 m (Nat.le_refl _) (by omega)
      omega
    · exact h3 i a (by omega)
end Go.Proofs.YtmlghnibpjlchaaGreat
namespace Go.Proofs.YtmlghnibpjlchaaGreat
open Go.Vm Classical
theorem cP {α:Type} [Inhabited α] {l:List α}:l.Nodup↔ ∀i j,i<j->j<l.length->l[i]!≠l[j]!:=by
 unfold List.Nodup;rw [List.pairwise_iff_getElem];constructor
 · intro h i j hij hj
   rw [getElem!_pos l i (by omega),getElem!_pos l j hj]
   exact h i j (by omega) hj hij
 · intro h i j hi hj hij
   have:=h i j hij hj
   rwa [getElem!_pos l i hi,getElem!_pos l j hj] at this
theorem cF {α:Type} [Inhabited α] {l:List α} {k:Nat} {x:α}:x∈l.take k↔ ∃i,i<k/\i<l.length/\l[i]! =x:=by
 rw [aZ];constructor
 · rintro ⟨i,hi,rfl⟩
   rw [List.length_take] at hi;exact ⟨i,by omega,by omega,(mF (by omega)).symm⟩
 · rintro ⟨i,h1,h2,rfl⟩
   exact ⟨i,by rw [List.length_take];omega,mF h1⟩
theorem iV {α:Type} [Inhabited α] {l:List α} {k:Nat} (h:k<l.length):l.take (k+1)=l.take k++[l[k]!]:=by
 rw [List.take_add_one,List.getElem?_eq_getElem h,getElem!_pos l k h];rfl
def fJ (l:List Bool):List Int->List Bool
 | []=>l
 |x::r=>fJ (bJ l x true) r
theorem nN: ∀(r:List Int) (l:List Bool),(fJ l r).length=l.length
 | [],_=>rfl
 |x::r,l=>by rw [fJ,nN r,BW]
theorem E0: ∀(r:List Int) (l:List Bool) (x:Int),fJ l (r++[x])=bJ (fJ l r) x true
 | [],_,_=>rfl
 |y::r,l,x=>by
  show fJ (bJ l y true) (r++[x])=_;rw [E0 r];rfl
theorem pG : ∀ (r : List Int) (l : List Bool) (i : Nat), (∀ x ∈ r, 0 <= x) -> i < l.length -> (fJ l r)[i]! = (l[i]! || decide ((i : Int) ∈ r))
  | [], l, i, _, _ => by simp [fJ]
  | x :: r, l, i, h, hi => by
    rw [fJ, pG r _ i (fun y hy => h y (by simp [hy])) (by rw [BW]; exact hi)]
    obtain ⟨k, rfl⟩ := Int.eq_ofNat_of_zero_le (h x (by simp))
    rw [fX, bD]
    by_cases e : i = k
    · subst e; rw [if_pos ⟨rfl, hi⟩]; simp
    · rw [if_neg (fun h => e h.1)]
      have : ((i : Int) ∈ (k : Int) :: r) ↔ (i : Int) ∈ r := by
        rw [List.mem_cons]
        constructor
        · rintro (h | h)
          · omega
          · exact h
        · exact .inr
      simp only [this]
theorem LG (l:List Bool) (h:l.length<=1000000):dW l false=some (decide (false∈l)):=by
 unfold dW pQ;have key:=lG (body:=gN) (fun i=>(l,false,(l.length:Int),(i:Int))) l.length (fun i=>l[i]! =false) (fun i=>(i:Int)) (e:= -1) (fun i hi=>by
  have e1:decide ((i:Int)<(l.length:Int))=true:=by simp;omega
  have hb:gN (l,false,(l.length:Int),(i:Int))=bif false==l[i]! then some (.done (i:Int)) else some (.next (l,false,(l.length:Int),((i+1:Nat):Int))):=by
   unfold gN;simp only [e1,cond_true,aB l i hi,aC,bA (show i<1000000000 by omega)]
  constructor
  · intro hc;rw [hb,hc];rfl
  · intro hc
    have:l[i]! =true:=by simpa using hc
    rw [hb,this];rfl) (by
  unfold gN
  have:decide ((l.length:Int)<(l.length:Int))=false:=by simp
  simp only [this,cond_false])
 rw [aE]
 by_cases hx:false∈l
 · obtain ⟨i,hi,he⟩:=aZ.1 hx
   obtain ⟨k,h1,h2,h3⟩:=CD (c:=fun i=>l[i]! =false) ⟨i,hi,he⟩
   have:=key.1 k h1 h2 h3
   rw [show ((0:Nat):Int)=0 from rfl] at this;rw [this];have e:decide ((0:Int)<=(k:Int))=true:=by simp
   simp [hx]
 · have:=key.2 fun i hi he=>hx (aZ.2 ⟨i,hi,he⟩)
   rw [show ((0:Nat):Int)=0 from rfl] at this;rw [this];simp [hx]
structure eO (s:aQ):Prop where
 n1:1<=s.uses.length
 n2:s.uses.length<=200
 ul:s.used.length=s.uses.length
 fr: ∀x∈s.free,0<=x/\x<s.uses.length
 fd:s.free.Nodup
 uf: ∀i,i<s.uses.length->(s.used[i]! =true↔(i:Int)∉s.free)
 us: ∀i,i<s.uses.length->0<=s.uses[i]!/\s.uses[i]!<=1000000/\(s.used[i]! =true->1<=s.uses[i]!)
theorem UR (uses:List Int) (used:List Bool) (fr:List Int) (h1:uses.length<=200) (h2:used.length=uses.length):
 aH gL (uses,(uses.length:Int),0,uses,used,fr)=some (.done (if∀i,i<uses.length->0<=uses[i]!/\uses[i]!<=1000000/\(used[i]! =true->1<=uses[i]!) then 0 else 8)):=by
 have key:=cY (body:=gL) (fun i=>(uses,(uses.length:Int),(i:Int),uses,used,fr)) uses.length (fun i=> ¬(0<=uses[i]!/\uses[i]!<=1000000/\(used[i]! =true->1<=uses[i]!))) (r:= .done 8) (e:= .done 0) (fun i hi=>by
  have e1:decide ((i:Int)<(uses.length:Int))=true:=by simp;omega
  have hb:gL (uses,(uses.length:Int),(i:Int),uses,used,fr)=bif decide (uses[i]!<0) then some (.done (.done 8)) else bif decide (1000000<uses[i]!) then some (.done (.done 8)) else bif uses[i]! ==0 then (bif used[i]! then some (.done (.done 8)) else some (.next (uses,(uses.length:Int),((i+1:Nat):Int),uses,used,fr))) else some (.next (uses,(uses.length:Int),((i+1:Nat):Int),uses,used,fr)):=by
   unfold gL;simp only [e1,cond_true,aB uses i hi,aB used i (by omega),aC,bA (show i<1000000000 by omega)]
  rw [hb];generalize uses[i]! =u at*
  by_cases a1:u<0
  · simp [a1];omega
  · by_cases a2:1000000<u
    · simp [a1,a2];omega
    · by_cases a3:u=0
      · subst a3
        cases used[i]!<;>simp
      · have a4:1<=u:=by omega
        have a5:0<=u:=by omega
        have a6:u<=1000000:=by omega
        simp [a1,a2,fI a3,a4,a5,a6]) (by
  unfold gL
  have:decide ((uses.length:Int)<(uses.length:Int))=false:=by simp
  simp only [this,cond_false])
 by_cases hc: ∀i,i<uses.length->0<=uses[i]!/\uses[i]!<=1000000/\(used[i]! =true->1<=uses[i]!)
 · rw [if_pos hc]
   exact key.2 fun i hi=>Classical.not_not.2 (hc i hi)
 · rw [if_neg hc]
   simp only [Classical.not_forall] at hc;obtain ⟨i,hi,hx⟩:=hc;exact key.1 ⟨i,hi,by simpa only [Classical.not_forall] using hx⟩
theorem xZ (s:aQ) (hf:s.free.length<=1000000):rA s=some (if eO s then 0 else 8):=by
 obtain ⟨uses,used,fr⟩:=s;dsimp only at hf;unfold rA;simp only [aE]
 by_cases a1:uses.length<1
 · have e:decide ((uses.length:Int)<1)=true:=by simp;omega
   rw [e,if_neg (fun h=>by have:=h.n1;dsimp only at this;omega)];rfl
 have e1:decide ((uses.length:Int)<1)=false:=by simp;omega
 by_cases a2:200<uses.length
 · have e:decide (200<(uses.length:Int))=true:=by simp;omega
   rw [e1,e,if_neg (fun h=>by have:=h.n2;dsimp only at this;omega)];rfl
 have e2:decide (200<(uses.length:Int))=false:=by simp;omega
 by_cases a3:used.length=uses.length
 case neg=>
  have e:((used.length:Int) !=(uses.length:Int))=true:=by simp;omega
  rw [e1,e2,e,if_neg (fun h=>a3 h.ul)];rfl
 have e3:((used.length:Int) !=(uses.length:Int))=false:=by simp;omega
 simp only [e1,e2,e3,cond_false,aW (show used.length<=1048576 by omega),aC]
 have inner:=UR uses used fr (by omega) a3
 have key:=cY (body:=rW used) (fun k=>(fr,(fr.length:Int),(k:Int),uses,used,fr,(uses.length:Int),fJ used (fr.take k))) fr.length
  (fun k=>fr[k]!<0\/(uses.length:Int)<=fr[k]!\/(fJ used (fr.take k))[(fr[k]!).toNat]! =true) (r:=8)
  (e:=if false∈fJ used fr then 8 else if∀i,i<uses.length->0<=uses[i]!/\uses[i]!<=1000000/\(used[i]! =true->1<=uses[i]!) then 0 else 8) (fun k hk=>by
   have f1:decide ((k:Int)<(fr.length:Int))=true:=by simp;omega
   have f2:((fJ used (fr.take k)).length==used.length)=true:=by rw [nN];simp
   have f3:decide ((0:Int)<=(k:Int))=true:=by simp
   have f4: ∀x:Int,((bJ (fJ used (fr.take k)) x true).length==(fJ used (fr.take k)).length)=true:=by intro x;rw [BW];simp
   have f5:fJ used (fr.take (k+1))=bJ (fJ used (fr.take k)) fr[k]! true:=by rw [iV hk,E0]
   unfold rW;simp only [f1,f2,f3,f4,cond_true,beq_self_eq_true,aB fr k hk,aC,bA (show k<1000000000 by omega),f5]
   clear f5;generalize fr[k]! =x
   by_cases b1:x<0
   · simp [b1]
   · by_cases b2:(uses.length:Int)<=x
     · simp [b1,b2]
     · simp only [b1,b2,decide_false,cond_false,false_or]
       rw [dK (l:=fJ used (fr.take k)) (i:=x) (by omega) (by rw [nN];omega)]
       simp only [aC];cases (fJ used (fr.take k))[x.toNat]!<;>simp) (by
   have f1:decide ((fr.length:Int)<(fr.length:Int))=false:=by simp
   unfold rW;simp only [f1,cond_false,List.take_length];rw [LG _ (by rw [nN];omega)]
   have f2:((fJ used fr).length==used.length)=true:=by rw [nN];simp
   simp only [f2,cond_true,aC,aE,inner]
   by_cases hx:false∈fJ used fr
   · simp [hx]
   · simp [hx])
 have h0:fJ used (fr.take 0)=used:=rfl;rw [show ((0:Nat):Int)=0 from rfl,h0] at key
 by_cases bad: ∃k,k<fr.length/\(fr[k]!<0\/(uses.length:Int)<=fr[k]!\/(fJ used (fr.take k))[(fr[k]!).toNat]! =true)
 · rw [key.1 bad,if_neg]
   intro ok;obtain ⟨k,hk,hb⟩:=bad;have hr:=ok.fr fr[k]! (bE hk);dsimp only at hr;rcases hb with hb|hb|hb
   · omega
   · omega
   · rw [pG _ _ _ (fun x hx=>(ok.fr x (List.mem_of_mem_take hx)).1) (by omega)] at hb
     have hi:((fr[k]!).toNat:Int)=fr[k]!:=by omega
     rw [hi,Bool.or_eq_true] at hb;rcases hb with hb|hb
     · have:=(ok.uf (fr[k]!).toNat (by show _<uses.length;omega)).1 hb
       rw [hi] at this;exact this (bE hk)
     · have hm:fr[k]!∈fr.take k:=by simpa using hb
       obtain ⟨j,h1,h2,h3⟩:=cF.1 hm;exact cP.1 ok.fd j k h1 hk h3
 · have good: ∀k,k<fr.length->0<=fr[k]!/\fr[k]!<uses.length/\(fJ used (fr.take k))[(fr[k]!).toNat]! =false:=by
    intro k hk;refine ⟨?_,?_,?_⟩
    · exact Int.not_lt.1 fun h=>bad ⟨k,hk,.inl h⟩
    · exact Int.not_le.1 fun h=>bad ⟨k,hk,.inr (.inl h)⟩
    · exact Bool.not_eq_true _▸fun h=>bad ⟨k,hk,.inr (.inr h)⟩
   rw [key.2 fun k hk hb=>bad ⟨k,hk,hb⟩]
   have rng: ∀x∈fr,0<=x/\x<(uses.length:Int):=by
    intro x hx;obtain ⟨k,hk,rfl⟩:=aZ.1 hx;exact ⟨(good k hk).1,(good k hk).2.1⟩
   have g2: ∀k,k<fr.length->used[(fr[k]!).toNat]! =false/\fr[k]!∉fr.take k:=by
    intro k hk;obtain ⟨c1,c2,c3⟩:=good k hk;rw [pG _ _ _ (fun x hx=>(rng x (List.mem_of_mem_take hx)).1) (by omega),show ((fr[k]!).toNat:Int)=fr[k]! by omega,Bool.or_eq_false_iff] at c3
    exact ⟨c3.1,by simpa using c3.2⟩
   have nd:fr.Nodup:=cP.2 fun i j hij hj he=>(g2 j hj).2 (cF.2 ⟨i,hij,by omega,he⟩)
   by_cases hx:false∈fJ used fr
   · rw [if_pos hx,if_neg]
     intro ok;obtain ⟨i,hi,he⟩:=aZ.1 hx;rw [nN] at hi;rw [pG _ _ _ (fun x hx=>(rng x hx).1) hi,Bool.or_eq_false_iff] at he
     have h3:(i:Int)∉fr:=by simpa using he.2
     have:=(ok.uf i (by show _<uses.length;omega)).2 h3
     rw [show used[i]! =false from he.1] at this;cases this
   · rw [if_neg hx]
     by_cases hu: ∀i,i<uses.length->0<=uses[i]!/\uses[i]!<=1000000/\(used[i]! =true->1<=uses[i]!)
     · rw [if_pos hu,if_pos]
       refine ⟨by show 1<=uses.length;omega,by show uses.length<=200;omega,a3,rng,nd,fun i hi=>?_,hu⟩
       dsimp only at hi ⊢;constructor
       · intro h1 h2
         obtain ⟨k,hk,he⟩:=aZ.1 h2
         have:=(g2 k hk).1
         rw [he,show ((i:Int)).toNat=i by omega,h1] at this
         cases this
       · intro h1
         refine Classical.byContradiction fun h2=>hx ?_
         refine aZ.2 ⟨i,by rw [nN];omega,?_⟩
         rw [pG _ _ _ (fun x hx=>(rng x hx).1) (by omega)]
         have:used[i]! =false:=by simpa using h2
         rw [this];simpa using h1
     · rw [if_neg hu,if_neg]
       intro ok;exact hu ok.us
end Go.Proofs.YtmlghnibpjlchaaGreat
namespace Go.Proofs.YtmlghnibpjlchaaGreat
open Go.Vm Classical
theorem eO.fl {s:aQ} (ok:eO s):s.free.length<=s.uses.length:=by
 have h:=UQ s.uses.length (s.free.map Int.toNat) (by
  rw [cP];intro i j hij hj he;rw [List.length_map] at hj;have e: ∀k,k<s.free.length->(s.free.map Int.toNat)[k]! =(s.free[k]!).toNat:=by
   intro k hk;rw [getElem!_pos _ k (by simpa using hk),List.getElem_map,getElem!_pos s.free k hk]
  rw [e i (by omega),e j hj] at he
  have h1:=(ok.fr _ (bE (show i<s.free.length by omega))).1
  have h2:=(ok.fr _ (bE hj)).1;exact cP.1 ok.fd i j hij hj (by omega)) (by
  intro x hx;obtain ⟨y,hy,rfl⟩:=List.mem_map.1 hx
  have:=ok.fr y hy
  omega)
 rwa [List.length_map] at h
def xK (s:aQ) (h:Int×Int):Prop:=0<=h.1/\h.1<s.uses.length/\s.used[h.1.toNat]! =true/\s.uses[h.1.toNat]! =h.2
def fN (s:aQ) (h:Int×Int):aQ:=⟨s.uses,s.used.set h.1.toNat false,s.free++[h.1]⟩
def cQ (s:aQ):Nat:=(s.free[s.free.length-1]!).toNat
def BF (s:aQ):Prop:=0<s.free.length/\s.uses[cQ s]!<1000000
def gR (s:aQ):aQ:=⟨s.uses.set (cQ s) (s.uses[cQ s]!+1),s.used.set (cQ s) true,s.free.take (s.free.length-1)⟩
def lR (s:aQ):Int×Int:=((cQ s:Int),s.uses[cQ s]!+1)
theorem IJ {s:aQ} (ok:eO s) (h:Int×Int):CB s h=some (decide (xK s h),0):=by
 have hl:=ok.fl;have hn:=ok.n2;have hu:=ok.ul;unfold CB xK;rw [xZ s (by omega),if_pos ok]
 simp only [aC,show ((0:Int) !=0)=false from rfl,cond_false,aE]
 by_cases a1:0<=h.1
 · by_cases a2:h.1<s.uses.length
   · have e2:decide (h.1<(s.used.length:Int))=true:=by simp;omega
     simp only [a1,a2,e2,decide_true,cond_true,dK (l:=s.used) a1 (by omega),dK (l:=s.uses) a1 a2,aC,true_and]
     generalize s.uses[h.1.toNat]! =u;cases s.used[h.1.toNat]!<;>simp [W7]
   · have e2:decide (h.1<(s.used.length:Int))=false:=by simp;omega
     simp [a1,a2,e2]
 · simp [a1]
theorem PB {s:aQ} (ok:eO s) {h:Int×Int} (lv:xK s h):C6 s h=some (fN s h,0):=by
 have hl:=ok.fl;have hn:=ok.n2;have hu:=ok.ul;unfold C6;rw [IJ ok,decide_eq_true lv];unfold tZ;obtain ⟨l1,l2,l3,l4⟩:=lv;have e1:bJ s.used h.1 false=s.used.set h.1.toNat false:=rfl
 simp only [aC,show ((0:Int) !=0)=false from rfl,cond_false,Bool.not_true,aW (show s.uses.length<=1048576 by omega),aW (show s.used.length<=1048576 by omega),aW (show s.free.length<=1048576 by omega),
  fE (show s.free.length+[h.1].length<=1048576 by simp;omega),dK (l:=s.used) l1 (by omega),e1,fN]
theorem yA {s:aQ} (ok:eO s):mP s=some s:=by
 have hl:=ok.fl;have hn:=ok.n2;have hu:=ok.ul;unfold mP;simp only [aC,aW (show s.uses.length<=1048576 by omega),aW (show s.used.length<=1048576 by omega),aW (show s.free.length<=1048576 by omega)]
theorem LH {s:aQ} (ok:eO s) {h:Int×Int} (lv:xK s h):pF s h=some (fN s h):=by
 have hl:=ok.fl;have hn:=ok.n2;have hu:=ok.ul;obtain ⟨l1,l2,l3,l4⟩:=lv;unfold pF;rw [yA ok];have e1:bJ s.used h.1 false=s.used.set h.1.toNat false:=rfl;simp only [aC,fE (show s.free.length+[h.1].length<=1048576 by simp;omega),dK (l:=s.used) l1 (by omega),e1,fN]
theorem aA2 {s:aQ} (ok:eO s) {h:Int×Int} (lv:xK s h):eO (fN s h):=by
 have hl:=ok.fl;have hn:=ok.n2;have hu:=ok.ul;obtain ⟨l1,l2,l3,l4⟩:=lv;have nf:h.1∉s.free:=by
  have:=(ok.uf h.1.toNat (by omega)).1 l3
  rwa [show (h.1.toNat:Int)=h.1 by omega] at this
 refine ⟨ok.n1,ok.n2,?_,?_,?_,?_,?_⟩
 · show (s.used.set _ _).length=_;rw [List.length_set];exact hu
 · intro x hx
   rcases List.mem_append.1 hx with hx|hx
   · exact ok.fr x hx
   · rw [List.mem_singleton] at hx;subst hx;exact ⟨l1,l2⟩
 · show (s.free++[h.1]).Nodup
   rw [List.nodup_append];refine ⟨ok.fd,by simp,?_⟩
   intro x hx y hy he;rw [List.mem_singleton] at hy;subst hy;subst he;exact nf hx
 · intro i hi
   change i<s.uses.length at hi;show (s.used.set h.1.toNat false)[i]! =true↔(i:Int)∉s.free++[h.1];rw [bD,List.mem_append,List.mem_singleton]
   by_cases e:i=h.1.toNat
   · rw [if_pos ⟨e,by omega⟩]
     have:(i:Int)=h.1:=by omega
     simp [this]
   · rw [if_neg (fun k=>e k.1),ok.uf i hi]
     have: ¬(i:Int)=h.1:=by omega
     simp [this]
 · intro i hi
   change i<s.uses.length at hi;obtain ⟨u1,u2,u3⟩:=ok.us i hi;refine ⟨u1,u2,?_⟩;show (s.used.set h.1.toNat false)[i]! =true->_;rw [bD];split
   · intro h;cases h
   · exact u3
theorem DF {s:aQ} (ok:eO s) (h:0<s.free.length):cQ s<s.uses.length/\(cQ s:Int)=s.free[s.free.length-1]!/\(cQ s:Int)∈s.free:=by
 have hm:=bE (l:=s.free) (i:=s.free.length-1) (by omega)
 have:=ok.fr _ hm
 have e:(cQ s:Int)=s.free[s.free.length-1]!:=by unfold cQ;omega
 refine ⟨by omega,e,by rw [e];exact hm⟩
theorem kW {α:Type} (l:List α) (n:Nat) (h:n<=l.length):gF l 0 (n:Int)=some (l.take n):=by
 unfold gF;rw [if_pos ⟨by omega,by omega,by omega⟩]
 simp
theorem GA {s:aQ} (ok:eO s):C7 s=some (if BF s then (gR s,lR s,0) else (⟨[],[],[]⟩,(0,0),18)):=by
 have hl:=ok.fl;have hn:=ok.n2;have hu:=ok.ul;unfold C7 BF;rw [xZ s (by omega),if_pos ok]
 simp only [aC,show ((0:Int) !=0)=false from rfl,cond_false,aE]
 by_cases a1:0<s.free.length
 · obtain ⟨n1,n2,n3⟩:=DF ok a1
   have e1:((s.free.length:Int)==0)=false:=fI (by omega)
   have e2:aA .i64 ((s.free.length:Int) -1)=((s.free.length-1:Nat):Int):=uU (by omega) (by omega)
   unfold vQ;simp only [e1,cond_false,aE,e2,kW s.free (s.free.length-1) (by omega),aC,aW (show (s.free.take (s.free.length-1)).length<=1048576 by rw [List.length_take];omega),
    aB s.free (s.free.length-1) (by omega),<- n2,aB s.uses (cQ s) n1]
   obtain ⟨u1,u2,u3⟩:=ok.us (cQ s) n1
   by_cases a2:s.uses[cQ s]! =1000000
   · have e3:(s.uses[cQ s]! ==1000000)=true:=by simpa using a2
     rw [e3,if_neg (by omega)];rfl
   · have e3:(s.uses[cQ s]! ==1000000)=false:=by simpa using a2
     have e4:aA .i64 (s.uses[cQ s]!+1)=s.uses[cQ s]!+1:=by rw [wi];omega
     rw [e3,if_pos (by omega)]
     simp only [cond_false,aW (show s.uses.length<=1048576 by omega),aW (show s.used.length<=1048576 by omega),aC,aB s.used (cQ s) (by omega),aB s.uses (cQ s) n1,e4,fX,
      aB (s.uses.set (cQ s) (s.uses[cQ s]!+1)) (cQ s) (by rw [List.length_set];exact n1),bD,n1,and_self,if_true,gR,lR]
 · have e1:((s.free.length:Int)==0)=true:=fZ (by omega)
   rw [e1,if_neg (fun h=>a1 h.1)];rfl
theorem sO {s:aQ} (ok:eO s):gI s=some (decide (BF s)):=by
 have hl:=ok.fl;have hn:=ok.n2;have hu:=ok.ul;unfold gI BF;simp only [aE]
 by_cases a1:0<s.free.length
 · obtain ⟨n1,n2,n3⟩:=DF ok a1
   have e1:decide ((0:Int)<(s.free.length:Int))=true:=by simp;omega
   have e2:aA .i64 ((s.free.length:Int) -1)=((s.free.length-1:Nat):Int):=uU (by omega) (by omega)
   simp only [e1,e2,cond_true,aB s.free (s.free.length-1) (by omega),aC,<- n2,aB s.uses (cQ s) n1,a1,true_and]
 · have e1:decide ((0:Int)<(s.free.length:Int))=false:=decide_eq_false (by omega)
   rw [e1];simp [a1]
theorem LJ {s:aQ} (ok:eO s) (h:BF s):xH s=some (gR s,lR s):=by
 have hl:=ok.fl;have hn:=ok.n2;have hu:=ok.ul;obtain ⟨a1,a2⟩:=h;obtain ⟨n1,n2,n3⟩:=DF ok a1;obtain ⟨u1,u2,u3⟩:=ok.us (cQ s) n1;unfold xH;rw [yA ok];have e2:aA .i64 ((s.free.length:Int) -1)=((s.free.length-1:Nat):Int):=uU (by omega) (by omega)
 have e4:aA .i64 (s.uses[cQ s]!+1)=s.uses[cQ s]!+1:=by rw [wi];omega
 simp only [aC,aE,e2,aB s.free (s.free.length-1) (by omega),kW s.free (s.free.length-1) (by omega),<- n2,aB s.uses (cQ s) n1,aB s.used (cQ s) (by omega),e4,fX,
  aB (s.uses.set (cQ s) (s.uses[cQ s]!+1)) (cQ s) (by rw [List.length_set];exact n1),bD,n1,and_self,if_true,gR,lR,Int.toNat_natCast]
theorem aA3 {s:aQ} (ok:eO s) (h:BF s):eO (gR s):=by
 have hl:=ok.fl;have hn:=ok.n2;have hu:=ok.ul;obtain ⟨a1,a2⟩:=h;obtain ⟨n1,n2,n3⟩:=DF ok a1;have mt: ∀x:Int,x∈s.free.take (s.free.length-1)↔(x∈s.free/\x≠(cQ s:Int)):=by
  intro x;rw [cF];constructor
  · rintro ⟨i,h1,h2,rfl⟩
    refine ⟨bE h2,?_⟩;rw [n2];exact cP.1 ok.fd i (s.free.length-1) h1 (by omega)
  · rintro ⟨h1,h2⟩
    obtain ⟨i,hi,rfl⟩:=aZ.1 h1;refine ⟨i,?_,hi,rfl⟩;refine Classical.byContradiction fun hc=>h2 ?_
    rw [n2,show i=s.free.length-1 by omega]
 refine ⟨?_,?_,?_,?_,?_,?_,?_⟩
 · show 1<=(s.uses.set _ _).length;rw [List.length_set];exact ok.n1
 · show (s.uses.set _ _).length<=200;rw [List.length_set];exact ok.n2
 · show (s.used.set _ _).length=(s.uses.set _ _).length;rw [List.length_set,List.length_set];exact hu
 · intro x hx
   show 0<=x/\x<((s.uses.set _ _).length:Int);rw [List.length_set];exact ok.fr x ((mt x).1 hx).1
 · exact ok.fd.sublist (List.take_sublist _ _)
 · intro i hi
   change i<(s.uses.set _ _).length at hi;rw [List.length_set] at hi;show (s.used.set (cQ s) true)[i]! =true↔(i:Int)∉s.free.take (s.free.length-1);rw [bD,mt]
   by_cases e:i=cQ s
   · rw [if_pos ⟨e,by omega⟩]
     simp [e]
   · rw [if_neg (fun k=>e k.1),ok.uf i hi]
     have:(i:Int)≠(cQ s:Int):=by omega
     simp [this]
 · intro i hi
   change i<(s.uses.set _ _).length at hi;rw [List.length_set] at hi;obtain ⟨u1,u2,u3⟩:=ok.us i hi;show 0<=(s.uses.set (cQ s) (s.uses[cQ s]!+1))[i]!/\(s.uses.set (cQ s) (s.uses[cQ s]!+1))[i]!<=1000000/\((s.used.set (cQ s) true)[i]! =true->1<=(s.uses.set (cQ s) (s.uses[cQ s]!+1))[i]!);rw [bD,bD]
   by_cases e:i=cQ s
   · subst e
     rw [if_pos ⟨rfl,n1⟩];refine ⟨by omega,by omega,fun _=>by omega⟩
   · rw [if_neg (fun k=>e k.1),if_neg (fun k=>e k.1)]
     exact ⟨u1,u2,u3⟩
end Go.Proofs.YtmlghnibpjlchaaGreat
namespace Go.Proofs.YtmlghnibpjlchaaGreat
open Go.Vm Classical
abbrev Ev:=Int×Int×Int×Int×Int
abbrev Ev.at (x:Ev):Int×Int:=(x.1,x.2.1)
abbrev Ev.num (x:Ev):Int:=x.2.2.1
abbrev Ev.ix (x:Ev):Int:=x.2.2.2.1
abbrev Ev.n (x:Ev):Nat:=x.2.2.2.1.toNat
theorem aPJ {x:Ev} {k:Nat} (h:x.ix<(k:Int)) (h0:0<=x.ix):x.n<k:=by
 show x.ix.toNat<k;omega
theorem aPK {x y:Ev} (h0:0<=x.ix) (h1:0<=y.ix) (h:x.ix≠y.ix):x.n≠y.n:=by
 show x.ix.toNat≠y.ix.toNat
 omega
def dJ (x y:Ev):Prop:=EZ (x.1,x.2.1) (y.1,y.2.1)<0\/(EZ (x.1,x.2.1) (y.1,y.2.1)=0/\x.2.2.1<y.2.2.1)
theorem W8 {a b:Int×Int}:EZ a b<0↔a.1*b.2<b.1*a.2:=by
 unfold EZ;rcases fY (a.1*b.2) (b.1*a.2) with ⟨h,e⟩|⟨h,e⟩|⟨h,e⟩<;>rw [e]<;>constructor<;>intro<;>omega
theorem W9 {a b:Int×Int}:EZ a b=0↔a.1*b.2=b.1*a.2:=by
 unfold EZ;rcases fY (a.1*b.2) (b.1*a.2) with ⟨h,e⟩|⟨h,e⟩|⟨h,e⟩<;>rw [e]<;>constructor<;>intro<;>omega
theorem rL {x y:Ev} (h:dJ x y): ¬dJ y x:=by
 unfold dJ at*;rw [W8,W9] at*;dsimp only at*;rintro (k|k)<;>rcases h with h|h<;>omega
theorem US {a1 a2 b1 b2 c1 c2:Int} (ha:1<=a2) (hb:1<=b2) (hc:1<=c2) (h1:a1*b2<=b1*a2) (h2:b1*c2<=c1*b2):a1*c2<=c1*a2:=by
 have e1:a1*b2*c2<=b1*a2*c2:=Int.mul_le_mul_of_nonneg_right h1 (by omega)
 have e2:b1*c2*a2<=c1*b2*a2:=Int.mul_le_mul_of_nonneg_right h2 (by omega)
 have e3:(a1*c2)*b2<=(c1*a2)*b2:=by
  have r1:(a1*c2)*b2=a1*b2*c2:=by grind
  have r2:b1*a2*c2=b1*c2*a2:=by grind
  have r3:c1*b2*a2=(c1*a2)*b2:=by grind
  omega
 exact Int.le_of_mul_le_mul_right e3 (by omega)
theorem MJ {a1 a2 b1 b2 c1 c2:Int} (ha:1<=a2) (hb:1<=b2) (hc:1<=c2) (h1:a1*b2<b1*a2) (h2:b1*c2<=c1*b2):a1*c2<c1*a2:=by
 have e1:a1*b2*c2<b1*a2*c2:=Int.mul_lt_mul_of_pos_right h1 (by omega)
 have e2:b1*c2*a2<=c1*b2*a2:=Int.mul_le_mul_of_nonneg_right h2 (by omega)
 have e3:(a1*c2)*b2<(c1*a2)*b2:=by
  have r1:(a1*c2)*b2=a1*b2*c2:=by grind
  have r2:b1*a2*c2=b1*c2*a2:=by grind
  have r3:c1*b2*a2=(c1*a2)*b2:=by grind
  omega
 exact Int.lt_of_mul_lt_mul_right e3 (by omega)
theorem LK {a1 a2 b1 b2 c1 c2:Int} (ha:1<=a2) (hb:1<=b2) (hc:1<=c2) (h1:a1*b2<=b1*a2) (h2:b1*c2<c1*b2):a1*c2<c1*a2:=by
 have e1:a1*b2*c2<=b1*a2*c2:=Int.mul_le_mul_of_nonneg_right h1 (by omega)
 have e2:b1*c2*a2<c1*b2*a2:=Int.mul_lt_mul_of_pos_right h2 (by omega)
 have e3:(a1*c2)*b2<(c1*a2)*b2:=by
  have r1:(a1*c2)*b2=a1*b2*c2:=by grind
  have r2:b1*a2*c2=b1*c2*a2:=by grind
  have r3:c1*b2*a2=(c1*a2)*b2:=by grind
  omega
 exact Int.lt_of_mul_lt_mul_right e3 (by omega)
theorem DG {x y z:Ev} (hx:1<=x.2.1) (hy:1<=y.2.1) (hz:1<=z.2.1) (h1: ¬dJ y x) (h2: ¬dJ z y): ¬dJ z x:=by
 unfold dJ at*;rw [W8,W9] at*;dsimp only at*;have t1:= @US x.1 x.2.1 y.1 y.2.1 z.1 z.2.1 hx hy hz;have t2:= @MJ x.1 x.2.1 y.1 y.2.1 z.1 z.2.1 hx hy hz;have t3:= @LK x.1 x.2.1 y.1 y.2.1 z.1 z.2.1 hx hy hz;generalize x.1*y.2.1=p at*;generalize y.1*x.2.1=q at*;generalize y.1*z.2.1=r at*;generalize z.1*y.2.1=s at*;generalize x.1*z.2.1=u at*
 generalize z.1*x.2.1=v at*;have a1:p<=q:=by omega
 have a2:r<=s:=by omega
 have a3:=t1 a1 a2;rintro (k|k)
 · omega
 · by_cases b1:p<q
   · have:=t2 b1 a2;omega
   · by_cases b2:r<s
     · have:=t3 a1 b2;omega
     · omega
structure E1 (n:Nat) (x:Ev) (M:Ev->Prop) (H:List Ev) (W:List Int) (i:Nat):Prop where
 lt:i<n
 hn:n<=H.length
 ix: ∀w,w<n->w≠i->0<=(H[w]!).ix/\(H[w]!).ix<W.length/\W[(H[w]!).n]! =(w:Int)/\(H[w]!).ix≠x.ix
 x0:0<=x.ix
 x1:x.ix<W.length
 mem: ∀e,(∃w,w<n/\w≠i/\H[w]! =e)↔M e
theorem E1.move {n:Nat} {x:Ev} {M:Ev->Prop} {H:List Ev} {W:List Int} {i j:Nat} (h:E1 n x M H W i) (hj:j<n) (hij:j≠i):E1 n x M (H.set i H[j]!) (W.set (H[j]!).n (i:Int)) j:=by
 have hn:=h.hn;have hi:=h.lt;obtain ⟨j1,j2,j3,j4⟩:=h.ix j hj hij;have cell: ∀w,(H.set i H[j]!)[w]! =if w=i then H[j]! else H[w]!:=by
  intro w;rw [bD]
  by_cases e:w=i
  · rw [if_pos ⟨e,by omega⟩,if_pos e]
  · rw [if_neg (fun k=>e k.1),if_neg e]
 refine ⟨hj,by rw [List.length_set];exact hn,?_,h.x0,by rw [List.length_set];exact h.x1,?_⟩
 · intro w hw hwj
   rw [cell,List.length_set]
   by_cases e:w=i
   · rw [if_pos e,bD,if_pos ⟨rfl,aPJ j2 j1⟩]
     exact ⟨j1,j2,by rw [e],j4⟩
   · rw [if_neg e,bD]
     obtain ⟨k1,k2,k3,k4⟩:=h.ix w hw e;refine ⟨k1,k2,?_,k4⟩;rw [if_neg,k3];rintro ⟨c,_⟩;rw [c,j3] at k3;omega
 · intro e
   rw [<- h.mem e];constructor
   · rintro ⟨w,hw,hwj,he⟩
     rw [cell] at he
     by_cases c:w=i
     · rw [if_pos c] at he;exact ⟨j,hj,hij,he⟩
     · rw [if_neg c] at he;exact ⟨w,hw,c,he⟩
   · rintro ⟨w,hw,hwi,he⟩
     by_cases c:w=j
     · refine ⟨i,hi,fun h=>hij h.symm,?_⟩
       rw [cell,if_pos rfl,<- c];exact he
     · exact ⟨w,hw,c,by rw [cell,if_neg hwi];exact he⟩
theorem E1.fill {n:Nat} {x:Ev} {M:Ev->Prop} {H:List Ev} {W:List Int} {i:Nat} (h:E1 n x M H W i):
 (∀w,w<n->0<=((H.set i x)[w]!).ix/\((H.set i x)[w]!).ix<W.length/\(W.set x.n (i:Int))[((H.set i x)[w]!).n]! =(w:Int))/\
  (∀e,(∃w,w<n/\(H.set i x)[w]! =e)↔(e=x\/M e)):=by
 have hn:=h.hn;have hi:=h.lt;have x0:=h.x0;have x1:=h.x1;have cell: ∀w,(H.set i x)[w]! =if w=i then x else H[w]!:=by
  intro w;rw [bD]
  by_cases e:w=i
  · rw [if_pos ⟨e,by omega⟩,if_pos e]
  · rw [if_neg (fun k=>e k.1),if_neg e]
 constructor
 · intro w hw
   rw [cell]
   by_cases e:w=i
   · rw [if_pos e,bD,if_pos ⟨rfl,aPJ x1 x0⟩]
     exact ⟨x0,x1,by rw [e]⟩
   · rw [if_neg e,bD]
     obtain ⟨k1,k2,k3,k4⟩:=h.ix w hw e;exact ⟨k1,k2,by rw [if_neg (fun c=>aPK k1 x0 k4 c.1),k3]⟩
 · intro e
   rw [<- h.mem e];constructor
   · rintro ⟨w,hw,he⟩
     rw [cell] at he
     by_cases c:w=i
     · rw [if_pos c] at he;exact .inl he.symm
     · rw [if_neg c] at he;exact .inr ⟨w,hw,c,he⟩
   · rintro (he|⟨w,hw,hwi,he⟩)
     · exact ⟨i,hi,by rw [cell,if_pos rfl,he]⟩
     · exact ⟨w,hw,by rw [cell,if_neg hwi];exact he⟩
noncomputable def iW (x:Ev):Nat->List Ev->List Int->Nat×List Ev×List Int
 |0,H,W=>(0,H,W)
 |i+1,H,W=>if dJ x H[i / 2]! then iW x (i / 2) (H.set (i+1) H[i / 2]!) (W.set (H[i / 2]!).n ((i+1:Nat):Int)) else (i+1,H,W)
termination_by i=>i
decreasing_by omega
noncomputable def hJ (n:Nat) (H:List Ev) (i:Nat):Nat:=if 2*i+2<n/\dJ H[2*i+2]! H[2*i+1]! then 2*i+2 else 2*i+1
theorem pH (n:Nat) (H:List Ev) (i:Nat):hJ n H i=2*i+1\/(hJ n H i=2*i+2/\2*i+2<n):=by
 unfold hJ;split
 · rename_i h;exact .inr ⟨rfl,h.1⟩
 · exact .inl rfl
noncomputable def dN (n:Nat) (x:Ev) (i:Nat) (H:List Ev) (W:List Int):Nat×List Ev×List Int:=
 if _h:2*i+1<n then
  if dJ H[hJ n H i]! x then dN n x (hJ n H i) (H.set i H[hJ n H i]!) (W.set (H[hJ n H i]!).n (i:Int)) else (i,H,W)
 else (i,H,W)
termination_by n-i
decreasing_by
 rcases pH n H i with h|h<;>omega
structure E4 (n:Nat) (H:List Ev) (i:Nat):Prop where
 den: ∀w,w<n->1<=(H[w]!).2.1
 ord: ∀k,0<k->k<n->k≠i->(k-1) / 2≠i-> ¬dJ H[k]! H[(k-1) / 2]!
 grand:0<i-> ∀k,0<k->k<n->(k-1) / 2=i-> ¬dJ H[k]! H[(i-1) / 2]!
theorem JA {n : Nat} {x : Ev} {M : Ev -> Prop} (dx : 1 <= x.2.1) : ∀ (i : Nat) (H : List Ev) (W : List Int), E1 n x M H W i -> E4 n H i ->
    ∃ j H1 W1, iW x i H W = (j, H1, W1) /\ E1 n x M H1 W1 j /\ E4 n H1 j /\ H1.length = H.length /\ W1.length = W.length /\ (0 < j -> ¬ dJ x H1[(j - 1) / 2]!) /\
      (∀ k, n <= k -> H1[k]! = H[k]!) /\ (∀ k, (∀ w, w < n -> w ≠ i -> (H[w]!).n ≠ k) -> W1[k]! = W[k]!) /\
      ((∀ k, 0 < k -> k < n -> (k - 1) / 2 = i -> ¬ dJ H[k]! x) -> ∀ k, 0 < k -> k < n -> (k - 1) / 2 = j -> ¬ dJ H1[k]! x)
  | 0, H, W, h, o => ⟨0, H, W, by rw [iW], h, o, rfl, rfl, fun h => by omega, fun _ _ => rfl, fun _ _ => rfl, fun h => h⟩
  | i + 1, H, W, h, o => by
    rw [iW]
    by_cases hl : dJ x H[i / 2]!
    · rw [if_pos hl]
      have hi := h.lt
      have hn := h.hn
      have hp : i / 2 < n := by omega
      have hne : i / 2 ≠ i + 1 := by omega
      have hm := h.move hp hne
      have cell : ∀ w, (H.set (i + 1) H[i / 2]!)[w]! = if w = i + 1 then H[i / 2]! else H[w]! := by
        intro w
        rw [bD]
        by_cases e : w = i + 1
        · rw [if_pos ⟨e, by omega⟩, if_pos e]
        · rw [if_neg (fun k => e k.1), if_neg e]
      have o' : E4 n (H.set (i + 1) H[i / 2]!) (i / 2) := by
        refine ⟨?_, ?_, ?_⟩
        · intro w hw
          rw [cell]
          split
          · exact o.den _ hp
          · exact o.den _ hw
        · intro k k0 kn k1 k2
          rw [cell, cell]
          by_cases e : k = i + 1
          · subst e; exact absurd (by omega) k2
          · rw [if_neg e]
            by_cases e2 : (k - 1) / 2 = i + 1
            · rw [if_pos e2]
              have := o.grand (by omega) k k0 kn e2
              rwa [show (i + 1 - 1) / 2 = i / 2 by omega] at this
            · rw [if_neg e2]
              exact o.ord k k0 kn e e2
        · intro p0 k k0 kn k1
          rw [cell, cell, if_neg (show (i / 2 - 1) / 2 ≠ i + 1 by omega)]
          have up1 : ¬ dJ H[i / 2]! H[(i / 2 - 1) / 2]! := o.ord (i / 2) p0 hp hne (by omega)
          by_cases e : k = i + 1
          · rw [if_pos e]; exact up1
          · rw [if_neg e]
            have up2 : ¬ dJ H[k]! H[i / 2]! := by
              have := o.ord k k0 kn e (by omega)
              rwa [k1] at this
            exact DG (o.den _ (by omega)) (o.den _ hp) (o.den _ kn) up1 up2
      obtain ⟨j, H1, W1, e1, e3, e4, e5, e6, e7, e8, e9, e10⟩ := JA dx (i / 2) _ _ hm o'
      rw [List.length_set] at e5 e6
      refine ⟨j, H1, W1, e1, e3, e4, e5, e6, e7, ?_, ?_, ?_⟩
      · intro k hk
        rw [e8 k hk, cell, if_neg (by omega)]
      · intro k hk
        rw [e9 k ?_, bD, if_neg (fun c => hk (i / 2) hp hne c.1.symm)]
        intro w hw hwp
        rw [cell]
        split
        · exact hk (i / 2) hp hne
        · rename_i e; exact hk w hw e
      · intro _
        refine e10 fun k k0 kn k1 => ?_
        rw [cell]
        by_cases e : k = i + 1
        · rw [if_pos e]; exact rL hl
        · rw [if_neg e]
          have up2 : ¬ dJ H[k]! H[i / 2]! := by
            have := o.ord k k0 kn e (by omega)
            rwa [k1] at this
          exact DG dx (o.den _ hp) (o.den _ kn) (rL hl) up2
    · rw [if_neg hl]
      refine ⟨i + 1, H, W, rfl, h, o, rfl, rfl, fun _ => ?_, fun _ _ => rfl, fun _ _ => rfl, fun h => h⟩
      rwa [show (i + 1 - 1) / 2 = i / 2 by omega]
termination_by i=>i
decreasing_by omega
theorem YR {n:Nat} {x:Ev} {i:Nat} {H:List Ev} {W:List Int} (h: ∀k,0<k->k<n->(k-1) / 2=i-> ¬dJ H[k]! x):dN n x i H W=(i,H,W):=by
 rw [dN];split
 · rename_i hk
   rw [if_neg];rcases pH n H i with e|⟨e,e2⟩
   · rw [e];exact h _ (by omega) hk (by omega)
   · rw [e];exact h _ (by omega) e2 (by omega)
 · rfl
theorem NJ {n : Nat} {x : Ev} {M : Ev -> Prop} (dx : 1 <= x.2.1) : ∀ (d i : Nat) (H : List Ev) (W : List Int), n - i <= d -> E1 n x M H W i -> E4 n H i -> (0 < i -> ¬ dJ x H[(i - 1) / 2]!) ->
    ∃ j H1 W1, dN n x i H W = (j, H1, W1) /\ E1 n x M H1 W1 j /\ E4 n H1 j /\ H1.length = H.length /\ W1.length = W.length /\ (0 < j -> ¬ dJ x H1[(j - 1) / 2]!) /\
      (∀ k, n <= k -> H1[k]! = H[k]!) /\ (∀ k, (∀ w, w < n -> w ≠ i -> (H[w]!).n ≠ k) -> W1[k]! = W[k]!) /\ (∀ k, 0 < k -> k < n -> (k - 1) / 2 = j -> ¬ dJ H1[k]! x)
  | 0, i, H, W, hd, h, o, u => by have := h.lt; omega
  | d + 1, i, H, W, hd, h, o, u => by
    have hi := h.lt
    have hn := h.hn
    rw [dN]
    by_cases hk : 2 * i + 1 < n
    · rw [dif_pos hk]
      have kc := pH n H i
      have kn : hJ n H i < n := by omega
      have kne : hJ n H i ≠ i := by omega
      have kp : (hJ n H i - 1) / 2 = i := by omega
      have kb : ∀ k, 0 < k -> k < n -> (k - 1) / 2 = i -> ¬ dJ H[k]! H[hJ n H i]! := by
        intro k k0 k1 k2
        have kk : k = 2 * i + 1 \/ k = 2 * i + 2 := by omega
        unfold hJ
        split
        · rename_i hc
          rcases kk with e | e
          · rw [e]; exact rL hc.2
          · rw [e]; exact fun h => rL h h
        · rename_i hc
          rcases kk with e | e
          · rw [e]; exact fun h => rL h h
          · rw [e] at k1 ⊢; exact fun h => hc ⟨k1, h⟩
      by_cases hl : dJ H[hJ n H i]! x
      · rw [if_pos hl]
        have hm := h.move kn kne
        have cell : ∀ w, (H.set i H[hJ n H i]!)[w]! = if w = i then H[hJ n H i]! else H[w]! := by
          intro w
          rw [bD]
          by_cases e : w = i
          · rw [if_pos ⟨e, by omega⟩, if_pos e]
          · rw [if_neg (fun k => e k.1), if_neg e]
        have o' : E4 n (H.set i H[hJ n H i]!) (hJ n H i) := by
          refine ⟨?_, ?_, ?_⟩
          · intro w hw
            rw [cell]
            split
            · exact o.den _ kn
            · exact o.den _ hw
          · intro k k0 k1 k2 k3
            rw [cell, cell]
            by_cases e : k = i
            · rw [if_pos e, if_neg (by omega)]
              have := o.grand (by omega) (hJ n H i) (by omega) kn kp
              rwa [e]
            · rw [if_neg e]
              by_cases e2 : (k - 1) / 2 = i
              · rw [if_pos e2]; exact kb k k0 k1 e2
              · rw [if_neg e2]; exact o.ord k k0 k1 e e2
          · intro _ k k0 k1 k2
            rw [cell, cell, if_pos kp, if_neg (by omega)]
            have := o.ord k k0 k1 (by omega) (by omega)
            rwa [k2] at this
        obtain ⟨j, H1, W1, e1, e3, e4, e5, e6, e7, e8, e9, e10⟩ := NJ dx d (hJ n H i) _ _ (by omega) hm o' (by
          intro _
          rw [cell, if_pos kp]
          exact rL hl)
        rw [List.length_set] at e5 e6
        refine ⟨j, H1, W1, e1, e3, e4, e5, e6, e7, ?_, ?_, e10⟩
        · intro k hk
          rw [e8 k hk, cell, if_neg (by omega)]
        · intro k hk
          rw [e9 k ?_, bD, if_neg (fun c => hk (hJ n H i) kn kne c.1.symm)]
          intro w hw hwp
          rw [cell]
          split
          · exact hk (hJ n H i) kn kne
          · rename_i e; exact hk w hw e
      · rw [if_neg hl]
        refine ⟨i, H, W, rfl, h, o, rfl, rfl, u, fun _ _ => rfl, fun _ _ => rfl, ?_⟩
        intro k k0 k1 k2
        exact DG dx (o.den _ kn) (o.den _ k1) hl (kb k k0 k1 k2)
    · rw [dif_neg hk]
      refine ⟨i, H, W, rfl, h, o, rfl, rfl, u, fun _ _ => rfl, fun _ _ => rfl, ?_⟩
      intro k k0 k1 k2
      omega
structure DH (n:Nat) (x:Ev) (M:Ev->Prop) (K:Nat->Prop) (H:List Ev) (W:List Int) (H1:List Ev) (W1:List Int):Prop where
 hl:H1.length=H.length
 wl:W1.length=W.length
 ix: ∀w,w<n->0<=(H1[w]!).ix/\(H1[w]!).ix<W.length/\W1[(H1[w]!).n]! =(w:Int)
 mem: ∀e,(∃w,w<n/\H1[w]! =e)↔(e=x\/M e)
 ord: ∀k,0<k->k<n-> ¬dJ H1[k]! H1[(k-1) / 2]!
 out: ∀k,K k->W1[k]! =W[k]!
theorem PC {n:Nat} {x:Ev} {M:Ev->Prop} {H H1:List Ev} {W W1:List Int} {i j:Nat} (h1:E1 n x M H1 W1 j) (o1:E4 n H1 j) (hl:H1.length=H.length) (wl:W1.length=W.length)
 (u:0<j-> ¬dJ x H1[(j-1) / 2]!) (kd: ∀k,0<k->k<n->(k-1) / 2=j-> ¬dJ H1[k]! x) (out: ∀k,(∀w,w<n->w≠i->(H[w]!).n≠k)->W1[k]! =W[k]!):
 DH n x M (fun k=>k≠x.n/\ ∀w,w<n->w≠i->(H[w]!).n≠k) H W (H1.set j x) (W1.set x.n (j:Int)):=by
 have hn:=h1.hn;have hj:=h1.lt;have f:=h1.fill;have cell: ∀w,(H1.set j x)[w]! =if w=j then x else H1[w]!:=by
  intro w;rw [bD]
  by_cases e:w=j
  · rw [if_pos ⟨e,by omega⟩,if_pos e]
  · rw [if_neg (fun k=>e k.1),if_neg e]
 refine ⟨by rw [List.length_set];exact hl,by rw [List.length_set];exact wl,?_,f.2,?_,?_⟩
 · rw [<- wl];exact f.1
 · intro k k0 kn
   rw [cell,cell]
   by_cases e:k=j
   · rw [if_pos e,if_neg (by omega),e];exact u (by omega)
   · rw [if_neg e]
     by_cases e2:(k-1) / 2=j
     · rw [if_pos e2];exact kd k k0 kn e2
     · rw [if_neg e2];exact o1.ord k k0 kn e e2
 · rintro k ⟨k1,k2⟩
   rw [bD,if_neg (fun c=>k1 c.1)]
   exact out k k2
noncomputable def cC (n:Nat) (x:Ev) (i:Nat) (H:List Ev) (W:List Int):List Ev×List Int:=
 let u:=iW x i H W
 let d:=dN n x u.1 u.2.1 u.2.2
 (d.2.1.set d.1 x,d.2.2.set x.n (d.1:Int))
theorem CF {n:Nat} {x:Ev} {M:Ev->Prop} (dx:1<=x.2.1) {i:Nat} {H:List Ev} {W:List Int} (h:E1 n x M H W i) (o:E4 n H i):
 DH n x M (fun k=>k≠x.n/\ ∀w,w<n->w≠i->(H[w]!).n≠k) H W (cC n x i H W).1 (cC n x i H W).2:=by
 obtain ⟨j,H1,W1,e1,e3,e4,e5,e6,e7,e8,e9,e10⟩:=JA dx i H W h o;obtain ⟨k,H2,W2,f1,f3,f4,f5,f6,f7,f8,f9,f10⟩:=NJ dx n j H1 W1 (by omega) e3 e4 e7
 have e:cC n x i H W=(H2.set k x,W2.set x.n (k:Int)):=by
  unfold cC;rw [e1];dsimp only;rw [f1]
 rw [e];refine PC f3 f4 (by omega) (by omega) f7 f10 ?_
 intro c hc;rw [f9 c ?_,e9 c hc];intro w hw hwj hcw;have hm:M H1[w]!:=(e3.mem _).1 ⟨w,hw,hwj,rfl⟩;obtain ⟨v,v1,v2,v3⟩:=(h.mem _).2 hm;exact hc v v1 v2 (by rw [v3];exact hcw)
theorem R8 {n:Nat} {x:Ev} {M:Ev->Prop} (dx:1<=x.2.1) {i:Nat} {H:List Ev} {W:List Int} (h:E1 n x M H W i) (o:E4 n H i) (hk: ∀k,0<k->k<n->(k-1) / 2=i-> ¬dJ H[k]! x):
 cC n x i H W=((iW x i H W).2.1.set (iW x i H W).1 x,(iW x i H W).2.2.set x.n ((iW x i H W).1:Int)):=by
 obtain ⟨j,H1,W1,e1,e3,e4,e5,e6,e7,e8,e9,e10⟩:=JA dx i H W h o;unfold cC;rw [e1];dsimp only;rw [YR (e10 hk)]
end Go.Proofs.YtmlghnibpjlchaaGreat
namespace Go.Proofs.YtmlghnibpjlchaaGreat
open Go.Vm Classical
def rM (x:Ev):Prop:=cE (x.1,x.2.1)/\qK (x.1,x.2.1)/\0<=x.2.2.1/\x.2.2.1<=1000000
theorem rM.den {x:Ev} (h:rM x):1<=x.2.1:=h.1.1
noncomputable def LL (x y:Ev):Int:=if EZ (x.1,x.2.1) (y.1,y.2.1)≠0 then EZ (x.1,x.2.1) (y.1,y.2.1) else jZ x.2.2.1 y.2.2.1
theorem GB (x y:Ev):LL x y<0↔dJ x y:=by
 unfold LL dJ
 by_cases h:EZ (x.1,x.2.1) (y.1,y.2.1)=0
 · rw [if_neg (by simpa using h),h]
   rcases fY x.2.2.1 y.2.2.1 with ⟨h1,e⟩|⟨h1,e⟩|⟨h1,e⟩<;>rw [e]<;>constructor<;>intro<;>omega
 · rw [if_pos h];constructor<;>intro<;>omega
theorem dI {x y:Ev} (hx:rM x) (hy:rM y):bY x y=some (LL x y):=by
 unfold bY LL;rw [aAX hx.2.1 hy.2.1,if_pos ⟨hx.1,hy.1⟩];simp only [aC,kU,DE]
theorem oJ {x y:Ev} (hx:rM x) (hy:rM y):eB x y=some (decide (dJ x y)):=by
 unfold eB dJ;rw [LA hx.2.1 hy.2.1];simp only [aC];generalize EZ (x.1,x.2.1) (y.1,y.2.1)=c
 by_cases h1:c<0
 · simp [h1]
 · by_cases h2:c=0
   · subst h2;simp
   · simp only [h1,fI h2,h2,decide_false,cond_false,false_or,false_and]
theorem HL {x y:Ev}:decide (LL x y<0)=decide (dJ x y):=by simp only [GB]
theorem PD {x y:Ev}:decide (0<=LL x y)=!decide (dJ x y):=by
 have:=GB x y
 by_cases h:dJ x y
 · have h2:=this.2 h
   have: ¬0<=LL x y:=by omega
   simp [h,this]
 · have h2: ¬LL x y<0:=fun k=>h (this.1 k)
   have:0<=LL x y:=by omega
   simp [h,this]
structure nD (n:Nat) (H:List Ev) (W:List Int):Prop where
 hn:n<=H.length
 hb:H.length<=1000000
 ev: ∀w,w<n->rM H[w]!/\0<=(H[w]!).ix/\(H[w]!).ix<W.length
theorem nD.move {n:Nat} {H:List Ev} {W:List Int} (c:nD n H W) {i j:Nat} (_hi:i<n) (hj:j<n) (k:Nat) (v:Int):nD n (H.set i H[j]!) (W.set k v):=by
 have hn:=c.hn;refine ⟨by rw [List.length_set];exact hn,by rw [List.length_set];exact c.hb,?_⟩
 intro w hw;rw [bD,List.length_set];split
 · exact c.ev j hj
 · exact c.ev w hw
theorem JB {H:List Ev} {W:List Int} {x:Ev} {u fr:List Int} {us:List Bool} {i:Nat} (hi:i<H.length) (h0:0<=x.ix) (h1:x.ix<W.length):
 bT (u,us,fr,(i:Int),x.1,x.2.1,x.2.2.1,x.2.2.2.1,x.2.2.2.2,H,W)=some (H.set i x,W.set x.n (i:Int)):=by
 unfold bT;have e1:=aB H i hi;have e2:=dK (l:=W) h0 h1;simp only [e1,e2,aC,BW,beq_self_eq_true,cond_true];rfl
theorem JC {n cap:Nat} {H:List Ev} {W:List Int} {x:Ev} {u fr:List Int} {us:List Bool} {i:Nat} (hi:i<n) (hn:n<=H.length) (h0:0<=x.ix) (h1:x.ix<W.length):
 bS (u,us,fr,n,cap,(i:Int),x.1,x.2.1,x.2.2.1,x.2.2.2.1,x.2.2.2.2,H,W)=some (H.set i x,W.set x.n (i:Int)):=by
 unfold bS;have e1:=aB (H.take n) i (by rw [List.length_take];omega)
 have e2:=dK (l:=W) h0 h1;simp only [e1,e2,aC,BW,beq_self_eq_true,cond_true];rfl
theorem uA {i:Nat} (h:i<1000000000):aA .i64 (Int.tdiv (aA .i64 (((i+1:Nat):Int) -1)) 2)=((i / 2:Nat):Int):=by
 have e:aA .i64 (((i+1:Nat):Int) -1)=(i:Int):=by rw [wi];omega
 rw [e,Int.tdiv_eq_ediv_of_nonneg (by omega),wi];omega
theorem yB {i:Nat} (h:i<1000000000):aA .i64 ((aA .i64 (2*(i:Int)))+1)=((2*i+1:Nat):Int):=by
 have e:aA .i64 (2*(i:Int))=((2*i:Nat):Int):=by rw [wi];omega
 rw [e,wi];omega
theorem CG {n:Nat} {x:Ev}: ∀{i:Nat} {H:List Ev} {W:List Int} {j:Nat} {H1:List Ev} {W1:List Int},nD n H W->i<n->iW x i H W=(j,H1,W1)-> ∀w,w<n->rM H1[w]!/\0<=(H1[w]!).ix/\(H1[w]!).ix<W.length
 |0,H,W,j,H1,W1,c,hi,e=>by
  rw [iW] at e;injection e with e1 e;injection e with e2 e3;subst e2;exact c.ev
 |i+1,H,W,j,H1,W1,c,hi,e=>by
  rw [iW] at e;split at e
  · have:=CG (c.move hi (show i / 2<n by omega) (H[i / 2]!).n ((i+1:Nat):Int)) (by omega) e
    rw [List.length_set] at this;exact this
  · injection e with e1 e;injection e with e2 e3
    subst e2;exact c.ev
termination_by i=>i
decreasing_by omega
theorem UT {c0:List Int×List Bool×List Int×Int×Int×Int×Int×Int×Int×List Ev×List Int} {n i:Nat} {H:List Ev} {W:List Int} {u fr:List Int} {us:List Bool} {x:Ev}
 (c:nD n H W) (hn:H.length=n) (hi:i<n) (hx:rM x) (x0:0<=x.ix) (x1:x.ix<W.length) (l1:c0.2.2.2.2.2.2.2.2.2.1.length=n) (l2:c0.2.2.2.2.2.2.2.2.2.2.length=W.length):
 fV c0 ((i:Int),((2*i+1:Nat):Int),H,W,u,us,fr,x)=
  some (if 2*i+1<n/\dJ H[hJ n H i]! x then .next (((hJ n H i:Nat):Int),((2*hJ n H i+1:Nat):Int),H.set i H[hJ n H i]!,W.set (H[hJ n H i]!).n (i:Int),u,us,fr,x)
   else .done (.done (H.set i x,W.set x.n (i:Int)))):=by
 have hb:=c.hb;have fin:(bT (u,us,fr,(i:Int),x.1,x.2.1,x.2.2.1,x.2.2.2.1,x.2.2.2.2,H,W))=some (H.set i x,W.set x.n (i:Int)):=JB (by omega) x0 x1
 have ln1:(H.set i x).length=c0.2.2.2.2.2.2.2.2.2.1.length:=by rw [List.length_set];omega
 have ln2:(W.set x.n (i:Int)).length=c0.2.2.2.2.2.2.2.2.2.2.length:=by rw [List.length_set];omega
 unfold fV;simp only [aE,hn,fin,aC,ln1,ln2,beq_self_eq_true,cond_true]
 by_cases h1:2*i+1<n
 · have e1:decide (((2*i+1:Nat):Int)<(n:Int))=true:=by simp;omega
   have e2:aA .i64 (((2*i+1:Nat):Int)+1)=((2*i+2:Nat):Int):=bA (by omega)
   obtain ⟨ok1,a1,a2⟩:=c.ev (2*i+1) h1;have g1:=aB H (2*i+1) (by omega)
   have s1:(bT (u,us,fr,(i:Int),(H[2*i+1]!).1,(H[2*i+1]!).2.1,(H[2*i+1]!).2.2.1,(H[2*i+1]!).2.2.2.1,(H[2*i+1]!).2.2.2.2,H,W))=some (H.set i H[2*i+1]!,W.set (H[2*i+1]!).n (i:Int)):=JB (by omega) a1 a2
   simp only [e1,e2,cond_true,g1,aC,s1,dI ok1 hx,PD,yB (show 2*i+1<1000000000 by omega)]
   by_cases h2:2*i+2<n
   · have e3:decide (((2*i+2:Nat):Int)<(n:Int))=true:=by simp;omega
     obtain ⟨ok2,b1,b2⟩:=c.ev (2*i+2) h2;have g2:=aB H (2*i+2) (by omega)
     have s2:(bT (u,us,fr,(i:Int),(H[2*i+2]!).1,(H[2*i+2]!).2.1,(H[2*i+2]!).2.2.1,(H[2*i+2]!).2.2.2.1,(H[2*i+2]!).2.2.2.2,H,W))=some (H.set i H[2*i+2]!,W.set (H[2*i+2]!).n (i:Int)):=JB (by omega) b1 b2
     simp only [e3,cond_true,g2,aC,s2,dI ok2 hx,dI ok2 ok1,HL,PD,yB (show 2*i+2<1000000000 by omega)]
     by_cases h3:dJ H[2*i+2]! H[2*i+1]!
     · have k:hJ n H i=2*i+2:=by unfold hJ;rw [if_pos ⟨h2,h3⟩]
       rw [k]
       by_cases h4:dJ H[2*i+2]! x
       · simp only [h1,h3,h4,decide_true,cond_true,cond_false,Bool.not_true,and_self,if_true]
       · simp only [h1,h3,h4,decide_true,decide_false,cond_true,Bool.not_false,and_false,if_false]
     · have k:hJ n H i=2*i+1:=by unfold hJ;rw [if_neg (fun h=>h3 h.2)]
       rw [k]
       by_cases h4:dJ H[2*i+1]! x
       · simp only [h1,h3,h4,decide_true,decide_false,cond_false,Bool.not_true,and_self,if_true]
       · simp only [h1,h3,h4,decide_false,cond_true,cond_false,Bool.not_false,and_false,if_false]
   · have e3:decide (((2*i+2:Nat):Int)<(n:Int))=false:=by simp;omega
     have k:hJ n H i=2*i+1:=by unfold hJ;rw [if_neg (fun h=>h2 h.1)]
     rw [k];simp only [e3,cond_false]
     by_cases h4:dJ H[2*i+1]! x
     · simp only [h1,h4,decide_true,cond_false,Bool.not_true,and_self,if_true]
     · simp only [h1,h4,decide_false,cond_true,Bool.not_false,and_false,if_false]
 · have e1:decide (((2*i+1:Nat):Int)<(n:Int))=false:=by simp;omega
   rw [if_neg (fun h=>h1 h.1),e1];rfl
theorem AR {c0 : List Int × List Bool × List Int × Int × Int × Int × Int × Int × Int × List Ev × List Int} {n : Nat} {u fr : List Int} {us : List Bool} {x : Ev} (hx : rM x) (x0 : 0 <= x.ix) (l1 : c0.2.2.2.2.2.2.2.2.2.1.length = n) :
    ∀ (d i : Nat) (H : List Ev) (W : List Int), n - i <= d -> nD n H W -> H.length = n -> i < n -> x.ix < W.length -> c0.2.2.2.2.2.2.2.2.2.2.length = W.length ->
      aH (fV c0) ((i : Int), ((2 * i + 1 : Nat) : Int), H, W, u, us, fr, x) = some (.done ((dN n x i H W).2.1.set (dN n x i H W).1 x, (dN n x i H W).2.2.set x.n ((dN n x i H W).1 : Int)))
  | 0, i, H, W, hd, c, hn, hi, x1, l2 => by omega
  | d + 1, i, H, W, hd, c, hn, hi, x1, l2 => by
    have r := UT (u := u) (us := us) (fr := fr) c hn hi hx x0 x1 l1 l2
    by_cases h : 2 * i + 1 < n /\ dJ H[hJ n H i]! x
    · rw [if_pos h] at r
      have kc := pH n H i
      have kn : hJ n H i < n := by omega
      rw [aV r, AR hx x0 l1 d (hJ n H i) _ _ (by omega) (c.move hi kn _ _) (by rw [List.length_set]; exact hn) kn (by rw [List.length_set]; exact x1) (by rw [List.length_set]; exact l2)]
      have e : dN n x i H W = dN n x (hJ n H i) (H.set i H[hJ n H i]!) (W.set (H[hJ n H i]!).n (i : Int)) := by
        rw [dN, dif_pos h.1, if_pos h.2]
      rw [e]
    · rw [if_neg h] at r
      rw [aI r]
      have e : dN n x i H W = (i, H, W) := by
        rw [dN]
        split
        · rename_i h1; rw [if_neg (fun k => h ⟨h1, k⟩)]
        · rfl
      rw [e]
theorem LM {c0 : List Int × List Bool × List Int × Int × Int × Int × Int × Int × Int × List Ev × List Int} {n : Nat} {u fr : List Int} {us : List Bool} {x : Ev} (hx : rM x) (x0 : 0 <= x.ix) (l1 : c0.2.2.2.2.2.2.2.2.2.1.length = n) :
    ∀ (i : Nat) (H : List Ev) (W : List Int), nD n H W -> H.length = n -> i < n -> x.ix < W.length -> c0.2.2.2.2.2.2.2.2.2.2.length = W.length ->
      aH (eE c0) ((i : Int), H, W, u, us, fr, x) = some (cC n x i H W)
  | 0, H, W, c, hn, hi, x1, l2 => by
    have hb := c.hb
    have dn := AR (u := u) (us := us) (fr := fr) hx x0 l1 n 0 H W (by omega) c hn hi x1 l2
    refine (aI (r := cC n x 0 H W) ?_)
    unfold eE
    have e1 : decide ((0 : Int) < ((0 : Nat) : Int)) = false := by simp
    simp only [e1, cond_false, yB (show 0 < 1000000000 by omega)]
    rw [dn]
    unfold cC
    rw [iW]
  | i + 1, H, W, c, hn, hi, x1, l2 => by
    have hb := c.hb
    have e1 : decide ((0 : Int) < ((i + 1 : Nat) : Int)) = true := decide_eq_true (by omega)
    have hp : i / 2 < n := by omega
    obtain ⟨ok1, a1, a2⟩ := c.ev (i / 2) hp
    have g1 := aB H (i / 2) (by omega)
    have s1 : (bT (u, us, fr, ((i + 1 : Nat) : Int), (H[i / 2]!).1, (H[i / 2]!).2.1, (H[i / 2]!).2.2.1, (H[i / 2]!).2.2.2.1, (H[i / 2]!).2.2.2.2, H, W)) = some (H.set (i + 1) H[i / 2]!, W.set (H[i / 2]!).n ((i + 1 : Nat) : Int)) := JB (by omega) a1 a2
    by_cases h : dJ x H[i / 2]!
    · have r : eE c0 (((i + 1 : Nat) : Int), H, W, u, us, fr, x) = some (.next (((i / 2 : Nat) : Int), H.set (i + 1) H[i / 2]!, W.set (H[i / 2]!).n ((i + 1 : Nat) : Int), u, us, fr, x)) := by
        unfold eE
        simp only [e1, cond_true, uA (show i < 1000000000 by omega), g1, aC, dI hx ok1, HL, h, decide_true, s1]
      rw [aV r, LM hx x0 l1 (i / 2) _ _ (c.move hi hp _ _) (by rw [List.length_set]; exact hn) hp (by rw [List.length_set]; exact x1) (by rw [List.length_set]; exact l2)]
      have e : iW x (i + 1) H W = iW x (i / 2) (H.set (i + 1) H[i / 2]!) (W.set (H[i / 2]!).n ((i + 1 : Nat) : Int)) := by
        rw [iW, if_pos h]
      unfold cC
      rw [e]
    · have dn := AR (u := u) (us := us) (fr := fr) hx x0 l1 n (i + 1) H W (by omega) c hn hi x1 l2
      refine (aI (r := cC n x (i + 1) H W) ?_)
      unfold eE
      simp only [e1, cond_true, uA (show i < 1000000000 by omega), g1, aC, dI hx ok1, HL, h, decide_false, cond_false, yB (show i + 1 < 1000000000 by omega)]
      rw [dn]
      unfold cC
      rw [iW, if_neg h]
termination_by i=>i
decreasing_by omega
theorem LN {n:Nat} {u fr:List Int} {us:List Bool} {x:Ev} (hx:rM x) (x0:0<=x.ix) {i:Nat} {H:List Ev} {W:List Int} (c:nD n H W) (hn:H.length=n) (hi:i<n) (x1:x.ix<W.length):
 eL (u,us,fr,(i:Int),x.1,x.2.1,x.2.2.1,x.2.2.2.1,x.2.2.2.2,H,W)=some (cC n x i H W):=by
 unfold eL;exact LM hx x0 hn i H W c hn hi x1 rfl
end Go.Proofs.YtmlghnibpjlchaaGreat
namespace Go.Proofs.YtmlghnibpjlchaaGreat
open Go.Vm Classical
theorem gG {l:List Ev} {n i:Nat} (h:i<n) (hn:n<=l.length):aJ (l.take n) (i:Int)=some l[i]!:=by
 rw [aB (l.take n) i (by rw [List.length_take];omega),mF h]
theorem UU {c0:List Int×List Bool×List Int×Nat×Nat×Int×Int×Int×Int×Int×Int×List Ev×List Int} {n cap i:Nat} {H:List Ev} {W:List Int} {u fr:List Int} {us:List Bool} {x:Ev}
 (c:nD n H W) (hi:i<n) (hx:rM x) (x0:0<=x.ix) (x1:x.ix<W.length) (l1:c0.2.2.2.2.2.2.2.2.2.2.2.1.length=H.length) (l2:c0.2.2.2.2.2.2.2.2.2.2.2.2.length=W.length):
 fU c0 ((i:Int),((2*i+1:Nat):Int),H,W,u,us,fr,n,cap,x)=
  some (if 2*i+1<n/\dJ H[hJ n H i]! x then .next (((hJ n H i:Nat):Int),((2*hJ n H i+1:Nat):Int),H.set i H[hJ n H i]!,W.set (H[hJ n H i]!).n (i:Int),u,us,fr,n,cap,x)
   else .done (.done (H.set i x,W.set x.n (i:Int)))):=by
 have hb:=c.hb;have hnn:=c.hn;have fin:(bS (u,us,fr,n,cap,(i:Int),x.1,x.2.1,x.2.2.1,x.2.2.2.1,x.2.2.2.2,H,W))=some (H.set i x,W.set x.n (i:Int)):=JC (cap:=cap) (by omega) c.hn x0 x1
 have ln1:(H.set i x).length=c0.2.2.2.2.2.2.2.2.2.2.2.1.length:=by rw [List.length_set];omega
 have ln2:(W.set x.n (i:Int)).length=c0.2.2.2.2.2.2.2.2.2.2.2.2.length:=by rw [List.length_set];omega
 unfold fU;simp only [aE,fin,aC,ln1,ln2,beq_self_eq_true,cond_true]
 by_cases h1:2*i+1<n
 · have e1:decide (((2*i+1:Nat):Int)<(n:Int))=true:=by simp;omega
   have e2:aA .i64 (((2*i+1:Nat):Int)+1)=((2*i+2:Nat):Int):=bA (by omega)
   obtain ⟨ok1,a1,a2⟩:=c.ev (2*i+1) h1;have g1:=gG (l:=H) (n:=n) (i:=2*i+1) (by omega) c.hn
   have s1:(bS (u,us,fr,n,cap,(i:Int),(H[2*i+1]!).1,(H[2*i+1]!).2.1,(H[2*i+1]!).2.2.1,(H[2*i+1]!).2.2.2.1,(H[2*i+1]!).2.2.2.2,H,W))=some (H.set i H[2*i+1]!,W.set (H[2*i+1]!).n (i:Int)):=JC (cap:=cap) (by omega) c.hn a1 a2
   simp only [e1,e2,cond_true,g1,aC,s1,dI ok1 hx,PD,yB (show 2*i+1<1000000000 by omega)]
   by_cases h2:2*i+2<n
   · have e3:decide (((2*i+2:Nat):Int)<(n:Int))=true:=by simp;omega
     obtain ⟨ok2,b1,b2⟩:=c.ev (2*i+2) h2;have g2:=gG (l:=H) (n:=n) (i:=2*i+2) (by omega) c.hn
     have s2:(bS (u,us,fr,n,cap,(i:Int),(H[2*i+2]!).1,(H[2*i+2]!).2.1,(H[2*i+2]!).2.2.1,(H[2*i+2]!).2.2.2.1,(H[2*i+2]!).2.2.2.2,H,W))=some (H.set i H[2*i+2]!,W.set (H[2*i+2]!).n (i:Int)):=JC (cap:=cap) (by omega) c.hn b1 b2
     simp only [e3,cond_true,g2,aC,s2,dI ok2 hx,dI ok2 ok1,HL,PD,yB (show 2*i+2<1000000000 by omega)]
     by_cases h3:dJ H[2*i+2]! H[2*i+1]!
     · have k:hJ n H i=2*i+2:=by unfold hJ;rw [if_pos ⟨h2,h3⟩]
       rw [k]
       by_cases h4:dJ H[2*i+2]! x
       · simp only [h1,h3,h4,decide_true,cond_true,cond_false,Bool.not_true,and_self,if_true]
       · simp only [h1,h3,h4,decide_true,decide_false,cond_true,Bool.not_false,and_false,if_false]
     · have k:hJ n H i=2*i+1:=by unfold hJ;rw [if_neg (fun h=>h3 h.2)]
       rw [k]
       by_cases h4:dJ H[2*i+1]! x
       · simp only [h1,h3,h4,decide_true,decide_false,cond_false,Bool.not_true,and_self,if_true]
       · simp only [h1,h3,h4,decide_false,cond_true,cond_false,Bool.not_false,and_false,if_false]
   · have e3:decide (((2*i+2:Nat):Int)<(n:Int))=false:=by simp;omega
     have k:hJ n H i=2*i+1:=by unfold hJ;rw [if_neg (fun h=>h2 h.1)]
     rw [k];simp only [e3,cond_false]
     by_cases h4:dJ H[2*i+1]! x
     · simp only [h1,h4,decide_true,cond_false,Bool.not_true,and_self,if_true]
     · simp only [h1,h4,decide_false,cond_true,Bool.not_false,and_false,if_false]
 · have e1:decide (((2*i+1:Nat):Int)<(n:Int))=false:=by simp;omega
   rw [if_neg (fun h=>h1 h.1),e1];rfl
theorem AS {c0 : List Int × List Bool × List Int × Nat × Nat × Int × Int × Int × Int × Int × Int × List Ev × List Int} {n cap : Nat} {u fr : List Int} {us : List Bool} {x : Ev} (hx : rM x) (x0 : 0 <= x.ix) :
    ∀ (d i : Nat) (H : List Ev) (W : List Int), n - i <= d -> nD n H W -> c0.2.2.2.2.2.2.2.2.2.2.2.1.length = H.length -> i < n -> x.ix < W.length -> c0.2.2.2.2.2.2.2.2.2.2.2.2.length = W.length ->
      aH (fU c0) ((i : Int), ((2 * i + 1 : Nat) : Int), H, W, u, us, fr, n, cap, x) = some (.done ((dN n x i H W).2.1.set (dN n x i H W).1 x, (dN n x i H W).2.2.set x.n ((dN n x i H W).1 : Int)))
  | 0, i, H, W, hd, c, hn, hi, x1, l2 => by omega
  | d + 1, i, H, W, hd, c, hn, hi, x1, l2 => by
    have r := UU (u := u) (us := us) (fr := fr) (cap := cap) c hi hx x0 x1 hn l2
    by_cases h : 2 * i + 1 < n /\ dJ H[hJ n H i]! x
    · rw [if_pos h] at r
      have kc := pH n H i
      have kn : hJ n H i < n := by omega
      rw [aV r, AS hx x0 d (hJ n H i) _ _ (by omega) (c.move hi kn _ _) (by rw [List.length_set]; exact hn) kn (by rw [List.length_set]; exact x1) (by rw [List.length_set]; exact l2)]
      have e : dN n x i H W = dN n x (hJ n H i) (H.set i H[hJ n H i]!) (W.set (H[hJ n H i]!).n (i : Int)) := by
        rw [dN, dif_pos h.1, if_pos h.2]
      rw [e]
    · rw [if_neg h] at r
      rw [aI r]
      have e : dN n x i H W = (i, H, W) := by
        rw [dN]
        split
        · rename_i h1; rw [if_neg (fun k => h ⟨h1, k⟩)]
        · rfl
      rw [e]
theorem LO {c0 : List Int × List Bool × List Int × Nat × Nat × Int × Int × Int × Int × Int × Int × List Ev × List Int} {n cap : Nat} {u fr : List Int} {us : List Bool} {x : Ev} (hx : rM x) (x0 : 0 <= x.ix) :
    ∀ (i : Nat) (H : List Ev) (W : List Int), nD n H W -> c0.2.2.2.2.2.2.2.2.2.2.2.1.length = H.length -> i < n -> x.ix < W.length -> c0.2.2.2.2.2.2.2.2.2.2.2.2.length = W.length ->
      aH (eD c0) ((i : Int), H, W, u, us, fr, n, cap, x) = some (cC n x i H W)
  | 0, H, W, c, hn, hi, x1, l2 => by
    have hb := c.hb
    have hnn := c.hn
    have dn := AS (u := u) (us := us) (fr := fr) (cap := cap) hx x0 n 0 H W (by omega) c hn hi x1 l2
    refine (aI (r := cC n x 0 H W) ?_)
    unfold eD
    have e1 : decide ((0 : Int) < ((0 : Nat) : Int)) = false := by simp
    simp only [e1, cond_false, yB (show 0 < 1000000000 by omega)]
    rw [dn]
    unfold cC
    rw [iW]
  | i + 1, H, W, c, hn, hi, x1, l2 => by
    have hb := c.hb
    have hnn := c.hn
    have e1 : decide ((0 : Int) < ((i + 1 : Nat) : Int)) = true := decide_eq_true (by omega)
    have hp : i / 2 < n := by omega
    obtain ⟨ok1, a1, a2⟩ := c.ev (i / 2) hp
    have g1 := gG (l := H) (n := n) (i := i / 2) (by omega) c.hn
    have s1 : (bS (u, us, fr, n, cap, ((i + 1 : Nat) : Int), (H[i / 2]!).1, (H[i / 2]!).2.1, (H[i / 2]!).2.2.1, (H[i / 2]!).2.2.2.1, (H[i / 2]!).2.2.2.2, H, W)) = some (H.set (i + 1) H[i / 2]!, W.set (H[i / 2]!).n ((i + 1 : Nat) : Int)) := JC (cap := cap) (by omega) c.hn a1 a2
    by_cases h : dJ x H[i / 2]!
    · have r : eD c0 (((i + 1 : Nat) : Int), H, W, u, us, fr, n, cap, x) = some (.next (((i / 2 : Nat) : Int), H.set (i + 1) H[i / 2]!, W.set (H[i / 2]!).n ((i + 1 : Nat) : Int), u, us, fr, n, cap, x)) := by
        unfold eD
        simp only [e1, cond_true, uA (show i < 1000000000 by omega), g1, aC, dI hx ok1, HL, h, decide_true, s1]
      rw [aV r, LO hx x0 (i / 2) _ _ (c.move hi hp _ _) (by rw [List.length_set]; exact hn) hp (by rw [List.length_set]; exact x1) (by rw [List.length_set]; exact l2)]
      have e : iW x (i + 1) H W = iW x (i / 2) (H.set (i + 1) H[i / 2]!) (W.set (H[i / 2]!).n ((i + 1 : Nat) : Int)) := by
        rw [iW, if_pos h]
      unfold cC
      rw [e]
    · have dn := AS (u := u) (us := us) (fr := fr) (cap := cap) hx x0 n (i + 1) H W (by omega) c hn hi x1 l2
      refine (aI (r := cC n x (i + 1) H W) ?_)
      unfold eD
      simp only [e1, cond_true, uA (show i < 1000000000 by omega), g1, aC, dI hx ok1, HL, h, decide_false, cond_false, yB (show i + 1 < 1000000000 by omega)]
      rw [dn]
      unfold cC
      rw [iW, if_neg h]
termination_by i=>i
decreasing_by omega
theorem UV {n cap:Nat} {u fr:List Int} {us:List Bool} {x:Ev} (hx:rM x) (x0:0<=x.ix) {i:Nat} {H:List Ev} {W:List Int} (c:nD n H W) (hi:i<n) (x1:x.ix<W.length):
 kD (u,us,fr,n,cap,(i:Int),x.1,x.2.1,x.2.2.1,x.2.2.2.1,x.2.2.2.2,H,W)=some (cC n x i H W):=by
 unfold kD;exact LO hx x0 i H W c rfl hi x1 rfl
end Go.Proofs.YtmlghnibpjlchaaGreat
namespace Go.Proofs.YtmlghnibpjlchaaGreat
open Go.Vm Classical
theorem LP {n cap:Nat} {H:List Ev} {W:List Int} {x:Ev} {u fr:List Int} {us:List Bool} {i k:Nat} (hi:i<n) (hk:k<n) (hik:k≠i) (hn:n<=H.length) (x0:0<=x.ix) (x1:x.ix<W.length) (k0:0<=(H[k]!).ix) (k1:(H[k]!).ix<W.length):
 gH (u,us,fr,n,cap,(i:Int),(k:Int),H.set i x,W.set x.n (i:Int))=some ((H.set i H[k]!).set k x,(W.set (H[k]!).n (i:Int)).set x.n (k:Int)):=by
 have cell: ∀w,(H.set i x)[w]! =if w=i then x else H[w]!:=by
  intro w;rw [bD]
  by_cases e:w=i
  · rw [if_pos ⟨e,by omega⟩,if_pos e]
  · rw [if_neg (fun k=>e k.1),if_neg e]
 have sh:((H.set i x).set i H[k]!).set k x=(H.set i H[k]!).set k x:=by rw [List.set_set]
 have sw:((W.set x.n (i:Int)).set (H[k]!).n (i:Int)).set x.n (k:Int)=(W.set (H[k]!).n (i:Int)).set x.n (k:Int):=by
  by_cases e:x.n=(H[k]!).n
  · simp only [e,List.set_set]
  · rw [List.set_comm _ _ (fun h=>e h),List.set_set]
 have g1:aJ ((H.set i x).take n) (k:Int)=some H[k]!:=by rw [gG (by omega) (by rw [List.length_set];omega),cell,if_neg hik]
 have g2:aJ ((H.set i x).take n) (i:Int)=some x:=by rw [gG (by omega) (by rw [List.length_set];omega),cell,if_pos rfl]
 have g3:aJ (((H.set i x).set i H[k]!).take n) (k:Int)=some H[k]!:=by rw [gG (by omega) (by rw [List.length_set,List.length_set];omega),bD,if_neg (fun h=>hik h.1),cell,if_neg hik]
 have g4:aJ (((H.set i H[k]!).set k x).take n) (i:Int)=some H[k]!:=by rw [gG (by omega) (by rw [List.length_set,List.length_set];omega),bD,if_neg (fun h=>hik h.1.symm),bD,if_pos ⟨rfl,by omega⟩]
 have g5:aJ (((H.set i H[k]!).set k x).take n) (k:Int)=some x:=by rw [gG (by omega) (by rw [List.length_set,List.length_set];omega),bD,if_pos ⟨rfl,by rw [List.length_set];omega⟩]
 have w6:=dK (l:=W.set x.n (i:Int)) k0 (by rw [List.length_set];exact k1)
 have w7:=dK (l:=(W.set x.n (i:Int)).set (H[k]!).n (i:Int)) x0 (by rw [List.length_set,List.length_set];exact x1)
 have q1: ∀(l:List Int) (a:Int) (y:Ev),bJ l y.2.2.2.1 a=l.set y.n a:=fun _ _ _=>rfl
 unfold gH;simp only [fX,g1,g2,g3,aC,sh,g4,g5,q1,w6,w7,sw,List.length_set,beq_self_eq_true,cond_true]
theorem aA4 {c0:List Int×List Bool×List Int×Nat×Nat×Int×List Ev×List Int} {n cap:Nat} {u fr:List Int} {us:List Bool} {x:Ev} (hx:rM x) (x0:0<=x.ix):
 ∀(i:Nat) (H:List Ev) (W:List Int),nD n H W->i<n->x.ix<W.length->c0.2.2.2.2.2.2.1.length=H.length->c0.2.2.2.2.2.2.2.length=W.length->
  aH (gV c0) ((i:Int),H.set i x,W.set x.n (i:Int),u,us,fr,n,cap)=some (((iW x i H W).1:Int),(iW x i H W).2.1.set (iW x i H W).1 x,(iW x i H W).2.2.set x.n ((iW x i H W).1:Int))
 |0,H,W,c,hi,x1,l1,l2=>by
  have hnn:=c.hn;refine aI ?_;unfold gV;have e1:decide ((0:Int)<((0:Nat):Int))=false:=by simp
  rw [iW];simp only [e1,cond_false,List.length_set,l1,l2,beq_self_eq_true,cond_true]
 |i+1,H,W,c,hi,x1,l1,l2=>by
  have hb:=c.hb;have hnn:=c.hn;have e1:decide ((0:Int)<((i+1:Nat):Int))=true:=decide_eq_true (by omega)
  have hp:i / 2<n:=by omega
  have hne:i / 2≠i+1:=by omega
  obtain ⟨ok1,a1,a2⟩:=c.ev (i / 2) hp;have cell: ∀w,(H.set (i+1) x)[w]! =if w=i+1 then x else H[w]!:=by
   intro w;rw [bD]
   by_cases e:w=i+1
   · rw [if_pos ⟨e,by omega⟩,if_pos e]
   · rw [if_neg (fun k=>e k.1),if_neg e]
  have g0:aJ ((H.set (i+1) x).take n) ((i+1:Nat):Int)=some x:=by rw [gG (by omega) (by rw [List.length_set];omega),cell,if_pos rfl]
  have g1:aJ ((H.set (i+1) x).take n) ((i / 2:Nat):Int)=some H[i / 2]!:=by rw [gG (by omega) (by rw [List.length_set];omega),cell,if_neg hne]
  by_cases h:dJ x H[i / 2]!
  · have sw:=LP (cap:=cap) (u:=u) (us:=us) (fr:=fr) (x:=x) hi hp hne hnn x0 x1 a1 a2
    have r:gV c0 (((i+1:Nat):Int),H.set (i+1) x,W.set x.n ((i+1:Nat):Int),u,us,fr,n,cap)=some (.next (((i / 2:Nat):Int),(H.set (i+1) H[i / 2]!).set (i / 2) x,(W.set (H[i / 2]!).n ((i+1:Nat):Int)).set x.n ((i / 2:Nat):Int),u,us,fr,n,cap)):=by
     unfold gV;simp only [e1,cond_true,uA (show i<1000000000 by omega),g0,g1,aC,oJ hx ok1,h,decide_true,sw]
    rw [aV r,aA4 hx x0 (i / 2) _ _ (c.move hi hp _ _) hp (by rw [List.length_set];exact x1) (by rw [List.length_set];exact l1) (by rw [List.length_set];exact l2)]
    have e:iW x (i+1) H W=iW x (i / 2) (H.set (i+1) H[i / 2]!) (W.set (H[i / 2]!).n ((i+1:Nat):Int)):=by
     rw [iW,if_pos h]
    rw [e]
  · refine aI ?_
    unfold gV;have e:iW x (i+1) H W=(i+1,H,W):=by rw [iW,if_neg h]
    rw [e];simp only [e1,cond_true,uA (show i<1000000000 by omega),g0,g1,aC,oJ hx ok1,h,decide_false,cond_false,List.length_set,l1,l2,beq_self_eq_true]
termination_by i=>i
decreasing_by omega
theorem R9 {c0:List Int×List Bool×List Int×Nat×Nat×Int×List Ev×List Int} {n cap:Nat} {u fr:List Int} {us:List Bool} {x:Ev} (hx:rM x) (x0:0<=x.ix):
 ∀(d i:Nat) (H:List Ev) (W:List Int),n-i<=d->nD n H W->i<n->x.ix<W.length->c0.2.2.2.2.2.2.1.length=H.length->c0.2.2.2.2.2.2.2.length=W.length->
  aH (kE c0) ((i:Int),H.set i x,W.set x.n (i:Int),u,us,fr,n,cap)=some (((dN n x i H W).2.1.set (dN n x i H W).1 x,(dN n x i H W).2.2.set x.n ((dN n x i H W).1:Int)))
 |0,i,H,W,hd,c,hi,x1,l1,l2=>by omega
 |d+1,i,H,W,hd,c,hi,x1,l1,l2=>by
  have hb:=c.hb;have hnn:=c.hn;have cell: ∀w,(H.set i x)[w]! =if w=i then x else H[w]!:=by
   intro w;rw [bD]
   by_cases e:w=i
   · rw [if_pos ⟨e,by omega⟩,if_pos e]
   · rw [if_neg (fun k=>e k.1),if_neg e]
  have len0:(H.set i x).length=H.length:=List.length_set;have body:kE c0 ((i:Int),H.set i x,W.set x.n (i:Int),u,us,fr,n,cap)=some (if 2*i+1<n/\dJ H[hJ n H i]! x then .next (((hJ n H i:Nat):Int),(H.set i H[hJ n H i]!).set (hJ n H i) x,(W.set (H[hJ n H i]!).n (i:Int)).set x.n ((hJ n H i:Nat):Int),u,us,fr,n,cap) else .done ((H.set i x,W.set x.n (i:Int)))):=by
   have k1:=yB (show i<1000000000 by omega)
   unfold kE
   by_cases h1:2*i+1<n
   · have e1:decide ((n:Int)<=((2*i+1:Nat):Int))=false:=decide_eq_false (by omega)
     have e2:aA .i64 (((2*i+1:Nat):Int)+1)=((2*i+2:Nat):Int):=bA (by omega)
     obtain ⟨ok1,a1,a2⟩:=c.ev (2*i+1) h1;have g0:aJ ((H.set i x).take n) (i:Int)=some x:=by rw [gG (by omega) (by rw [List.length_set];omega),cell,if_pos rfl]
     have g1:aJ ((H.set i x).take n) ((2*i+1:Nat):Int)=some H[2*i+1]!:=by rw [gG (by omega) (by rw [List.length_set];omega),cell,if_neg (by omega)]
     have s1:=LP (cap:=cap) (u:=u) (us:=us) (fr:=fr) (x:=x) hi h1 (by omega) hnn x0 x1 a1 a2
     simp only [aE,k1,len0,e1,e2,cond_false,g0,g1,aC,oJ ok1 hx,s1,List.length_set,l1,l2,beq_self_eq_true,cond_true]
     by_cases h2:2*i+2<n
     · have e3:decide (((2*i+2:Nat):Int)<(n:Int))=true:=decide_eq_true (by omega)
       obtain ⟨ok2,b1,b2⟩:=c.ev (2*i+2) h2;have g2:aJ ((H.set i x).take n) ((2*i+2:Nat):Int)=some H[2*i+2]!:=by rw [gG (by omega) (by rw [List.length_set];omega),cell,if_neg (by omega)]
       have s2:=LP (cap:=cap) (u:=u) (us:=us) (fr:=fr) (x:=x) hi h2 (by omega) hnn x0 x1 b1 b2
       simp only [e3,cond_true,g2,aC,s2,oJ ok2 hx,oJ ok2 ok1]
       by_cases h3:dJ H[2*i+2]! H[2*i+1]!
       · have k:hJ n H i=2*i+2:=by unfold hJ;rw [if_pos ⟨h2,h3⟩]
         rw [k]
         by_cases h4:dJ H[2*i+2]! x
         · simp only [h1,h3,h4,decide_true,cond_true,cond_false,Bool.not_true,and_self,if_true]
         · simp only [h1,h3,h4,decide_true,decide_false,cond_true,Bool.not_false,and_false,if_false]
       · have k:hJ n H i=2*i+1:=by unfold hJ;rw [if_neg (fun h=>h3 h.2)]
         rw [k]
         by_cases h4:dJ H[2*i+1]! x
         · simp only [h1,h3,h4,decide_true,decide_false,cond_false,Bool.not_true,and_self,if_true]
         · simp only [h1,h3,h4,decide_false,cond_true,cond_false,Bool.not_false,and_false,if_false]
     · have e3:decide (((2*i+2:Nat):Int)<(n:Int))=false:=decide_eq_false (by omega)
       have k:hJ n H i=2*i+1:=by unfold hJ;rw [if_neg (fun h=>h2 h.1)]
       rw [k];simp only [e3,cond_false]
       by_cases h4:dJ H[2*i+1]! x
       · simp only [h1,h4,decide_true,cond_false,Bool.not_true,and_self,if_true]
       · simp only [h1,h4,decide_false,cond_true,Bool.not_false,and_false,if_false]
   · have e1:decide ((n:Int)<=((2*i+1:Nat):Int))=true:=decide_eq_true (by omega)
     rw [if_neg (fun h=>h1 h.1)]
     simp only [aE,k1,len0,e1,cond_true,List.length_set,l1,l2,beq_self_eq_true]
  by_cases h:2*i+1<n/\dJ H[hJ n H i]! x
  · rw [if_pos h] at body
    have kc:=pH n H i;have kn:hJ n H i<n:=by omega
    rw [aV body,R9 hx x0 d (hJ n H i) _ _ (by omega) (c.move hi kn _ _) kn (by rw [List.length_set];exact x1) (by rw [List.length_set];exact l1) (by rw [List.length_set];exact l2)]
    have e:dN n x i H W=dN n x (hJ n H i) (H.set i H[hJ n H i]!) (W.set (H[hJ n H i]!).n (i:Int)):=by
     rw [dN,dif_pos h.1,if_pos h.2]
    rw [e]
  · rw [if_neg h] at body
    rw [aI body];have e:dN n x i H W=(i,H,W):=by
     rw [dN];split
     · rename_i h1;rw [if_neg (fun k=>h ⟨h1,k⟩)]
     · rfl
    rw [e]
theorem GC {n:Nat} {H:List Ev} {W:List Int} {x:Ev} {u fr:List Int} {us:List Bool} {i k:Nat} (hi:i<n) (hk:k<n) (hik:k≠i) (hn:n=H.length) (x0:0<=x.ix) (x1:x.ix<W.length) (k0:0<=(H[k]!).ix) (k1:(H[k]!).ix<W.length):
 fH ((i:Int),(k:Int),u,us,fr,H.set i x,W.set x.n (i:Int))=some (u,us,fr,(H.set i H[k]!).set k x,(W.set (H[k]!).n (i:Int)).set x.n (k:Int)):=by
 have cell: ∀w,(H.set i x)[w]! =if w=i then x else H[w]!:=by
  intro w;rw [bD]
  by_cases e:w=i
  · rw [if_pos ⟨e,by omega⟩,if_pos e]
  · rw [if_neg (fun k=>e k.1),if_neg e]
 have sh:((H.set i x).set i H[k]!).set k x=(H.set i H[k]!).set k x:=by rw [List.set_set]
 have sw:((W.set x.n (i:Int)).set (H[k]!).n (i:Int)).set x.n (k:Int)=(W.set (H[k]!).n (i:Int)).set x.n (k:Int):=by
  by_cases e:x.n=(H[k]!).n
  · simp only [e,List.set_set]
  · rw [List.set_comm _ _ (fun h=>e h),List.set_set]
 have g1:aJ ((H.set i x)) (k:Int)=some H[k]!:=by rw [aB _ _ (by rw [List.length_set];omega),cell,if_neg hik]
 have g2:aJ ((H.set i x)) (i:Int)=some x:=by rw [aB _ _ (by rw [List.length_set];omega),cell,if_pos rfl]
 have g3:aJ (((H.set i x).set i H[k]!)) (k:Int)=some H[k]!:=by rw [aB _ _ (by rw [List.length_set,List.length_set];omega),bD,if_neg (fun h=>hik h.1),cell,if_neg hik]
 have g4:aJ (((H.set i H[k]!).set k x)) (i:Int)=some H[k]!:=by rw [aB _ _ (by rw [List.length_set,List.length_set];omega),bD,if_neg (fun h=>hik h.1.symm),bD,if_pos ⟨rfl,by omega⟩]
 have g5:aJ (((H.set i H[k]!).set k x)) (k:Int)=some x:=by rw [aB _ _ (by rw [List.length_set,List.length_set];omega),bD,if_pos ⟨rfl,by rw [List.length_set];omega⟩]
 have w6:=dK (l:=W.set x.n (i:Int)) k0 (by rw [List.length_set];exact k1)
 have w7:=dK (l:=(W.set x.n (i:Int)).set (H[k]!).n (i:Int)) x0 (by rw [List.length_set,List.length_set];exact x1)
 have q1: ∀(l:List Int) (a:Int) (y:Ev),bJ l y.2.2.2.1 a=l.set y.n a:=fun _ _ _=>rfl
 unfold fH;simp only [fX,g1,g2,g3,aC,sh,g4,g5,q1,w6,w7,sw,List.length_set,beq_self_eq_true,cond_true]
theorem aA5 {c0:Int×List Int×List Bool×List Int×List Ev×List Int} {n:Nat} {u fr:List Int} {us:List Bool} {x:Ev} (hx:rM x) (x0:0<=x.ix) (l3:c0.2.1.length=u.length) (l4:c0.2.2.1.length=us.length) (l5:c0.2.2.2.1.length=fr.length):
 ∀(i:Nat) (H:List Ev) (W:List Int),nD n H W->i<n->H.length=n->x.ix<W.length->c0.2.2.2.2.1.length=H.length->c0.2.2.2.2.2.length=W.length->
  aH (gW c0) ((i:Int),u,us,fr,H.set i x,W.set x.n (i:Int))=some (((iW x i H W).1:Int),u,us,fr,(iW x i H W).2.1.set (iW x i H W).1 x,(iW x i H W).2.2.set x.n ((iW x i H W).1:Int))
 |0,H,W,c,hi,hln,x1,l1,l2=>by
  have hnn:=c.hn;refine aI ?_;unfold gW;have e1:decide ((0:Int)<((0:Nat):Int))=false:=by simp
  rw [iW];simp only [e1,cond_false,List.length_set,l1,l2,l3,l4,l5,beq_self_eq_true,cond_true]
 |i+1,H,W,c,hi,hln,x1,l1,l2=>by
  have hb:=c.hb;have hnn:=c.hn;have e1:decide ((0:Int)<((i+1:Nat):Int))=true:=decide_eq_true (by omega)
  have hp:i / 2<n:=by omega
  have hne:i / 2≠i+1:=by omega
  obtain ⟨ok1,a1,a2⟩:=c.ev (i / 2) hp;have cell: ∀w,(H.set (i+1) x)[w]! =if w=i+1 then x else H[w]!:=by
   intro w;rw [bD]
   by_cases e:w=i+1
   · rw [if_pos ⟨e,by omega⟩,if_pos e]
   · rw [if_neg (fun k=>e k.1),if_neg e]
  have g0:aJ ((H.set (i+1) x)) ((i+1:Nat):Int)=some x:=by rw [aB _ _ (by rw [List.length_set];omega),cell,if_pos rfl]
  have g1:aJ ((H.set (i+1) x)) ((i / 2:Nat):Int)=some H[i / 2]!:=by rw [aB _ _ (by rw [List.length_set];omega),cell,if_neg hne]
  by_cases h:dJ x H[i / 2]!
  · have sw:=GC (u:=u) (us:=us) (fr:=fr) (x:=x) hi hp hne hln.symm x0 x1 a1 a2
    have r:gW c0 (((i+1:Nat):Int),u,us,fr,H.set (i+1) x,W.set x.n ((i+1:Nat):Int))=some (.next (((i / 2:Nat):Int),u,us,fr,(H.set (i+1) H[i / 2]!).set (i / 2) x,(W.set (H[i / 2]!).n ((i+1:Nat):Int)).set x.n ((i / 2:Nat):Int))):=by
     unfold gW;simp only [e1,cond_true,uA (show i<1000000000 by omega),g0,g1,aC,oJ hx ok1,h,decide_true,sw]
    rw [aV r,aA5 hx x0 l3 l4 l5 (i / 2) _ _ (c.move hi hp _ _) hp (by rw [List.length_set];exact hln) (by rw [List.length_set];exact x1) (by rw [List.length_set];exact l1) (by rw [List.length_set];exact l2)]
    have e:iW x (i+1) H W=iW x (i / 2) (H.set (i+1) H[i / 2]!) (W.set (H[i / 2]!).n ((i+1:Nat):Int)):=by
     rw [iW,if_pos h]
    rw [e]
  · refine aI ?_
    unfold gW;have e:iW x (i+1) H W=(i+1,H,W):=by rw [iW,if_neg h]
    rw [e];simp only [e1,cond_true,uA (show i<1000000000 by omega),g0,g1,aC,oJ hx ok1,h,decide_false,cond_false,List.length_set,l1,l2,l3,l4,l5,beq_self_eq_true]
termination_by i=>i
decreasing_by omega
theorem SA {c0:Int×List Int×List Bool×List Int×List Ev×List Int} {n:Nat} {u fr:List Int} {us:List Bool} {x:Ev} (hx:rM x) (x0:0<=x.ix) (l3:c0.2.1.length=u.length) (l4:c0.2.2.1.length=us.length) (l5:c0.2.2.2.1.length=fr.length):
 ∀(d i:Nat) (H:List Ev) (W:List Int),n-i<=d->nD n H W->i<n->H.length=n->x.ix<W.length->c0.2.2.2.2.1.length=H.length->c0.2.2.2.2.2.length=W.length->
  aH (kF c0) ((i:Int),u,us,fr,H.set i x,W.set x.n (i:Int))=some ((u,us,fr,(dN n x i H W).2.1.set (dN n x i H W).1 x,(dN n x i H W).2.2.set x.n ((dN n x i H W).1:Int)))
 |0,i,H,W,hd,c,hi,hln,x1,l1,l2=>by omega
 |d+1,i,H,W,hd,c,hi,hln,x1,l1,l2=>by
  have hb:=c.hb;have hnn:=c.hn;have cell: ∀w,(H.set i x)[w]! =if w=i then x else H[w]!:=by
   intro w;rw [bD]
   by_cases e:w=i
   · rw [if_pos ⟨e,by omega⟩,if_pos e]
   · rw [if_neg (fun k=>e k.1),if_neg e]
  have len0:(H.set i x).length=H.length:=List.length_set;have body:kF c0 ((i:Int),u,us,fr,H.set i x,W.set x.n (i:Int))=some (if 2*i+1<n/\dJ H[hJ n H i]! x then .next (((hJ n H i:Nat):Int),u,us,fr,(H.set i H[hJ n H i]!).set (hJ n H i) x,(W.set (H[hJ n H i]!).n (i:Int)).set x.n ((hJ n H i:Nat):Int)) else .done ((u,us,fr,H.set i x,W.set x.n (i:Int)))):=by
   have k1:=yB (show i<1000000000 by omega)
   unfold kF
   by_cases h1:2*i+1<n
   · have e1:decide ((n:Int)<=((2*i+1:Nat):Int))=false:=decide_eq_false (by omega)
     have e2:aA .i64 (((2*i+1:Nat):Int)+1)=((2*i+2:Nat):Int):=bA (by omega)
     obtain ⟨ok1,a1,a2⟩:=c.ev (2*i+1) h1;have g0:aJ ((H.set i x)) (i:Int)=some x:=by rw [aB _ _ (by rw [List.length_set];omega),cell,if_pos rfl]
     have g1:aJ ((H.set i x)) ((2*i+1:Nat):Int)=some H[2*i+1]!:=by rw [aB _ _ (by rw [List.length_set];omega),cell,if_neg (by omega)]
     have s1:=GC (u:=u) (us:=us) (fr:=fr) (x:=x) hi h1 (by omega) hln.symm x0 x1 a1 a2
     simp only [aE,k1,len0,hln,e1,e2,cond_false,g0,g1,aC,oJ ok1 hx,s1,List.length_set,l1,l2,l3,l4,l5,beq_self_eq_true,cond_true]
     by_cases h2:2*i+2<n
     · have e3:decide (((2*i+2:Nat):Int)<(n:Int))=true:=decide_eq_true (by omega)
       obtain ⟨ok2,b1,b2⟩:=c.ev (2*i+2) h2;have g2:aJ ((H.set i x)) ((2*i+2:Nat):Int)=some H[2*i+2]!:=by rw [aB _ _ (by rw [List.length_set];omega),cell,if_neg (by omega)]
       have s2:=GC (u:=u) (us:=us) (fr:=fr) (x:=x) hi h2 (by omega) hln.symm x0 x1 b1 b2
       simp only [e3,cond_true,g2,aC,s2,oJ ok2 hx,oJ ok2 ok1]
       by_cases h3:dJ H[2*i+2]! H[2*i+1]!
       · have k:hJ n H i=2*i+2:=by unfold hJ;rw [if_pos ⟨h2,h3⟩]
         rw [k]
         by_cases h4:dJ H[2*i+2]! x
         · simp only [h1,h3,h4,decide_true,cond_true,cond_false,Bool.not_true,and_self,if_true]
         · simp only [h1,h3,h4,decide_true,decide_false,cond_true,Bool.not_false,and_false,if_false]
       · have k:hJ n H i=2*i+1:=by unfold hJ;rw [if_neg (fun h=>h3 h.2)]
         rw [k]
         by_cases h4:dJ H[2*i+1]! x
         · simp only [h1,h3,h4,decide_true,decide_false,cond_false,Bool.not_true,and_self,if_true]
         · simp only [h1,h3,h4,decide_false,cond_true,cond_false,Bool.not_false,and_false,if_false]
     · have e3:decide (((2*i+2:Nat):Int)<(n:Int))=false:=decide_eq_false (by omega)
       have k:hJ n H i=2*i+1:=by unfold hJ;rw [if_neg (fun h=>h2 h.1)]
       rw [k];simp only [e3,cond_false]
       by_cases h4:dJ H[2*i+1]! x
       · simp only [h1,h4,decide_true,cond_false,Bool.not_true,and_self,if_true]
       · simp only [h1,h4,decide_false,cond_true,Bool.not_false,and_false,if_false]
   · have e1:decide ((n:Int)<=((2*i+1:Nat):Int))=true:=decide_eq_true (by omega)
     rw [if_neg (fun h=>h1 h.1)]
     simp only [aE,k1,len0,hln,e1,cond_true,List.length_set,l1,l2,l3,l4,l5,beq_self_eq_true]
  by_cases h:2*i+1<n/\dJ H[hJ n H i]! x
  · rw [if_pos h] at body
    have kc:=pH n H i;have kn:hJ n H i<n:=by omega
    rw [aV body,SA hx x0 l3 l4 l5 d (hJ n H i) _ _ (by omega) (c.move hi kn _ _) kn (by rw [List.length_set];exact hln) (by rw [List.length_set];exact x1) (by rw [List.length_set];exact l1) (by rw [List.length_set];exact l2)]
    have e:dN n x i H W=dN n x (hJ n H i) (H.set i H[hJ n H i]!) (W.set (H[hJ n H i]!).n (i:Int)):=by
     rw [dN,dif_pos h.1,if_pos h.2]
    rw [e]
  · rw [if_neg h] at body
    rw [aI body];have e:dN n x i H W=(i,H,W):=by
     rw [dN];split
     · rename_i h1;rw [if_neg (fun k=>h ⟨h1,k⟩)]
     · rfl
    rw [e]
theorem aA6 {n:Nat} {H:List Ev} {W:List Int} {x:Ev} {u fr:List Int} {us:List Bool} {i k:Nat} (hi:i<n) (hk:k<n) (hik:k≠i) (hn:n=H.length) (x0:0<=x.ix) (x1:x.ix<W.length) (k0:0<=(H[k]!).ix) (k1:(H[k]!).ix<W.length):
 nL (u,us,fr,(i:Int),(k:Int),H.set i x,W.set x.n (i:Int))=some ((H.set i H[k]!).set k x,(W.set (H[k]!).n (i:Int)).set x.n (k:Int)):=by
 have cell: ∀w,(H.set i x)[w]! =if w=i then x else H[w]!:=by
  intro w;rw [bD]
  by_cases e:w=i
  · rw [if_pos ⟨e,by omega⟩,if_pos e]
  · rw [if_neg (fun k=>e k.1),if_neg e]
 have sh:((H.set i x).set i H[k]!).set k x=(H.set i H[k]!).set k x:=by rw [List.set_set]
 have sw:((W.set x.n (i:Int)).set (H[k]!).n (i:Int)).set x.n (k:Int)=(W.set (H[k]!).n (i:Int)).set x.n (k:Int):=by
  by_cases e:x.n=(H[k]!).n
  · simp only [e,List.set_set]
  · rw [List.set_comm _ _ (fun h=>e h),List.set_set]
 have g1:aJ ((H.set i x)) (k:Int)=some H[k]!:=by rw [aB _ _ (by rw [List.length_set];omega),cell,if_neg hik]
 have g2:aJ ((H.set i x)) (i:Int)=some x:=by rw [aB _ _ (by rw [List.length_set];omega),cell,if_pos rfl]
 have g3:aJ (((H.set i x).set i H[k]!)) (k:Int)=some H[k]!:=by rw [aB _ _ (by rw [List.length_set,List.length_set];omega),bD,if_neg (fun h=>hik h.1),cell,if_neg hik]
 have g4:aJ (((H.set i H[k]!).set k x)) (i:Int)=some H[k]!:=by rw [aB _ _ (by rw [List.length_set,List.length_set];omega),bD,if_neg (fun h=>hik h.1.symm),bD,if_pos ⟨rfl,by omega⟩]
 have g5:aJ (((H.set i H[k]!).set k x)) (k:Int)=some x:=by rw [aB _ _ (by rw [List.length_set,List.length_set];omega),bD,if_pos ⟨rfl,by rw [List.length_set];omega⟩]
 have w6:=dK (l:=W.set x.n (i:Int)) k0 (by rw [List.length_set];exact k1)
 have w7:=dK (l:=(W.set x.n (i:Int)).set (H[k]!).n (i:Int)) x0 (by rw [List.length_set,List.length_set];exact x1)
 have q1: ∀(l:List Int) (a:Int) (y:Ev),bJ l y.2.2.2.1 a=l.set y.n a:=fun _ _ _=>rfl
 unfold nL;simp only [fX,g1,g2,g3,aC,sh,g4,g5,q1,w6,w7,sw,List.length_set,beq_self_eq_true,cond_true]
theorem aA7 {c0:List Int×List Bool×List Int×Int×List Ev×List Int} {n:Nat} {u fr:List Int} {us:List Bool} {x:Ev} (hx:rM x) (x0:0<=x.ix):
 ∀(i:Nat) (H:List Ev) (W:List Int),nD n H W->i<n->H.length=n->x.ix<W.length->c0.2.2.2.2.1.length=H.length->c0.2.2.2.2.2.length=W.length->
  aH (gX c0) ((i:Int),H.set i x,W.set x.n (i:Int),u,us,fr)=some (((iW x i H W).1:Int),(iW x i H W).2.1.set (iW x i H W).1 x,(iW x i H W).2.2.set x.n ((iW x i H W).1:Int))
 |0,H,W,c,hi,hln,x1,l1,l2=>by
  have hnn:=c.hn;refine aI ?_;unfold gX;have e1:decide ((0:Int)<((0:Nat):Int))=false:=by simp
  rw [iW];simp only [e1,cond_false,List.length_set,l1,l2,beq_self_eq_true,cond_true]
 |i+1,H,W,c,hi,hln,x1,l1,l2=>by
  have hb:=c.hb;have hnn:=c.hn;have e1:decide ((0:Int)<((i+1:Nat):Int))=true:=decide_eq_true (by omega)
  have hp:i / 2<n:=by omega
  have hne:i / 2≠i+1:=by omega
  obtain ⟨ok1,a1,a2⟩:=c.ev (i / 2) hp;have cell: ∀w,(H.set (i+1) x)[w]! =if w=i+1 then x else H[w]!:=by
   intro w;rw [bD]
   by_cases e:w=i+1
   · rw [if_pos ⟨e,by omega⟩,if_pos e]
   · rw [if_neg (fun k=>e k.1),if_neg e]
  have g0:aJ ((H.set (i+1) x)) ((i+1:Nat):Int)=some x:=by rw [aB _ _ (by rw [List.length_set];omega),cell,if_pos rfl]
  have g1:aJ ((H.set (i+1) x)) ((i / 2:Nat):Int)=some H[i / 2]!:=by rw [aB _ _ (by rw [List.length_set];omega),cell,if_neg hne]
  by_cases h:dJ x H[i / 2]!
  · have sw:=aA6 (u:=u) (us:=us) (fr:=fr) (x:=x) hi hp hne hln.symm x0 x1 a1 a2
    have r:gX c0 (((i+1:Nat):Int),H.set (i+1) x,W.set x.n ((i+1:Nat):Int),u,us,fr)=some (.next (((i / 2:Nat):Int),(H.set (i+1) H[i / 2]!).set (i / 2) x,(W.set (H[i / 2]!).n ((i+1:Nat):Int)).set x.n ((i / 2:Nat):Int),u,us,fr)):=by
     unfold gX;simp only [e1,cond_true,uA (show i<1000000000 by omega),g0,g1,aC,oJ hx ok1,h,decide_true,sw]
    rw [aV r,aA7 hx x0 (i / 2) _ _ (c.move hi hp _ _) hp (by rw [List.length_set];exact hln) (by rw [List.length_set];exact x1) (by rw [List.length_set];exact l1) (by rw [List.length_set];exact l2)]
    have e:iW x (i+1) H W=iW x (i / 2) (H.set (i+1) H[i / 2]!) (W.set (H[i / 2]!).n ((i+1:Nat):Int)):=by
     rw [iW,if_pos h]
    rw [e]
  · refine aI ?_
    unfold gX;have e:iW x (i+1) H W=(i+1,H,W):=by rw [iW,if_neg h]
    rw [e];simp only [e1,cond_true,uA (show i<1000000000 by omega),g0,g1,aC,oJ hx ok1,h,decide_false,cond_false,List.length_set,l1,l2,beq_self_eq_true]
termination_by i=>i
decreasing_by omega
end Go.Proofs.YtmlghnibpjlchaaGreat
namespace Go.Proofs.YtmlghnibpjlchaaGreat
open Go.Vm Classical
theorem aL {p:Prop} [Decidable p] (h: ¬p):decide p=false:=decide_eq_false h
theorem aN {p:Prop} [Decidable p] (h:p):decide p=true:=decide_eq_true h
theorem SC (uses:List Int) (used:List Bool) (fr:List Int) (fl:List Bool) (h1:uses.length<=200) (h2:used.length=uses.length) (h3:fl.length=uses.length):
 ((∀i,i<uses.length->0<=uses[i]!/\uses[i]!<=1000000/\used[i]!≠fl[i]!/\(used[i]! =true->1<=uses[i]!))->aH kM ((uses.length:Int),0,uses,used,fr,fl)=some (.done 0))/\
 (¬(∀i,i<uses.length->0<=uses[i]!/\uses[i]!<=1000000/\used[i]!≠fl[i]!/\(used[i]! =true->1<=uses[i]!))->aH kM ((uses.length:Int),0,uses,used,fr,fl)=some (.done 8)):=by
 have key:=cY (body:=kM) (fun i=>((uses.length:Int),(i:Int),uses,used,fr,fl)) uses.length (fun i=> ¬(0<=uses[i]!/\uses[i]!<=1000000/\used[i]!≠fl[i]!/\(used[i]! =true->1<=uses[i]!))) (r:= .done 8) (e:= .done 0) (fun i hi=>by
  have e1:decide ((i:Int)<(uses.length:Int))=true:=aN (by omega)
  unfold kM;simp only [e1,cond_true,aB uses i hi,aB used i (by omega),aB fl i (by omega),aC,bA (show i<1000000000 by omega)]
  generalize uses[i]! =u;generalize used[i]! =a;generalize fl[i]! =b
  by_cases a1:u<0
  · simp only [a1,decide_true,cond_true];exact ⟨fun _=>trivial,fun h=>absurd (Classical.not_not.1 h).1 (by omega)⟩
  · by_cases a2:1000000<u
    · simp only [a1,a2,decide_true,decide_false,cond_true,cond_false];exact ⟨fun _=>trivial,fun h=>absurd (Classical.not_not.1 h).2.1 (by omega)⟩
    · simp only [a1,a2,decide_false,cond_false]
      by_cases a3:u<1
      · cases a<;>cases b<;>simp [a3]<;>omega
      · cases a<;>cases b<;>simp [a3]<;>omega) (by
  unfold kM
  have:decide ((uses.length:Int)<(uses.length:Int))=false:=aL (by omega)
  simp only [this,cond_false])
 constructor
 · intro h
   exact key.2 fun i hi=>Classical.not_not.2 (h i hi)
 · intro h
   obtain ⟨i,h⟩:=Classical.not_forall.1 h;obtain ⟨hi,hx⟩:=Classical.not_imp.1 h;exact key.1 ⟨i,hi,hx⟩
theorem aA8 {α:Type} {n:Nat} (z:α) (h:n<=1048576):QL (n:Int) z=some (List.replicate n z):=by
 unfold QL;rw [if_pos ⟨by omega,by omega⟩]
 simp
theorem LQ (s:aQ) (hf:s.free.length<=1000000):xD s=some (if eO s then 0 else 8):=by
 obtain ⟨uses,used,fr⟩:=s;dsimp only at hf;unfold xD;simp only [aE]
 by_cases a1:uses.length<1
 · have e:decide ((uses.length:Int)<1)=true:=aN (by omega)
   rw [e,if_neg (fun h=>by have:=h.n1;dsimp only at this;omega)];rfl
 have e1:decide ((uses.length:Int)<1)=false:=aL (by omega)
 by_cases a2:200<uses.length
 · have e:decide (200<(uses.length:Int))=true:=aN (by omega)
   rw [e1,e,if_neg (fun h=>by have:=h.n2;dsimp only at this;omega)];rfl
 have e2:decide (200<(uses.length:Int))=false:=aL (by omega)
 by_cases a3:used.length=uses.length
 case neg=>
  have e:((used.length:Int) !=(uses.length:Int))=true:=eJ (by omega)
  rw [e1,e2,e,if_neg (fun h=>a3 h.ul)];rfl
 have e3:((used.length:Int) !=(uses.length:Int))=false:=cI (by omega)
 by_cases a4:uses.length<fr.length
 · have e:decide ((uses.length:Int)<(fr.length:Int))=true:=aN (by omega)
   rw [e1,e2,e3,e,if_neg (fun h=>by have:=h.fl;dsimp only at this;omega)];rfl
 have e4:decide ((uses.length:Int)<(fr.length:Int))=false:=aL (by omega)
 simp only [e1,e2,e3,e4,cond_false,beq_self_eq_true,cond_true,aA8 false (show uses.length<=1048576 by omega),aC]
 have ml: ∀k,(fJ (List.replicate uses.length false) (fr.take k)).length=uses.length:=fun k=>by rw [nN,List.length_replicate]
 have ml':(fJ (List.replicate uses.length false) fr).length=uses.length:=by rw [nN,List.length_replicate]
 have rep: ∀i:Nat,(List.replicate uses.length false)[i]! =false:=by
  intro i
  by_cases h:i<uses.length
  · rw [getElem!_pos _ i (by simpa using h),List.getElem_replicate]
  · rw [getElem!_neg _ i (by simpa using h)];rfl
 have inner:=SC uses used fr (fJ (List.replicate uses.length false) fr) (by omega) a3 ml'
 have key:=cY (body:=pZ) (fun k=>((uses.length:Int),(k:Int),uses,used,fr,fJ (List.replicate uses.length false) (fr.take k))) fr.length
  (fun k=>fr[k]!<0\/(uses.length:Int)<=fr[k]!\/(fJ (List.replicate uses.length false) (fr.take k))[(fr[k]!).toNat]! =true) (r:=8)
  (e:=if (∀i,i<uses.length->0<=uses[i]!/\uses[i]!<=1000000/\used[i]!≠(fJ (List.replicate uses.length false) fr)[i]!/\(used[i]! =true->1<=uses[i]!)) then 0 else 8) (fun k hk=>by
   have f1:decide ((k:Int)<(fr.length:Int))=true:=aN (by omega)
   have f5:fJ (List.replicate uses.length false) (fr.take (k+1))=bJ (fJ (List.replicate uses.length false) (fr.take k)) fr[k]! true:=by rw [iV hk,E0]
   unfold pZ;simp only [aE,f1,cond_true,aB fr k hk,aC,bA (show k<1000000000 by omega),f5]
   clear f5;generalize fr[k]! =x
   by_cases b1:x<0
   · simp [b1]
   · by_cases b2:(uses.length:Int)<=x
     · simp [b1,b2]
     · simp only [b1,b2,decide_false,cond_false,false_or]
       rw [dK (l:=fJ (List.replicate uses.length false) (fr.take k)) (i:=x) (by omega) (by rw [ml];omega)]
       simp only [aC];cases (fJ (List.replicate uses.length false) (fr.take k))[x.toNat]!<;>simp) (by
   have f1:decide ((fr.length:Int)<(fr.length:Int))=false:=aL (by omega)
   unfold pZ;simp only [aE,f1,cond_false,List.take_length]
   by_cases hx:(∀i,i<uses.length->0<=uses[i]!/\uses[i]!<=1000000/\used[i]!≠(fJ (List.replicate uses.length false) fr)[i]!/\(used[i]! =true->1<=uses[i]!))
   · rw [if_pos hx];exact inner.1 hx
   · rw [if_neg hx];exact inner.2 hx)
 have h0:fJ (List.replicate uses.length false) (fr.take 0)=List.replicate uses.length false:=rfl;rw [show ((0:Nat):Int)=0 from rfl,h0] at key
 by_cases bad: ∃k,k<fr.length/\(fr[k]!<0\/(uses.length:Int)<=fr[k]!\/(fJ (List.replicate uses.length false) (fr.take k))[(fr[k]!).toNat]! =true)
 · rw [key.1 bad,if_neg]
   intro ok;obtain ⟨k,hk,hb⟩:=bad;have hr:=ok.fr fr[k]! (bE hk);dsimp only at hr;rcases hb with hb|hb|hb
   · omega
   · omega
   · rw [pG _ _ _ (fun x hx=>(ok.fr x (List.mem_of_mem_take hx)).1) (by rw [List.length_replicate];omega),rep,Bool.false_or] at hb
     have hi:((fr[k]!).toNat:Int)=fr[k]!:=by omega
     rw [hi] at hb;have hm:fr[k]!∈fr.take k:=of_decide_eq_true hb;obtain ⟨j,h1,h2,h3⟩:=cF.1 hm;exact cP.1 ok.fd j k h1 hk h3
 · have good: ∀k,k<fr.length->0<=fr[k]!/\fr[k]!<uses.length/\(fJ (List.replicate uses.length false) (fr.take k))[(fr[k]!).toNat]! =false:=by
    intro k hk;refine ⟨?_,?_,?_⟩
    · exact Int.not_lt.1 fun h=>bad ⟨k,hk,.inl h⟩
    · exact Int.not_le.1 fun h=>bad ⟨k,hk,.inr (.inl h)⟩
    · exact Bool.not_eq_true _▸fun h=>bad ⟨k,hk,.inr (.inr h)⟩
   rw [key.2 fun k hk hb=>bad ⟨k,hk,hb⟩]
   have rng: ∀x∈fr,0<=x/\x<(uses.length:Int):=by
    intro x hx;obtain ⟨k,hk,rfl⟩:=aZ.1 hx;exact ⟨(good k hk).1,(good k hk).2.1⟩
   have g2: ∀k,k<fr.length->fr[k]!∉fr.take k:=by
    intro k hk;obtain ⟨c1,c2,c3⟩:=good k hk;rw [pG _ _ _ (fun x hx=>(rng x (List.mem_of_mem_take hx)).1) (by rw [List.length_replicate];omega),show ((fr[k]!).toNat:Int)=fr[k]! by omega,rep,Bool.false_or] at c3
    exact of_decide_eq_false c3
   have nd:fr.Nodup:=cP.2 fun i j hij hj he=>g2 j hj (cF.2 ⟨i,hij,by omega,he⟩)
   have fl: ∀i,i<uses.length->(fJ (List.replicate uses.length false) fr)[i]! =decide ((i:Int)∈fr):=by
    intro i hi;rw [pG _ _ _ (fun x hx=>(rng x hx).1) (by rw [List.length_replicate];omega),rep,Bool.false_or]
   by_cases hx:(∀i,i<uses.length->0<=uses[i]!/\uses[i]!<=1000000/\used[i]!≠(fJ (List.replicate uses.length false) fr)[i]!/\(used[i]! =true->1<=uses[i]!))
   · rw [if_pos hx,if_pos]
     refine ⟨by show 1<=uses.length;omega,by show uses.length<=200;omega,a3,rng,nd,fun i hi=>?_,fun i hi=>?_⟩
     · have:=(hx i hi).2.2.1
       rw [fl i hi] at this;dsimp only;cases h:used[i]! with
       |true=>
        rw [h] at this;refine ⟨fun _ hm=>?_,fun _=>rfl⟩
        rw [aN hm] at this;exact this rfl
       |false=>
        rw [h] at this;refine ⟨fun h=>(by cases h),fun hm=>?_⟩
        rw [aL hm] at this;exact absurd rfl this
     · have:=hx i hi
       exact ⟨this.1,this.2.1,this.2.2.2⟩
   · rw [if_neg hx,if_neg]
     intro ok;refine hx fun i hi=>?_
     obtain ⟨u1,u2,u3⟩:=ok.us i hi;refine ⟨u1,u2,?_,u3⟩;rw [fl i hi]
     have:=ok.uf i hi
     dsimp only at this;intro he
     by_cases hm:(i:Int)∈fr
     · rw [aN hm] at he;exact (this.1 he) hm
     · rw [aL hm] at he
       have:=this.2 hm
       rw [he] at this;cases this
end Go.Proofs.YtmlghnibpjlchaaGreat
namespace Go.Proofs.YtmlghnibpjlchaaGreat
open Go.Vm Classical
structure CH (a:aG):Prop where
 fr:a.slots.free.length<=1000000
 hp:a.heap.length<=1000000
 wh:a.where_.length<=1000000
 at64: ∀w,w<a.heap.length->qK ((a.heap[w]!).1,(a.heap[w]!).2.1)
structure eM (a:aG):Prop where
 so:eO a.slots
 wl:a.where_.length=a.slots.uses.length
 hl:a.heap.length+a.slots.free.length=a.slots.uses.length
 fwd: ∀i,i<a.slots.uses.length->a.slots.used[i]! =true->0<=a.where_[i]!/\a.where_[i]!<a.heap.length/\(Ev.ix a.heap[(a.where_[i]!).toNat]!)=i/\(a.heap[(a.where_[i]!).toNat]!).2.2.2.2=a.slots.uses[i]!
 un: ∀i,i<a.slots.uses.length->a.slots.used[i]! =false->a.where_[i]! = -1
 ev: ∀w,w<a.heap.length->rM a.heap[w]!
 nd: ∀v w,v<w->w<a.heap.length->(Ev.num a.heap[v]!)≠(Ev.num a.heap[w]!)
 ord: ∀k,0<k->k<a.heap.length-> ¬dJ a.heap[k]! a.heap[(k-1) / 2]!
theorem aIh: ∀(n:Nat) (l:List Nat),(∀x,x<n->x∈l)->n<=l.length
 |0,_,_=>Nat.zero_le _
 |n+1,l,h=>by
  have hn:=h n (by omega)
  have:=aIh n (l.erase n) (fun x hx=>by
   rw [List.mem_erase_of_ne (by omega)]
   exact h x (by omega))
  rw [List.length_erase_of_mem hn] at this
  have:=List.length_pos_of_mem hn
  omega
def NK (s:aQ):List Nat:=(List.range s.uses.length).filter fun i=>s.used[i]!
theorem DI {s:aQ} {i:Nat}:i∈NK s↔i<s.uses.length/\s.used[i]! =true:=by
 unfold NK;rw [List.mem_filter,List.mem_range]
theorem DJ {α β:Type} {f:α->β}: ∀{l:List α},l.Nodup->(∀x∈l,∀y∈l,f x=f y->x=y)->(l.map f).Nodup
 | [],_,_=>by simp
 |a::l,h,hf=>by
  rw [List.nodup_cons] at h;rw [List.map_cons,List.nodup_cons];refine ⟨?_,DJ h.2 fun x hx y hy=>hf x (by simp [hx]) y (by simp [hy])⟩
  intro hm;obtain ⟨b,hb,e⟩:=List.mem_map.1 hm
  have:=hf b (by simp [hb]) a (by simp) e
  subst this;exact h.1 hb
theorem eM.back {a:aG} (ok:eM a) {w:Nat} (hw:w<a.heap.length):0<=(Ev.ix a.heap[w]!)/\(Ev.ix a.heap[w]!)<a.slots.uses.length/\a.slots.used[(Ev.n a.heap[w]!)]! =true/\a.slots.uses[(Ev.n a.heap[w]!)]! =(a.heap[w]!).2.2.2.2/\a.where_[(Ev.n a.heap[w]!)]! =(w:Int):=by
 have so:=ok.so;have len:a.slots.uses.length<=(NK a.slots).length+a.slots.free.length:=by
  have:=aIh a.slots.uses.length (NK a.slots++a.slots.free.map Int.toNat) (fun x hx=>by
   rw [List.mem_append]
   by_cases hu:a.slots.used[x]! =true
   · exact .inl (DI.2 ⟨hx,hu⟩)
   · right
     have:=so.uf x hx
     have hm:(x:Int)∈a.slots.free:=Classical.byContradiction fun hc=>hu (this.2 hc)
     exact List.mem_map.2 ⟨_,hm,by omega⟩)
  rw [List.length_append,List.length_map] at this;exact this
 have f0: ∀i∈NK a.slots,0<=a.where_[i]!/\a.where_[i]!<a.heap.length/\(Ev.ix a.heap[(a.where_[i]!).toNat]!)=i/\(a.heap[(a.where_[i]!).toNat]!).2.2.2.2=a.slots.uses[i]!:=fun i hi=>ok.fwd i (DI.1 hi).1 (DI.1 hi).2
 have full:=IH (n:=a.heap.length) (l:=(NK a.slots).map fun i=>(a.where_[i]!).toNat) (by
  refine DJ ?_ ?_
  · exact List.Pairwise.filter _ List.nodup_range
  · intro x hx y hy he
    have h1:=(f0 x hx).2.2.1;have h2:=(f0 y hy).2.2.1;rw [he] at h1
    omega) (by
  intro x hx;obtain ⟨i,hi,rfl⟩:=List.mem_map.1 hx
  have:=f0 i hi
  omega) (by
  rw [List.length_map]
  have:=ok.hl
  omega) w hw
 obtain ⟨i,hi,e⟩:=List.mem_map.1 full;obtain ⟨c1,c2,c3,c4⟩:=f0 i hi;obtain ⟨d1,d2⟩:=DI.1 hi;rw [e] at c3 c4;have hn:(Ev.n a.heap[w]!)=i:=by show ((Ev.ix a.heap[w]!)).toNat=i;omega
 rw [hn];refine ⟨by omega,by omega,d2,c4.symm,by omega⟩
noncomputable def UW (x y:Ev):Int:=if cE (x.1,x.2.1)/\cE (y.1,y.2.1) then LL x y else jZ x.2.2.1 y.2.2.1
theorem E2 {x y:Ev} (hx:qK (x.1,x.2.1)) (hy:qK (y.1,y.2.1)):bY x y=some (UW x y):=by
 unfold bY UW LL;rw [aAX hx hy]
 by_cases h:cE (x.1,x.2.1)/\cE (y.1,y.2.1)
 · rw [if_pos h,if_pos h]
   simp only [aC,kU,DE]
 · rw [if_neg h,if_neg h]
   simp only [aC,kU,DE];simp
def LR (a:aG) (i:Nat):Prop:=(a.slots.used[i]! =true->0<=a.where_[i]!/\a.where_[i]!<a.heap.length/\(Ev.ix a.heap[(a.where_[i]!).toNat]!)=i/\(a.heap[(a.where_[i]!).toNat]!).2.2.2.2=a.slots.uses[i]!)/\(a.slots.used[i]! =false->a.where_[i]! = -1)
def MK (H:List Ev) (k:Nat):Prop:=cE ((H[k]!).1,(H[k]!).2.1)/\0<=(H[k]!).2.2.1/\(H[k]!).2.2.1<=1000000/\(∀j,j<k->(H[j]!).2.2.1≠(H[k]!).2.2.1)/\(0<k-> ¬UW H[k]! H[(k-1) / 2]!<0)
theorem eM.of {a:aG} (fit:CH a) (so:eO a.slots) (wl:a.where_.length=a.slots.uses.length) (hl:a.heap.length+a.slots.free.length=a.slots.uses.length) (wh: ∀i,i<a.slots.uses.length->LR a i) (hp: ∀k,k<a.heap.length->MK a.heap k):eM a:=by
 have ev: ∀w,w<a.heap.length->rM a.heap[w]!:=fun w hw=>⟨(hp w hw).1,fit.at64 w hw,(hp w hw).2.1,(hp w hw).2.2.1⟩
 refine ⟨so,wl,hl,fun i hi=>(wh i hi).1,fun i hi=>(wh i hi).2,ev,fun v w hv hw=>(hp w hw).2.2.2.1 v hv,fun k k0 hk=>?_⟩
 have:=(hp k hk).2.2.2.2 k0
 unfold UW at this;rw [if_pos ⟨(hp k hk).1,(hp ((k-1) / 2) (by omega)).1⟩,GB] at this
 exact this
theorem eM.to {a:aG} (ok:eM a):(∀i,i<a.slots.uses.length->LR a i)/\(∀k,k<a.heap.length->MK a.heap k):=by
 refine ⟨fun i hi=>⟨ok.fwd i hi,ok.un i hi⟩,fun k hk=>?_⟩
 have e:=ok.ev k hk;refine ⟨e.1,e.2.2.1,e.2.2.2,fun j hj=>ok.nd j k hj hk,fun k0=>?_⟩
 unfold UW;rw [if_pos ⟨e.1,(ok.ev ((k-1) / 2) (by omega)).1⟩,GB]
 exact ok.ord k k0 hk
theorem NL (H:List Ev) (k:Nat) (n:Int):pN [n] ((H.take k).map fun x=>[x.2.2.1])=true:=by
 unfold pN;rw [List.all_eq_true];intro x hx;obtain ⟨y,hy,rfl⟩:=List.mem_map.1 hx;rfl
theorem NM (H:List Ev) (k:Nat) (n:Int):IX ((H.take k).map fun x=>[x.2.2.1]) [n]=decide (∃j,j<k/\j<H.length/\(H[j]!).2.2.1=n):=by
 unfold IX;rw [Bool.eq_iff_iff,List.any_eq_true,decide_eq_true_iff];constructor
 · rintro ⟨x,hx,he⟩
   obtain ⟨y,hy,rfl⟩:=List.mem_map.1 hx;obtain ⟨j,h1,h2,rfl⟩:=cF.1 hy
   have:[n]=[(H[j]!).2.2.1]:=by simpa using he
   exact ⟨j,h1,h2,by injection this with h;exact h.symm⟩
 · rintro ⟨j,h1,h2,h3⟩
   refine ⟨[(H[j]!).2.2.1],List.mem_map.2 ⟨H[j]!,cF.2 ⟨j,h1,h2,rfl⟩,rfl⟩,?_⟩;rw [h3];simp
theorem PE (H:List Ev) (u fr W:List Int) (us:List Bool) (hl:H.length<=1000000) (r64: ∀w,w<H.length->qK ((H[w]!).1,(H[w]!).2.1)):
 ((∀k,k<H.length->MK H k)->aH jD (H,(H.length:Int),0,u,us,fr,H,W,[])=some (.done 0))/\(¬(∀k,k<H.length->MK H k)->aH jD (H,(H.length:Int),0,u,us,fr,H,W,[])=some (.done 8)):=by
 have key:=cY (body:=jD) (fun k=>(H,(H.length:Int),(k:Int),u,us,fr,H,W,(H.take k).map fun x=>[x.2.2.1])) H.length (fun k=> ¬MK H k) (r:= .done 8) (e:= .done 0) (fun k hk=>by
  have e1:decide ((k:Int)<(H.length:Int))=true:=aN (by omega)
  have ins: ∀n:Int,¬(∃j,j<k/\j<H.length/\(H[j]!).2.2.1=n)->QN ((H.take k).map fun x=>[x.2.2.1]) [n]=some (((H.take k).map fun x=>[x.2.2.1])++[[n]]):=by
   intro n hn;unfold QN TN;rw [NL,NM,aL hn];rfl
  have has: ∀n:Int,QM ((H.take k).map fun x=>[x.2.2.1]) [n]=some (decide (∃j,j<k/\j<H.length/\(H[j]!).2.2.1=n)):=by
   intro n;unfold QM;rw [NL,NM];rfl
  have nx:(H.take (k+1)).map (fun x=>[x.2.2.1])=((H.take k).map fun x=>[x.2.2.1])++[[(H[k]!).2.2.1]]:=by
   rw [iV hk,List.map_append];rfl
  unfold jD;simp only [e1,cond_true,aB H k hk,aC,gP (r64 k hk),bA (show k<1000000000 by omega),has,nx]
  unfold MK
  by_cases b1:cE ((H[k]!).1,(H[k]!).2.1)
  case neg=>
   rw [if_neg b1];exact ⟨fun _=>rfl,fun h=>absurd (Classical.not_not.1 h).1 b1⟩
  rw [if_pos b1]
  by_cases b2:(H[k]!).2.2.1<0
  · rw [aN b2]
    exact ⟨fun _=>rfl,fun h=>absurd (Classical.not_not.1 h).2.1 (by omega)⟩
  by_cases b3:1000000<(H[k]!).2.2.1
  · rw [aL b2,aN b3]
    exact ⟨fun _=>rfl,fun h=>absurd (Classical.not_not.1 h).2.2.1 (by omega)⟩
  rw [aL b2,aL b3]
  by_cases b4: ∃j,j<k/\j<H.length/\(H[j]!).2.2.1=(H[k]!).2.2.1
  · rw [aN b4]
    refine ⟨fun _=>rfl,fun h=>?_⟩
    obtain ⟨j,j1,j2,j3⟩:=b4;exact absurd j3 ((Classical.not_not.1 h).2.2.2.1 j j1)
  rw [aL b4,ins _ b4];have b4': ∀j,j<k->(H[j]!).2.2.1≠(H[k]!).2.2.1:=fun j hj he=>b4 ⟨j,hj,by omega,he⟩
  simp only [show ((0:Int) !=0)=false from rfl,cond_false,aC]
  by_cases b5:0<k
  · obtain ⟨m,rfl⟩: ∃m,k=m+1:=⟨k-1,by omega⟩
    have f1:decide ((0:Int)<((m+1:Nat):Int))=true:=aN (by omega)
    simp only [f1,cond_true,uA (show m<1000000000 by omega),aB H (m / 2) (by omega),aC,E2 (r64 (m+1) hk) (r64 (m / 2) (by omega)),show (m+1-1) / 2=m / 2 by omega]
    by_cases b6:UW H[m+1]! H[m / 2]!<0
    · rw [aN b6]
      exact ⟨fun _=>rfl,fun h=>absurd b6 ((Classical.not_not.1 h).2.2.2.2 (by omega))⟩
    · rw [aL b6]
      exact ⟨fun h=>absurd ⟨b1,by omega,by omega,b4',fun _=>b6⟩ h,fun _=>rfl⟩
  · have f1:decide ((0:Int)<(k:Int))=false:=aL (by omega)
    rw [f1];exact ⟨fun h=>absurd ⟨b1,by omega,by omega,b4',fun h=>absurd h b5⟩ h,fun _=>rfl⟩) (by
  unfold jD
  have:decide ((H.length:Int)<(H.length:Int))=false:=aL (by omega)
  simp only [this,cond_false])
 constructor
 · intro h
   exact key.2 fun i hi=>Classical.not_not.2 (h i hi)
 · intro h
   obtain ⟨i,h⟩:=Classical.not_forall.1 h;obtain ⟨hi,hx⟩:=Classical.not_imp.1 h;exact key.1 ⟨i,hi,hx⟩
end Go.Proofs.YtmlghnibpjlchaaGreat
