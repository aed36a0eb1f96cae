/- Plain laws (1). -/
import Derived.Test.YticklbjcnimggaaGreatBVm2
import Derived.Test.YticklbjcnimggaaGreatBVm1
import Derived.Test.YticklbjcnimggaaGreatBQS2
namespace Go.Proofs.YticklbjcnimggaaGreat
open Go.Vm
abbrev AY (n:Int):Prop:= -9223372036854775808<=n/\n<9223372036854775808
abbrev U64 (n:Int):Prop:=0<=n/\n<18446744073709551616
theorem wi (n:Int):aA .i64 n=(n+9223372036854775808)%18446744073709551616-9223372036854775808:=by
 rw [vI];simp only [IntKind.wrap,IntKind.bits,IntKind.signed,Bool.true_and];have e1:(2:Int)^64=18446744073709551616:=by decide
 have e2:(2:Int)^(64-1)=9223372036854775808:=by decide
 simp only [e1,e2,decide_eq_true_eq];split<;>omega
theorem wu (n:Int):aA .u64 n=n%18446744073709551616:=by
 rw [vI];simp only [IntKind.wrap,IntKind.bits,IntKind.signed,Bool.false_and];have e1:(2:Int)^64=18446744073709551616:=by decide
 simp only [e1];simp
theorem GE {n:Int} (h:AY n):aA .i64 n=n:=by rw [wi];omega
theorem dM {a b:Int} (h:a≠b):(a !=b)=true:=by simpa using h
theorem cQ {a b:Int} (h:a=b):(a !=b)=false:=by simpa using h
theorem gO {a b:Int} (h:a=b):(a==b)=true:=by simpa using h
theorem fW {a b:Int} (h:a≠b):(a==b)=false:=by simpa using h
theorem X3 (a b:Int):(a==b)=decide (a=b):=by
 by_cases h:a=b
 · rw [gO h,decide_eq_true h]
 · rw [fW h,decide_eq_false h]
theorem lt_or_ge (a b:Int):a<b\/b<=a:=by omega
theorem aOp (a:Int):rL .u64 a 32=a / 4294967296:=by
 unfold rL;rw [show (min (32:Int).toNat (IntKind.bits .u64))=32 from by decide,show (2:Int)^32=4294967296 from by decide]
 exact Int.fdiv_eq_ediv_of_nonneg _ (by decide)
theorem VA {a:Int} (h:U64 a):I9 .u64 a 4294967295=a%4294967296:=by
 obtain ⟨n,rfl⟩:=Int.eq_ofNat_of_zero_le h.1;unfold I9;have e:(BitVec.ofInt (IntKind.bits .u64) (n:Int)&&&BitVec.ofInt (IntKind.bits .u64) 4294967295).toNat=n%4294967296:=by
  rw [BitVec.toNat_and];have e1:(BitVec.ofInt (IntKind.bits .u64) (n:Int)).toNat=n:=by
   rw [BitVec.toNat_ofInt]
   have:((2^(IntKind.bits .u64):Nat):Int)=18446744073709551616:=by decide
   rw [this];omega
  have e2:(BitVec.ofInt (IntKind.bits .u64) (4294967295:Int)).toNat=2^32-1:=by decide
  rw [e1,e2,Nat.and_two_pow_sub_one_eq_mod]
 rw [e]
 have:=wu ((n%4294967296:Nat):Int)
 rw [vI] at this;rw [this];omega
theorem aH2 {a b:Nat} (ha:a<1000000000) (hb:b<1000000000):aA .i64 (rL .u64 (aA .u64 (aA .i64 ((a:Int)+(b:Int)))) 1)=(((a+b) / 2:Nat):Int):=by
 unfold rL;rw [show (min (1:Int).toNat (IntKind.bits .u64))=1 from by decide,show (2:Int)^1=2 from by decide,Int.fdiv_eq_ediv_of_nonneg _ (by decide),wi (_+_),wu,wi]
 omega
section
variable {σ ρ : Type} {body : σ -> Option (cE σ ρ)}
theorem bV (st:Nat->σ) (n:Nat) (h: ∀i,i<n->body (st i)=some (.next (st (i+1)))):aH body (st 0)=aH body (st n):=by
 induction n with
 |zero=>rfl
 |succ n ih=>
  rw [ih fun i hi=>h i (by omega)]
  exact aZ (h n (by omega))
theorem dA (st:Nat->σ) (n:Nat) (c:Nat->Prop) {r e:ρ} (h: ∀i,i<n->(c i->body (st i)=some (.done r))/\(¬c i->body (st i)=some (.next (st (i+1)))))
 (hend:body (st n)=some (.done e)):((∃i,i<n/\c i)->aH body (st 0)=some r)/\((∀i,i<n-> ¬c i)->aH body (st 0)=some e):=by
 constructor
 · rintro ⟨i,hi,hc⟩
   have key: ∀k,k<=n->(∃i,i<n/\n-k<=i/\c i)->aH body (st (n-k))=some r:=by
    intro k
    induction k with
    |zero=>rintro _ ⟨i,h1,h2,_⟩;omega
    |succ k ih=>
     rintro hk ⟨i,h1,h2,h3⟩
     by_cases hc:c (n- (k+1))
     · exact aL ((h _ (by omega)).1 hc)
     · rw [aZ ((h _ (by omega)).2 hc),show n- (k+1)+1=n-k by omega]
       refine ih (by omega) ⟨i,h1,?_,h3⟩
       by_cases he:i=n- (k+1)
       · subst he;exact absurd h3 hc
       · omega
   have:=key n (Nat.le_refl n) ⟨i,hi,by omega,hc⟩
   rwa [Nat.sub_self] at this
 · intro hn
   rw [bV st n fun i hi=>(h i hi).2 (hn i hi)]
   exact aL hend
theorem GF {c:Nat->Prop}: ∀{n:Nat},(∃i,i<n/\c i)-> ∃k,k<n/\c k/\ ∀j,j<k-> ¬c j
 |0,h=>by obtain ⟨i,hi,_⟩:=h;omega
 |n+1,h=>by
  by_cases hx: ∃i,i<n/\c i
  · obtain ⟨k,h1,h2,h3⟩:=GF hx
    exact ⟨k,by omega,h2,h3⟩
  · obtain ⟨i,hi,hc⟩:=h
    refine ⟨i,hi,hc,fun j hj hcj=>hx ⟨j,by omega,hcj⟩⟩
theorem nF (st:Nat->σ) (n:Nat) (c:Nat->Prop) (r:Nat->ρ) {e:ρ} (h: ∀i,i<n->(c i->body (st i)=some (.done (r i)))/\(¬c i->body (st i)=some (.next (st (i+1)))))
 (hend:body (st n)=some (.done e)):(∀k,k<n->c k->(∀j,j<k-> ¬c j)->aH body (st 0)=some (r k))/\((∀i,i<n-> ¬c i)->aH body (st 0)=some e):=by
 constructor
 · intro k hk hc hj
   rw [bV st k fun i hi=>(h i (by omega)).2 (hj i hi)]
   exact aL ((h k hk).1 hc)
 · intro hn
   rw [bV st n fun i hi=>(h i hi).2 (hn i hi)]
   exact aL hend
theorem HX (st:Nat->Nat->σ) (n m:Nat) (c:Nat->Prop)
 (h: ∀lo hi,lo<hi->hi<=n->(c ((lo+hi) / 2)->body (st lo hi)=some (.next (st ((lo+hi) / 2+1) hi)))/\(¬c ((lo+hi) / 2)->body (st lo hi)=some (.next (st lo ((lo+hi) / 2)))))
 (h1: ∀i,i<m->c i) (h2: ∀i,m<=i->i<n-> ¬c i): ∀d lo hi,hi-lo<=d->lo<=m->m<=hi->hi<=n->aH body (st lo hi)=aH body (st m m)
 |0,lo,hi,hd,a,b,_=>by
  have e1:lo=m:=by omega
  have e2:hi=m:=by omega
  rw [e1,e2]
 |d+1,lo,hi,hd,a,b,e=>by
  by_cases hl:lo<hi
  · by_cases hc:c ((lo+hi) / 2)
    · rw [aZ ((h lo hi hl e).1 hc)]
      refine HX st n m c h h1 h2 d _ _ (by omega) ?_ b e
      refine Classical.byContradiction fun hx=>?_
      exact h2 ((lo+hi) / 2) (by omega) (by omega) hc
    · rw [aZ ((h lo hi hl e).2 hc)]
      refine HX st n m c h h1 h2 d _ _ (by omega) a ?_ (by omega)
      refine Classical.byContradiction fun hx=>?_
      exact hc (h1 ((lo+hi) / 2) (by omega))
  · have e1:lo=m:=by omega
    have e2:hi=m:=by omega
    rw [e1,e2]
end
section
variable {α : Type} [Inhabited α]
theorem aE (l:List α) (n:Nat) (h:n<l.length):aO l (n:Int)=some l[n]!:=by
 show l[n]? =some l[n]!;rw [List.getElem?_eq_getElem h,getElem!_pos l n h]
theorem dI {l:List α} {i:Int} (h0:0<=i) (h:i<l.length):aO l i=some l[i.toNat]!:=by
 obtain ⟨n,rfl⟩:=Int.eq_ofNat_of_zero_le h0;exact aE l n (by omega)
theorem lZ {β:Type} (l:List β) (n:Nat) (a:β):bX l (n:Int) a=l.set n a:=rfl
theorem bB (l:List α) (n m:Nat) (a:α):(l.set n a)[m]! =if m=n/\n<l.length then a else l[m]!:=by
 by_cases hm:m<l.length
 · rw [getElem!_pos (l.set n a) m (by simpa using hm),getElem!_pos l m hm,List.getElem_set]
   split
   · rw [if_pos (by omega)]
   · rw [if_neg (by omega)]
 · rw [getElem!_neg (l.set n a) m (by simpa using hm),getElem!_neg l m hm]
   split
   · omega
   · rfl
theorem bD {l:List α} {x:α}:x∈l↔ ∃i,i<l.length/\l[i]! =x:=by
 rw [List.mem_iff_getElem];constructor
 · rintro ⟨i,h,rfl⟩;exact ⟨i,h,getElem!_pos l i h⟩
 · rintro ⟨i,h,rfl⟩;exact ⟨i,h,(getElem!_pos l i h).symm⟩
theorem bF {l:List α} {i:Nat} (h:i<l.length):l[i]!∈l:=bD.2 ⟨i,h,rfl⟩
theorem gJ {l m:List α} {i:Nat} (h:i<l.length):(l++m)[i]! =l[i]!:=by
 rw [getElem!_pos (l++m) i (by simp;omega),getElem!_pos l i h,List.getElem_append_left h]
theorem gP {l m:List α} {i:Nat} (h:l.length<=i):(l++m)[i]! =m[i-l.length]!:=by
 by_cases hi:i<l.length+m.length
 · rw [getElem!_pos (l++m) i (by simp;omega),getElem!_pos m (i-l.length) (by omega),List.getElem_append_right h]
 · rw [getElem!_neg (l++m) i (by simp;omega),getElem!_neg m (i-l.length) (by omega)]
theorem kS {l:List α} {n i:Nat} (h:i<n):(l.take n)[i]! =l[i]!:=by
 by_cases hi:i<l.length
 · rw [getElem!_pos (l.take n) i (by simp;omega),getElem!_pos l i hi,List.getElem_take]
 · rw [getElem!_neg (l.take n) i (by simp;omega),getElem!_neg l i hi]
theorem vD {l:List α} {n i:Nat}:(l.drop n)[i]! =l[n+i]!:=by
 by_cases hi:n+i<l.length
 · rw [getElem!_pos (l.drop n) i (by simp;omega),getElem!_pos l (n+i) hi,List.getElem_drop]
 · rw [getElem!_neg (l.drop n) i (by simp;omega),getElem!_neg l (n+i) hi]
theorem CL {l m:List α} (hl:l.length=m.length) (h: ∀i,i<l.length->l[i]! =m[i]!):l=m:=by
 apply List.ext_getElem hl;intro i h1 h2
 have:=h i h1
 rwa [getElem!_pos l i h1,getElem!_pos m i h2] at this
theorem aBG {l:List α} {i:Nat} (h:i<l.length):l=l.take i++l[i]!::l.drop (i+1):=by
 rw [getElem!_pos l i h,List.getElem_cons_drop,List.take_append_drop]
end
theorem bC {α:Type} {l:List α} (h:l.length<=1048576):cB l=some l:=by unfold cB;rw [if_pos h]
theorem dL {α:Type} {l m:List α} (h:l.length+m.length<=1048576):bH l m=some (l++m):=by unfold bH;rw [if_pos h]
@[simp] theorem aD {α β:Type} (a:α) (f:α->Option β):(some a).bind f=f a:=rfl
end Go.Proofs.YticklbjcnimggaaGreat
namespace Go.Proofs.YticklbjcnimggaaGreat
abbrev Nd:=Int×Int×Int
structure wC (P:Nat->Nat->Prop) (a b i:Nat):Prop where
 lo:a<=i
 hi:i<b
 top: ∀j,a<=j->j<b->j≠i->P i j
inductive mA (P:Nat->Nat->Prop) (N:List Nd):Nat->Nat->Int->Prop
 |nil {a b:Nat} (h:b<=a):mA P N a b (-1)
 |node {a b i:Nat} (h:wC P a b i) (l:mA P N a i (N[i]!).2.1) (r:mA P N (i+1) b (N[i]!).2.2):mA P N a b (i:Int)
structure aBH (P:Nat->Nat->Prop) (n:Nat):Prop where
 tr: ∀i j k,i<n->j<n->k<n->P i j->P j k->P i k
 asy: ∀i j,i<n->j<n->P i j-> ¬P j i
 tot: ∀i j,i<n->j<n->i≠j-> ¬P i j->P j i
theorem wC.one {P:Nat->Nat->Prop} {n a b i j:Nat} (o:aBH P n) (hb:b<=n) (h:wC P a b i) (k:wC P a b j):i=j:=by
 refine Classical.byContradiction fun hne=>?_
 have:=h.hi;have:=k.hi
 exact o.asy i j (by omega) (by omega) (h.top j k.lo k.hi (fun e=>hne e.symm)) (k.top i h.lo h.hi hne)
theorem mA.link {P:Nat->Nat->Prop} {N:List Nd} {a b:Nat} {r:Int} (h:mA P N a b r):(b<=a/\r= -1)\/(∃i:Nat,r=(i:Int)/\a<=i/\i<b):=by
 cases h with
 |nil h=>exact .inl ⟨h,rfl⟩
 |node h l r=>exact .inr ⟨_,rfl,h.lo,h.hi⟩
theorem mA.unique {P:Nat->Nat->Prop} {n:Nat} (o:aBH P n) {N N':List Nd} {a b:Nat} {r:Int} (h:mA P N a b r): ∀{r':Int},b<=n->mA P N' a b r'->r=r'/\ ∀k,a<=k->k<b->(N[k]!).2=(N'[k]!).2:=by
 induction h with
 |nil h=>
  intro r' hb h';cases h' with
  |nil _=>exact ⟨rfl,fun k h1 h2=>by omega⟩
  |node t _ _=>have:=t.lo;have:=t.hi;omega
 | @node a b i h l r ihl ihr=>
  intro r' hb h';have lo:=h.lo;have hi:=h.hi;cases h' with
  |nil q=>omega
  | @node _ _ j t l' r'=>
   have e:=h.one o hb t;subst e;obtain ⟨e1,f1⟩:=ihl (by omega) l'
   obtain ⟨e2,f2⟩:=ihr hb r';refine ⟨rfl,fun k h1 h2=>?_⟩
   rcases Nat.lt_trichotomy k i with q|q|q
   · exact f1 k h1 q
   · subst q;exact Prod.ext e1 e2
   · exact f2 k (by omega) h2
theorem mA.frame {P:Nat->Nat->Prop} {N N':List Nd} {a b:Nat} {r:Int} (h:mA P N a b r):(∀k,a<=k->k<b->(N[k]!).2=(N'[k]!).2)->mA P N' a b r:=by
 induction h with
 |nil h=>exact fun _=> .nil h
 | @node a b i h l r ihl ihr=>
  intro f;have lo:=h.lo;have hi:=h.hi;have e:=f i lo hi;refine .node h ?_ ?_
  · rw [<- e];exact ihl fun k h1 h2=>f k h1 (by omega)
  · rw [<- e];exact ihr fun k h1 h2=>f k (by omega) h2
theorem mA.other {P Q:Nat->Nat->Prop} {n:Nat} (o:aBH Q n) {N:List Nd} {a b:Nat} {r:Int} (h:mA P N a b r):b<=n->(∀k j:Nat,a<=k->k<b->a<=j->j<b->((N[k]!).2.1=(j:Int)\/(N[k]!).2.2=(j:Int))->Q k j)->mA Q N a b r:=by
 induction h with
 |nil h=>exact fun _ _=> .nil h
 | @node a b i h l r ihl ihr=>
  intro hb q;have lo:=h.lo;have hi:=h.hi;have tl:=ihl (by omega) fun k j h1 h2 h3 h4=>q k j h1 (by omega) h3 (by omega)
  have tr:=ihr hb fun k j h1 h2 h3 h4=>q k j (by omega) h2 (by omega) h4
  refine .node ⟨lo,hi,fun j h1 h2 hne=>?_⟩ tl tr
  rcases Nat.lt_or_ge j i with hj|hj
  · generalize hr:(N[i]!).2.1=s at tl
    cases tl with
    |nil q=>omega
    | @node _ _ m t _ _=>
     have t1:=t.lo;have t2:=t.hi;have qm:=q i m lo hi t1 (by omega) (.inl hr)
     by_cases e:j=m
     · rw [e];exact qm
     · exact o.tr i m j (by omega) (by omega) (by omega) qm (t.top j h1 hj e)
  · generalize hr:(N[i]!).2.2=s at tr
    cases tr with
    |nil q=>omega
    | @node _ _ m t _ _=>
     have t1:=t.lo;have t2:=t.hi;have qm:=q i m lo hi (by omega) t2 (.inr hr)
     by_cases e:j=m
     · rw [e];exact qm
     · exact o.tr i m j (by omega) (by omega) (by omega) qm (t.top j (by omega) h2 e)
theorem mA.kids {P:Nat->Nat->Prop} {N:List Nd} {a b:Nat} {r:Int} (h:mA P N a b r): ∀k,a<=k->k<b-> ∀c:Int,((N[k]!).2.1=c\/(N[k]!).2.2=c)->c= -1\/ ∃j:Nat,c=(j:Int)/\a<=j/\j<b/\j≠k/\P k j/\r≠c:=by
 induction h with
 |nil h=>intro k h1 h2;omega
 | @node a b i h l r ihl ihr=>
  have lo:=h.lo;have hi:=h.hi;intro k h1 h2 c hc;rcases Nat.lt_trichotomy k i with q|q|q
  · rcases ihl k h1 q c hc with e|⟨j,e,j1,j2,j3,j4,_⟩
    · exact .inl e
    · exact .inr ⟨j,e,j1,by omega,j3,j4,by rw [e];omega⟩
  · subst q
    rcases hc with hc|hc
    · rcases l.link with ⟨_,e⟩|⟨j,e,j1,j2⟩
      · exact .inl (hc▸e)
      · exact .inr ⟨j,hc▸e,j1,by omega,by omega,h.top j j1 (by omega) (by omega),by rw [<- hc,e];omega⟩
    · rcases r.link with ⟨_,e⟩|⟨j,e,j1,j2⟩
      · exact .inl (hc▸e)
      · exact .inr ⟨j,hc▸e,by omega,j2,by omega,h.top j (by omega) j2 (by omega),by rw [<- hc,e];omega⟩
  · rcases ihr k (by omega) h2 c hc with e|⟨j,e,j1,j2,j3,j4,_⟩
    · exact .inl e
    · exact .inr ⟨j,e,by omega,j2,j3,j4,by rw [e];omega⟩
theorem mA.up {P:Nat->Nat->Prop} {N:List Nd} {a b:Nat} {r:Int} (h:mA P N a b r): ∀k:Nat,a<=k->k<b->(k:Int)≠r-> ∃j,a<=j/\j<b/\((N[j]!).2.1=(k:Int)\/(N[j]!).2.2=(k:Int))/\ ∀m,a<=m->m<b->((N[m]!).2.1=(k:Int)\/(N[m]!).2.2=(k:Int))->m=j:=by
 induction h with
 |nil h=>intro k h1 h2;omega
 | @node a b i h l r ihl ihr=>
  have lo:=h.lo;have hi:=h.hi;have lk:=l.kids;have rk:=r.kids;intro k h1 h2 hne;have hki:k≠i:=fun e=>hne (by rw [e])
  rcases Nat.lt_or_ge k i with q|q
  · by_cases er:(k:Int)=(N[i]!).2.1
    · refine ⟨i,lo,hi,.inl er.symm,fun m m1 m2 hm=>?_⟩
      rcases Nat.lt_trichotomy m i with w|w|w
      · rcases lk m m1 w _ hm with e|⟨j,e,_,_,_,_,hr⟩
        · omega
        · exact absurd er.symm hr
      · exact w
      · rcases rk m (by omega) m2 _ hm with e|⟨j,e,j1,_⟩<;>omega
    · obtain ⟨j,j1,j2,j3,j4⟩:=ihl k h1 q er
      refine ⟨j,j1,by omega,j3,fun m m1 m2 hm=>?_⟩
      rcases Nat.lt_trichotomy m i with w|w|w
      · exact j4 m m1 w hm
      · subst w
        rcases hm with hm|hm
        · exact absurd hm.symm er
        · rcases r.link with ⟨_,e⟩|⟨p,e,p1,p2⟩<;>omega
      · rcases rk m (by omega) m2 _ hm with e|⟨p,e,p1,_⟩<;>omega
  · by_cases er:(k:Int)=(N[i]!).2.2
    · refine ⟨i,lo,hi,.inr er.symm,fun m m1 m2 hm=>?_⟩
      rcases Nat.lt_trichotomy m i with w|w|w
      · rcases lk m m1 w _ hm with e|⟨j,e,_,j2,_⟩<;>omega
      · exact w
      · rcases rk m (by omega) m2 _ hm with e|⟨j,e,_,_,_,_,hr⟩
        · omega
        · exact absurd er.symm hr
    · obtain ⟨j,j1,j2,j3,j4⟩:=ihr k (by omega) h2 er
      refine ⟨j,by omega,j2,j3,fun m m1 m2 hm=>?_⟩
      rcases Nat.lt_trichotomy m i with w|w|w
      · rcases lk m m1 w _ hm with e|⟨p,e,_,p2,_⟩<;>omega
      · subst w
        rcases hm with hm|hm
        · rcases l.link with ⟨_,e⟩|⟨p,e,p1,p2⟩<;>omega
        · exact absurd hm.symm er
      · exact j4 m (by omega) m2 hm
end Go.Proofs.YticklbjcnimggaaGreat
namespace Go.Proofs.YticklbjcnimggaaGreat
inductive xK (P:Nat->Nat->Prop) (N:List Nd):Nat->Nat->Int->List Nat->Prop
 |nil {a b:Nat} (h:b<=a):xK P N a b (-1) []
 |cons {a b k:Nat} {es:List Nat} (h:wC P a b k) (l:mA P N a k (N[k]!).2.1) (r:xK P N (k+1) b (N[k]!).2.2 es):xK P N a b (k:Int) (k::es)
theorem xK.tree {P:Nat->Nat->Prop} {N:List Nd} {a b:Nat} {r:Int} {es:List Nat} (h:xK P N a b r es):mA P N a b r:=by
 induction h with
 |nil h=>exact .nil h
 |cons h l r ih=>exact .node h l ih
theorem xK.mem {P:Nat->Nat->Prop} {N:List Nd} {a b:Nat} {r:Int} {es:List Nat} (h:xK P N a b r es): ∀e∈es,a<=e/\e<b:=by
 induction h with
 |nil h=>intro e he;cases he
 |cons h l r ih=>
  intro e he;have lo:=h.lo;have hi:=h.hi;rcases List.mem_cons.1 he with rfl|he
  · exact ⟨lo,hi⟩
  · have:=ih e he;omega
theorem fX {α:Type} [Inhabited α] (x:α) (l:List α) (i:Nat):(x::l)[i+1]! =l[i]!:=by simp
theorem nG {α:Type} [Inhabited α] (x:α) (l:List α):(x::l)[0]! =x:=by simp
theorem xK.chain {P:Nat->Nat->Prop} {N:List Nd} {a b:Nat} {r:Int} {es:List Nat} (h:xK P N a b r es): ∀i j,i<j->j<es.length->P es[i]! es[j]!:=by
 induction h with
 |nil h=>intro i j _ hj;cases hj
 | @cons a b k es h l r ih=>
  intro i j hij hj;cases j with
  |zero=>omega
  |succ j=>
   rw [fX];have hj:j<es.length:=by simpa using hj
   cases i with
   |zero=>
    rw [nG]
    have:=r.mem es[j]! (bF hj)
    exact h.top _ (by have:=h.lo;omega) this.2 (by omega)
   |succ i=>rw [fX];exact ih i j (by omega) hj
theorem xK.add {P:Nat->Nat->Prop} {N N':List Nd} {n:Nat} (o:aBH P n) {a b:Nat} {r:Int} {es:List Nat} (h:xK P N a b r es): ∀m,a<=b->b<n->m<=es.length->(∀j,j<m->P es[j]! b)->(∀j,m<=j->j<es.length-> ¬P es[j]! b)->
 (N'[b]!).2.1=(if m<es.length then (es[m]!:Int) else -1)->(N'[b]!).2.2= -1->
 (∀k,a<=k->k<b->(N'[k]!).2.1=(N[k]!).2.1/\((0<m/\k=es[m-1]!)->(N'[k]!).2.2=(b:Int))/\(¬(0<m/\k=es[m-1]!)->(N'[k]!).2.2=(N[k]!).2.2))->
 xK P N' a (b+1) (if m=0 then (b:Int) else r) (es.take m++[b]):=by
 induction h with
 | @nil a b h=>
  intro m hab hb hm _ _ hl hr _
  have:m=0:=by simpa using hm
  subst this;rw [if_pos rfl];have hl:(N'[b]!).2.1= -1:=hl;refine .cons ⟨hab,by omega,fun j h1 h2 h3=>by omega⟩ ?_ ?_
  · rw [hl];exact .nil h
  · rw [hr];exact .nil (by omega)
 | @cons a b k es h l r ih=>
  intro m hab hb hm hP hN hl hr hf;have lo:=h.lo;have hi:=h.hi;cases m with
  |zero=>
   rw [if_pos rfl];have hl:(N'[b]!).2.1=(k:Int):=by rw [hl,if_pos (by simp)];rfl
   have t:mA P N a b (k:Int):= .node h l r.tree;have nk: ¬P k b:=hN 0 (Nat.le_refl _) (by simp)
   have kb:P b k:=o.tot k b (by omega) hb (by omega) nk
   refine .cons ⟨hab,by omega,fun j h1 h2 h3=>?_⟩ ?_ ?_
   · by_cases e:j=k
     · rw [e];exact kb
     · exact o.tr b k j hb (by omega) (by omega) kb (h.top j h1 (by omega) e)
   · rw [hl]
     refine t.frame fun j h1 h2=>?_
     obtain ⟨f1,_,f3⟩:=hf j h1 h2;exact Prod.ext f1.symm (f3 (by omega)).symm
   · rw [hr];exact .nil (by omega)
  |succ m=>
   rw [if_neg (by omega)]
   have hm:m<=es.length:=by simpa using hm
   have pk:P k b:=by have:=hP 0 (by omega);rwa [nG] at this
   have mem:=r.mem;have top:wC P a (b+1) k:=⟨lo,by omega,fun j h1 h2 h3=>by
    by_cases e:j=b
    · rw [e];exact pk
    · exact h.top j h1 (by omega) h3⟩
   have lt:mA P N' a k (N'[k]!).2.1:=by
    rw [(hf k lo hi).1];refine l.frame fun j h1 h2=>?_
    obtain ⟨f1,_,f3⟩:=hf j h1 (by omega)
    refine Prod.ext f1.symm (f3 (fun q=>?_)).symm
    have q2:=q.2;cases m with
    |zero=>rw [show 0+1-1=0 from rfl,nG] at q2;omega
    |succ m=>
     rw [show m+1+1-1=m+1 from rfl,fX] at q2
     have:=mem es[m]! (bF (by omega));omega
   have rt:=ih m (by omega) hb hm (fun j hj=>by have:=hP (j+1) (by omega);rwa [fX] at this) (fun j h1 h2=>by have:=hN (j+1) (by omega) (by simpa using h2);rwa [fX] at this)
    (by
     rw [hl]
     by_cases q:m<es.length
     · rw [if_pos q,if_pos (by simpa using q),fX]
     · rw [if_neg q,if_neg (by simpa using q)]) hr (fun j h1 h2=>by
     obtain ⟨f1,f2,f3⟩:=hf j (by omega) h2
     refine ⟨f1,fun q=>f2 ⟨by omega,?_⟩,fun q=>f3 (fun w=>q ?_)⟩
     · obtain ⟨q1,q2⟩:=q
       rw [show m+1-1=(m-1)+1 by omega,fX];exact q2
     · obtain ⟨_,w2⟩:=w
       cases m with
       |zero=>rw [show 0+1-1=0 from rfl,nG] at w2;omega
       |succ m=>rw [show m+1+1-1=m+1 from rfl,fX] at w2;exact ⟨by omega,w2⟩)
   rw [show (k::es).take (m+1)++[b]=k::(es.take m++[b]) from rfl];refine .cons top lt ?_;obtain ⟨_,f2,f3⟩:=hf k lo hi
   by_cases m0:m=0
   · subst m0
     rw [if_pos rfl] at rt;rw [f2 ⟨by omega,by rw [show 0+1-1=0 from rfl,nG]⟩]
     exact rt
   · rw [if_neg m0] at rt
     rw [f3 (fun w=>?_)]
     · exact rt
     · have w2:=w.2
       rw [show m+1-1=(m-1)+1 by omega,fX] at w2
       have:=mem es[m-1]! (bF (by omega));omega
end Go.Proofs.YticklbjcnimggaaGreat
namespace Go.Proofs.YticklbjcnimggaaGreat
theorem E2 {α:Type} [BEq α] [LawfulBEq α]: ∀{a b:List α},a.Nodup->(∀x∈a,x∈b)->b.length<=a.length->a.Perm b
 | [],b,_,_,hl=>by
  rw [List.eq_nil_of_length_eq_zero (show b.length=0 by simpa using hl)]
 |x::a,b,hd,h,hl=>by
  rw [List.nodup_cons] at hd;have hx:=h x List.mem_cons_self;have ih:=E2 (a:=a) (b:=b.erase x) hd.2 (fun y hy=>by
   rw [List.mem_erase_of_ne (fun e=>hd.1 (by rw [<- e];exact hy))]
   exact h y (List.mem_cons_of_mem _ hy)) (by
   rw [List.length_erase_of_mem hx];rw [List.length_cons] at hl
   omega)
  exact (List.Perm.cons x ih).trans (List.perm_cons_erase hx).symm
theorem E3 {α β:Type} {f:α->β}: ∀{l:List α},l.Nodup->(∀x∈l,∀y∈l,f x=f y->x=y)->(l.map f).Nodup
 | [],_,_=>List.nodup_nil
 |x::l,h,hi=>by
  rw [List.nodup_cons] at h;rw [List.map_cons,List.nodup_cons];refine ⟨fun hm=>?_,E3 h.2 fun y hy z hz=>hi y (List.mem_cons_of_mem _ hy) z (List.mem_cons_of_mem _ hz)⟩
  obtain ⟨y,hy,e⟩:=List.mem_map.1 hm
  have:=hi y (List.mem_cons_of_mem _ hy) x List.mem_cons_self e
  rw [this] at hy;exact h.1 hy
end Go.Proofs.YticklbjcnimggaaGreat
namespace Go.Proofs.YticklbjcnimggaaGreat
open Go.Vm Classical
theorem jQ {n:Int} (h:AY n):hJ n=some (n.natAbs:Int):=by
 unfold hJ;simp only [wi,wu]
 by_cases hn:n<0
 · simp only [hn,decide_true,cond_true,Option.some.injEq];omega
 · simp only [hn,decide_false,cond_false,Option.some.injEq];omega
theorem qV {n:Int} (h:AY n):mD n=some (n.natAbs:Int):=by
 unfold mD;simp only [wu]
 by_cases hn:n<0
 · simp only [hn,decide_true,cond_true,Option.some.injEq];omega
 · simp only [hn,decide_false,cond_false,Option.some.injEq];omega
theorem sB (m n:Nat):qK m n=some (Nat.gcd m n:Int):=by
 unfold qK
 induction n using Nat.strongRecOn generalizing m with
 |ind n ih=>
  by_cases h0:n=0
  · subst h0
    rw [Nat.gcd_zero_right];exact aL (by simp [oS])
  · have e:oS ((m:Int),(n:Int))=some (.next ((n:Int),((m%n:Nat):Int))):=by
     have h1:((n:Int) !=0)=true:=by simp;omega
     have h2:((n:Int)==0)=false:=by simp;omega
     simp only [oS,h1,h2,cond_true,cond_false,Int.ofNat_tmod]
    rw [aZ e,ih (m%n) (Nat.mod_lt _ (by omega)) n,Nat.gcd_comm m n,Nat.gcd_rec n m,Nat.gcd_comm]
theorem D5 (m n:Nat):zA m n=some (Nat.gcd m n:Int):=by
 unfold zA
 induction n using Nat.strongRecOn generalizing m with
 |ind n ih=>
  by_cases h0:n=0
  · subst h0
    rw [Nat.gcd_zero_right];exact aL (by simp [uR])
  · have e:uR ((m:Int),(n:Int))=some (.next ((n:Int),((m%n:Nat):Int))):=by
     have h1:decide (0<(n:Int))=true:=by simp;omega
     have h2:((n:Int)==0)=false:=by simp;omega
     simp only [uR,h1,h2,cond_true,cond_false,Int.ofNat_tmod]
    rw [aZ e,ih (m%n) (Nat.mod_lt _ (by omega)) n,Nat.gcd_comm m n,Nat.gcd_rec n m,Nat.gcd_comm]
def bU (r:Int×Int):Prop:=1<=r.2/\r.1≠ -9223372036854775808/\Nat.gcd r.2.natAbs r.1.natAbs=1
abbrev oA (r:Int×Int):Prop:=AY r.1/\AY r.2
theorem eZ {r:Int×Int} (h:oA r):gA r=some (if bU r then 0 else 8):=by
 obtain ⟨a,b⟩:=r;obtain ⟨ha,hb⟩:=h;unfold gA bU;dsimp only at ha hb ⊢
 by_cases h1:b<1
 · rw [if_neg (by omega)];simp [h1]
 · by_cases h2:a= -9223372036854775808
   · rw [if_neg (by omega)];simp [h1,h2]
   · have e2:(a== -9223372036854775808)=false:=by simpa using h2
     have e3:aA .u64 b=(b.natAbs:Int):=by rw [wu];omega
     simp only [h1,decide_false,cond_false,e2,qV ha,aD,e3,D5];have hp:0<Nat.gcd b.natAbs a.natAbs:=Nat.gcd_pos_of_pos_left _ (by omega)
     by_cases h3:Nat.gcd b.natAbs a.natAbs=1
     · rw [if_pos ⟨by omega,h2,h3⟩,h3];rfl
     · rw [if_neg (fun h=>h3 h.2.2)]
       have:decide (1<(Nat.gcd b.natAbs a.natAbs:Int))=true:=by simp;omega
       rw [this];rfl
theorem qW {r:Int×Int} (h:oA r):pO r=some (if bU r then 0 else 8):=by
 obtain ⟨a,b⟩:=r;obtain ⟨ha,hb⟩:=h;unfold pO bU;dsimp only at ha hb ⊢
 by_cases h1:b<1
 · rw [if_neg (by omega)];simp [h1]
 · by_cases h2:a= -9223372036854775808
   · rw [if_neg (by omega)];simp [h1,h2]
   · have e2:(a== -9223372036854775808)=false:=by simpa using h2
     have e3:aA .u64 b=(b.natAbs:Int):=by rw [wu];omega
     simp only [h1,decide_false,cond_false,e2,jQ ha,aD,e3,sB];rw [Nat.gcd_comm]
     by_cases h3:Nat.gcd b.natAbs a.natAbs=1
     · rw [if_pos ⟨by omega,h2,h3⟩,h3];rfl
     · rw [if_neg (fun h=>h3 h.2.2)]
       have:((Nat.gcd b.natAbs a.natAbs:Int) !=1)=true:=by simp;omega
       rw [this];rfl
theorem aBI (x y:Int) (hx:U64 x) (hy:U64 y): ∃p q r s:Int,0<=p/\p<=18446744065119617025/\0<=q/\q<=18446744065119617025/\0<=r/\r<=18446744065119617025/\0<=s/\s<=18446744065119617025/\
 x / 4294967296*(y / 4294967296)=p/\x / 4294967296*(y%4294967296)=q/\x%4294967296*(y / 4294967296)=r/\x%4294967296*(y%4294967296)=s/\
 x*y=p*18446744073709551616+(q+r)*4294967296+s:=by
 have hx1:0<=x / 4294967296/\x / 4294967296<=4294967295:=by omega
 have hx0:0<=x%4294967296/\x%4294967296<=4294967295:=by omega
 have hy1:0<=y / 4294967296/\y / 4294967296<=4294967295:=by omega
 have hy0:0<=y%4294967296/\y%4294967296<=4294967295:=by omega
 have ex:x=x / 4294967296*4294967296+x%4294967296:=by omega
 have ey:y=y / 4294967296*4294967296+y%4294967296:=by omega
 generalize x / 4294967296=a at*;generalize x%4294967296=b at*;generalize y / 4294967296=c at*;generalize y%4294967296=d at*;have bd: ∀{u v:Int},0<=u/\u<=4294967295->0<=v/\v<=4294967295->0<=u*v/\u*v<=18446744065119617025:=by
  intro u v hu hv;refine ⟨Int.mul_nonneg hu.1 hv.1,?_⟩
  calc u*v<=4294967295*4294967295:=Int.mul_le_mul hu.2 hv.2 hv.1 (by decide)
   _=_:=by decide
 refine ⟨a*c,a*d,b*c,b*d,(bd hx1 hy1).1,(bd hx1 hy1).2,(bd hx1 hy0).1,(bd hx1 hy0).2,(bd hx0 hy1).1,(bd hx0 hy1).2,(bd hx0 hy0).1,(bd hx0 hy0).2,rfl,rfl,rfl,rfl,?_⟩;rw [ex,ey]
 grind
theorem GG {x y:Int} (hx:U64 x) (hy:U64 y):gB x y=some (x*y / 18446744073709551616,x*y%18446744073709551616):=by
 unfold gB;obtain ⟨p,q,r,s,p0,p1,q0,q1,r0,r1,s0,s1,ep,eq,er,es,exy⟩:=aBI x y hx hy;have key: ∀z:Int,I9 .u64 (z%18446744073709551616) 4294967295=z%18446744073709551616%4294967296:=fun z=>VA (by constructor<;>omega)
 simp only [aOp,VA hx,VA hy,wu,key,ep,eq,er,es,exy,Option.some.injEq,Prod.mk.injEq,and_true];clear ep eq er es exy key hx hy;have e1:s%18446744073709551616=s:=by omega
 have e2:(q+s / 4294967296)%18446744073709551616=q+s / 4294967296:=by omega
 have ep:p%18446744073709551616=p:=by omega
 have eq:q%18446744073709551616=q:=by omega
 have er:r%18446744073709551616=r:=by omega
 rw [e1,ep,eq,er,e2];have e3:s=s / 4294967296*4294967296+s%4294967296:=by omega
 have e4:q+s / 4294967296=(q+s / 4294967296) / 4294967296*4294967296+(q+s / 4294967296)%4294967296:=by omega
 have b1:0<=s%4294967296/\s%4294967296<4294967296:=by omega
 have b2:0<=(q+s / 4294967296)%4294967296/\(q+s / 4294967296)%4294967296<4294967296:=by omega
 have b3:0<=(q+s / 4294967296) / 4294967296/\(q+s / 4294967296) / 4294967296<=4294967295:=by omega
 have b4:0<=s / 4294967296/\s / 4294967296<=4294967295:=by omega
 generalize (q+s / 4294967296) / 4294967296=t1 at*;generalize (q+s / 4294967296)%4294967296=t0 at*;generalize s / 4294967296=c1 at*;generalize s%4294967296=c0 at*;clear e1 e2;have e5:(t0+r)%18446744073709551616=t0+r:=by omega
 rw [e5];have e6:t0+r=(t0+r) / 4294967296*4294967296+(t0+r)%4294967296:=by omega
 have b5:0<=(t0+r)%4294967296/\(t0+r)%4294967296<4294967296:=by omega
 have b6:0<=(t0+r) / 4294967296/\(t0+r) / 4294967296<=4294967295:=by omega
 generalize (t0+r) / 4294967296=u1 at*;generalize (t0+r)%4294967296=u0 at*;omega
theorem VB {x y:Int} (hx:U64 x) (hy:U64 y):sO x y=some (false,x*y / 18446744073709551616,x*y%18446744073709551616):=by
 unfold sO;obtain ⟨p,q,r,s,p0,p1,q0,q1,r0,r1,s0,s1,ep,eq,er,es,exy⟩:=aBI x y hx hy;have t1: ∀a:Int,0<=a->Int.tdiv a 4294967296=a / 4294967296:=fun a h=>Int.tdiv_eq_ediv_of_nonneg h
 have t2: ∀a:Int,0<=a->Int.tmod a 4294967296=a%4294967296:=fun a h=>Int.tmod_eq_emod_of_nonneg h
 simp only [wu];rw [t1 x hx.1,t1 y hy.1,t2 x hx.1,t2 y hy.1];have f1:x / 4294967296%18446744073709551616=x / 4294967296:=by omega
 have f2:y / 4294967296%18446744073709551616=y / 4294967296:=by omega
 simp only [f1,f2,ep,eq,er,es];have g: ∀a:Int,Int.tdiv (a%18446744073709551616) 4294967296=a%18446744073709551616 / 4294967296:=fun a=>t1 _ (by omega)
 have g2: ∀a:Int,Int.tmod (a%18446744073709551616) 4294967296=a%18446744073709551616%4294967296:=fun a=>t2 _ (by omega)
 simp only [g,g2,exy,Option.some.injEq,Prod.mk.injEq,true_and];constructor<;>omega
abbrev B64 (a:Bool×Int×Int):Prop:=U64 a.2.1/\U64 a.2.2
theorem DG {n:Int} (h:AY n):U64 (n.natAbs:Int):=by constructor<;>omega
theorem DH {n:Int} (h:AY n):(n.natAbs:Int)<=9223372036854775808:=by omega
theorem GH (a b:Int):((a.natAbs:Int)*(b.natAbs:Int))=((a*b).natAbs:Int):=by rw [Int.natAbs_mul];rfl
theorem wD {a b:Int} (ha:AY a) (hb:AY b):((a*b).natAbs:Int)<=85070591730234615865843651857942052864:=by
 rw [<- GH]
 calc (a.natAbs:Int)*(b.natAbs:Int)<=9223372036854775808*9223372036854775808:=Int.mul_le_mul (DH ha) (DH hb) (by omega) (by decide)
  _=_:=by decide
theorem AZ {a b:Int} (ha:AY a) (hb:AY b):
 jO a b=some (decide (a*b<0),((a*b).natAbs:Int) / 18446744073709551616,((a*b).natAbs:Int)%18446744073709551616):=by
 unfold jO;simp only [jQ ha,jQ hb,aD,VB (DG ha) (DG hb),GH];have hs:(a*b<0)↔((a<0/\0<b)\/(0<a/\b<0)):=by
  constructor
  · intro h
    rcases Int.lt_trichotomy a 0 with h1|h1|h1
    · rcases Int.lt_trichotomy b 0 with h2|h2|h2
      · have:=Int.mul_pos_of_neg_of_neg h1 h2;omega
      · subst h2;simp at h
      · exact .inl ⟨h1,h2⟩
    · subst h1;simp at h
    · rcases Int.lt_trichotomy b 0 with h2|h2|h2
      · exact .inr ⟨h1,h2⟩
      · subst h2;simp at h
      · have:=Int.mul_pos h1 h2;omega
  · rintro (⟨h1,h2⟩|⟨h1,h2⟩)
    · exact Int.mul_neg_of_neg_of_pos h1 h2
    · exact Int.mul_neg_of_pos_of_neg h1 h2
 have hd:decide (a*b<0)=decide ((a<0/\0<b)\/(0<a/\b<0)):=by simp only [hs]
 rw [hd];clear hd hs;generalize ((a*b).natAbs:Int)=z
 by_cases h1:a<0
 · have h1': ¬0<a:=by omega
   have h1'':(a !=0)=true:=dM (by omega)
   by_cases h2:b<0
   · have h2': ¬0<b:=by omega
     simp [h1,h2,h1',h2']
   · by_cases h3:b=0
     · simp [h1,h3,h1'']
     · have h3':0<b:=by omega
       simp [h1,h2,h3',h1'',dM h3]
 · by_cases h0:a=0
   · subst h0
     by_cases h2:b<0<;>simp [h2]
   · have h1':0<a:=by omega
     by_cases h2:b<0
     · have h2':(b !=0)=true:=dM (by omega)
       simp [h1,h2,h1',dM h0,h2']
     · simp [h1,h2,h1']
theorem SL {a b:Int} (ha:AY a) (hb:AY b):
 tO a b=some (!(decide (a<0)==decide (b<0)),((a*b).natAbs:Int) / 18446744073709551616,((a*b).natAbs:Int)%18446744073709551616):=by
 unfold tO;simp only [qV ha,qV hb,aD,GG (DG ha) (DG hb),GH]
def jW (a b:Int):Int:=if a<b then -1 else if b<a then 1 else 0
theorem D6 (a b:Int):jF a b=some (jW a b):=by
 unfold jF oR jW
 by_cases h1:a<b<;>by_cases h2:b<a<;>simp [h1,h2]
theorem MX (a b:Int):iM a b=some (jW a b):=by
 unfold iM nR jW
 by_cases h1:a<b<;>by_cases h2:b<a<;>simp [h1,h2]
theorem kT (a b:Int):fB a b=some (jW a b):=by
 unfold fB sJ jW
 by_cases h1:a<b<;>by_cases h2:b<a<;>simp [h1,h2]
theorem fY (a b:Int):(a<b/\jW a b= -1)\/(a=b/\jW a b=0)\/(b<a/\jW a b=1):=by
 unfold jW
 by_cases h1:a<b
 · exact .inl ⟨h1,by rw [if_pos h1]⟩
 · by_cases h2:b<a
   · exact .inr (.inr ⟨h2,by rw [if_neg h1,if_pos h2]⟩)
   · exact .inr (.inl ⟨by omega,by rw [if_neg h1,if_neg h2]⟩)
theorem PS (a b:Bool×Int×Int) (ha:B64 a) (hb:B64 b):rV a b=some (jW (a.2.1*18446744073709551616+a.2.2) (b.2.1*18446744073709551616+b.2.2)):=by
 obtain ⟨s,ah,al⟩:=a;obtain ⟨t,bh,bl⟩:=b;obtain ⟨⟨a1,a2⟩,a3,a4⟩:=ha;obtain ⟨⟨b1,b2⟩,b3,b4⟩:=hb;dsimp only at*;unfold rV jW;dsimp only
 by_cases h1:ah=bh
 · subst h1
   by_cases h2:al=bl
   · subst h2;simp
   · by_cases h3:al<bl
     · simp [dM h2,h3]
     · rw [if_neg (by omega),if_pos (by omega)];simp [dM h2,h3]
 · by_cases h3:ah<bh
   · rw [if_pos (by omega)];simp [dM h1,h3]
   · rw [if_neg (by omega),if_pos (by omega)];simp [dM h1,h3]
theorem VC (a b:Bool×Int×Int) (ha:B64 a) (hb:B64 b):sM a b=some (jW (a.2.1*18446744073709551616+a.2.2) (b.2.1*18446744073709551616+b.2.2)):=by
 obtain ⟨s,ah,al⟩:=a;obtain ⟨t,bh,bl⟩:=b;obtain ⟨⟨a1,a2⟩,a3,a4⟩:=ha;obtain ⟨⟨b1,b2⟩,b3,b4⟩:=hb;dsimp only at*;unfold sM;simp only [MX,aD];unfold jW
 by_cases h1:ah=bh
 · subst h1
   by_cases h3:al<bl
   · simp [h3]
   · by_cases h2:bl<al
     · rw [if_neg (show¬(ah*18446744073709551616+al<ah*18446744073709551616+bl) by omega),if_pos (show ah*18446744073709551616+bl<ah*18446744073709551616+al by omega)];simp [h2,h3]
     · have:al=bl:=by omega
       subst this;simp
 · by_cases h3:ah<bh
   · rw [if_pos (show ah*18446744073709551616+al<bh*18446744073709551616+bl by omega)];simp [h3]
   · rw [if_neg (show¬(ah*18446744073709551616+al<bh*18446744073709551616+bl) by omega),if_pos (show bh*18446744073709551616+bl<ah*18446744073709551616+al by omega)];simp [h3,show bh<ah by omega]
theorem xL (a:Bool) {n:Int} (h0:0<=n) (h:n<=85070591730234615865843651857942052864):B64 (a,n / 18446744073709551616,n%18446744073709551616):=by
 constructor<;>constructor<;>dsimp only<;>omega
theorem PU {n:Int} (h:(n.natAbs:Int)<=85070591730234615865843651857942052864):lM (decide (n<0),(n.natAbs:Int) / 18446744073709551616,(n.natAbs:Int)%18446744073709551616)=some (jW n 0):=by
 unfold lM jW;dsimp only
 by_cases h0:n=0
 · subst h0;simp
 · by_cases h1:n<0
   · rw [if_pos h1]
     by_cases h2:(n.natAbs:Int) / 18446744073709551616=0
     · have h3: ¬((n.natAbs:Int)%18446744073709551616=0):=by omega
       simp [h1,h2,fW h3]
     · simp [h1,fW h2]
   · rw [if_neg h1,if_pos (by omega)]
     by_cases h2:(n.natAbs:Int) / 18446744073709551616=0
     · have h3: ¬((n.natAbs:Int)%18446744073709551616=0):=by omega
       simp [h1,h2,fW h3]
     · simp [h1,fW h2]
def E4 (a b:Int×Int):Int:=jW (a.1*b.2) (b.1*a.2)
theorem LU {a b:Int×Int} (ha:oA a) (hb:oA b):sQ a b=some (E4 a b):=by
 unfold sQ E4;have n1:=wD ha.1 hb.2;have n2:=wD hb.1 ha.2;simp only [AZ ha.1 hb.2,AZ hb.1 ha.2,aD,PU n1,PU n2];generalize a.1*b.2=x at*;generalize b.1*a.2=y at*;rw [PS _ _ (xL _ (by omega) n1) (xL _ (by omega) n2),PS _ _ (xL _ (by omega) n2) (xL _ (by omega) n1)]
 have ex:((x.natAbs:Int) / 18446744073709551616)*18446744073709551616+(x.natAbs:Int)%18446744073709551616=(x.natAbs:Int):=by omega
 have ey:((y.natAbs:Int) / 18446744073709551616)*18446744073709551616+(y.natAbs:Int)%18446744073709551616=(y.natAbs:Int):=by omega
 simp only [ex,ey,aD];rcases fY x 0 with ⟨h1,e1⟩|⟨h1,e1⟩|⟨h1,e1⟩<;>rcases fY y 0 with ⟨h2,e2⟩|⟨h2,e2⟩|⟨h2,e2⟩<;>rw [e1,e2]<;>simp<;>
  unfold jW<;>(repeat' split)<;>first|rfl|omega
theorem aH3 {a b:Int×Int} (ha:oA a) (hb:oA b):AO a b=some (if bU a/\bU b then 0 else 8):=by
 unfold AO;simp only [eZ ha,eZ hb,aD]
 by_cases h1:bU a<;>by_cases h2:bU b<;>simp [h1,h2]
theorem aBJ {a b:Int×Int} (ha:oA a) (hb:oA b):C9 a b=some (if bU a/\bU b then (E4 a b,0) else (0,8)):=by
 unfold C9;rw [aH3 ha hb]
 by_cases h:bU a/\bU b
 · rw [if_pos h,if_pos h]
   obtain ⟨⟨a1,a2,a3⟩,b1,b2,b3⟩:=h;have n1:=wD ha.1 hb.2;have n2:=wD hb.1 ha.2;simp only [aD,D6,SL ha.1 hb.2,SL hb.1 ha.2];rw [VC _ _ (xL _ (by omega) n1) (xL _ (by omega) n2)]
   have ex:((a.1*b.2).natAbs:Int) / 18446744073709551616*18446744073709551616+((a.1*b.2).natAbs:Int)%18446744073709551616=((a.1*b.2).natAbs:Int):=by omega
   have ey:((b.1*a.2).natAbs:Int) / 18446744073709551616*18446744073709551616+((b.1*a.2).natAbs:Int)%18446744073709551616=((b.1*a.2).natAbs:Int):=by omega
   simp only [ex,ey,aD];unfold E4;have s1:(a.1<0↔a.1*b.2<0):=by
    constructor
    · intro h;exact Int.mul_neg_of_neg_of_pos h (by omega)
    · intro h;rcases lt_or_ge a.1 0 with h1|h1
      · exact h1
      · have:=Int.mul_nonneg h1 (show 0<=b.2 by omega);omega
   have s2:(b.1<0↔b.1*a.2<0):=by
    constructor
    · intro h;exact Int.mul_neg_of_neg_of_pos h (by omega)
    · intro h;rcases lt_or_ge b.1 0 with h1|h1
      · exact h1
      · have:=Int.mul_nonneg h1 (show 0<=a.2 by omega);omega
   generalize a.1*b.2=x at*;generalize b.1*a.2=y at*
   by_cases h1:a.1<0<;>by_cases h2:b.1<0
   · have h3:=s1.1 h1;have h4:=s2.1 h2
     have:aA .i64 (-jW (x.natAbs:Int) (y.natAbs:Int))=jW x y:=by
      rw [wi];unfold jW;(repeat' split)<;>omega
     simp [h1,h2,this]
   · have h3:=s1.1 h1;have h4: ¬y<0:=fun h=>h2 (s2.2 h)
     have:jW a.1 b.1=jW x y:=by unfold jW;(repeat' split)<;>omega
     simp [h1,h2,this]
   · have h3: ¬x<0:=fun h=>h1 (s1.2 h);have h4:=s2.1 h2
     have:jW a.1 b.1=jW x y:=by unfold jW;(repeat' split)<;>omega
     simp [h1,h2,this]
   · have h3: ¬x<0:=fun h=>h1 (s1.2 h);have h4: ¬y<0:=fun h=>h2 (s2.2 h)
     have:jW (x.natAbs:Int) (y.natAbs:Int)=jW x y:=by unfold jW;(repeat' split)<;>omega
     simp [h1,h2,this]
 · rw [if_neg h,if_neg h];rfl
end Go.Proofs.YticklbjcnimggaaGreat
namespace Go.Proofs.YticklbjcnimggaaGreat
open Go.Vm Classical
abbrev Pt:=Int×Int×Int
def hZ (p:Pt):Prop:=0<=p.1/\p.1<=65535/\ -1048576<=p.2.1/\p.2.1<=1048576/\ -1048576<=p.2.2/\p.2.2<=1048576
theorem BI (p:Pt):nO p=some (if hZ p then 0 else 8):=by
 obtain ⟨i,a,b⟩:=p;unfold nO qE hZ;dsimp only
 by_cases h1:i<0
 · rw [if_neg (by omega)];simp [h1]
 by_cases h2:65535<i
 · rw [if_neg (by omega)];simp [h1,h2]
 by_cases h3:a< -1048576
 · rw [if_neg (by omega)];simp [h1,h2,h3]
 by_cases h4:1048576<a
 · rw [if_neg (by omega)];simp [h1,h2,h3,h4]
 by_cases h5:b< -1048576
 · rw [if_neg (by omega)];simp [h1,h2,h3,h4,h5]
 by_cases h6:1048576<b
 · rw [if_neg (by omega)];simp [h1,h2,h3,h4,h5,h6]
 rw [if_pos (by omega)];simp [h1,h2,h3,h4,h5,h6]
theorem LV (p:Pt):xB p=some (if hZ p then 0 else 8):=by
 obtain ⟨i,a,b⟩:=p;unfold xB hZ;dsimp only
 by_cases h1:i<0
 · rw [if_neg (by omega)];simp [h1]
 by_cases h2:65535<i
 · rw [if_neg (by omega)];simp [h1,h2]
 by_cases h3:a< -1048576
 · rw [if_neg (by omega)];simp [h1,h2,h3]
 by_cases h4:1048576<a
 · rw [if_neg (by omega)];simp [h1,h2,h3,h4]
 by_cases h5:b< -1048576
 · rw [if_neg (by omega)];simp [h1,h2,h3,h4,h5]
 by_cases h6:1048576<b
 · rw [if_neg (by omega)];simp [h1,h2,h3,h4,h5,h6]
 rw [if_pos (by omega)];simp [h1,h2,h3,h4,h5,h6]
theorem zC {x y:Int} (hx:AY x) (hy:AY y): -85070591730234615865843651857942052864<=x*y/\x*y<=85070591730234615865843651857942052864:=by
 have:=wD hx hy;omega
theorem aIU {x y:Int} (hx:AY x) (hy:AY y):(x%18446744073709551616)*(y%18446744073709551616)=x*y+(if x<0 then y else 0)*18446744073709551616+(if y<0 then x else 0)*18446744073709551616+(if x<0/\y<0 then 340282366920938463463374607431768211456 else 0):=by
 by_cases h1:x<0<;>by_cases h2:y<0
 · have e1:x%18446744073709551616=x+18446744073709551616:=by omega
   have e2:y%18446744073709551616=y+18446744073709551616:=by omega
   rw [e1,e2,if_pos h1,if_pos h2,if_pos ⟨h1,h2⟩];grind
 · have e1:x%18446744073709551616=x+18446744073709551616:=by omega
   have e2:y%18446744073709551616=y:=by omega
   rw [e1,e2,if_pos h1,if_neg h2,if_neg (fun h=>h2 h.2)];grind
 · have e1:x%18446744073709551616=x:=by omega
   have e2:y%18446744073709551616=y+18446744073709551616:=by omega
   rw [e1,e2,if_neg h1,if_pos h2,if_neg (fun h=>h1 h.1)];grind
 · have e1:x%18446744073709551616=x:=by omega
   have e2:y%18446744073709551616=y:=by omega
   rw [e1,e2,if_neg h1,if_neg h2,if_neg (fun h=>h1 h.1)];grind
theorem SM {a b:Int} (ha:0<=a) (hb:0<=b):rN a b 0=some ((a+b)%18446744073709551616,(a+b) / 18446744073709551616):=by
 unfold rN;simp [ha,hb]
theorem aBK {a b c d u v:Int} (ha:AY a) (hb:AY b):oI (a,b,c,d,0,u,v,0,0)=some (.next (a,b,c,d,1,u,v,a*b / 18446744073709551616,a*b%18446744073709551616)):=by
 unfold oI;have hm:=GG (x:=aA .u64 a) (y:=aA .u64 b) (by rw [wu];constructor<;>omega) (by rw [wu];constructor<;>omega)
 have hb2:=zC ha hb;have hu:=aIU ha hb;simp only [hm,aD];simp only [wu,hu];generalize a*b=x at*
 by_cases h1:a<0<;>by_cases h2:b<0
 all_goals
  simp only [h1,h2,decide_true,decide_false,cond_true,cond_false,if_true,if_false,and_self,and_false,false_and];rw [SM (by omega) (by omega)]
  simp only [wi,aD,show decide ((0:Int)<2)=true from rfl,cond_true,show ((0:Int)==0)=true from rfl,Option.some.injEq,cE.next.injEq,Prod.mk.injEq,true_and]
  refine ⟨by omega,?_,?_⟩<;>omega
theorem aBL {a b c d u v h l:Int} (hc:AY c) (hd:AY d) (hl:U64 l)
 (_hh: -9223372036854775808<=h/\h<9223372036854775808) (hs: -170141183460469231731687303715884105728<=h*18446744073709551616+l+c*d/\h*18446744073709551616+l+c*d<170141183460469231731687303715884105728):
 oI (a,b,c,d,1,u,v,h,l)=some (.next (a,b,c,d,2,u,v,(h*18446744073709551616+l+c*d) / 18446744073709551616,(h*18446744073709551616+l+c*d)%18446744073709551616)):=by
 unfold oI;have hm:=GG (x:=aA .u64 c) (y:=aA .u64 d) (by rw [wu];constructor<;>omega) (by rw [wu];constructor<;>omega)
 have hb2:=zC hc hd;have hu:=aIU hc hd;simp only [hm,aD];simp only [wu,hu];generalize c*d=x at*
 by_cases h1:c<0<;>by_cases h2:d<0
 all_goals
  simp only [h1,h2,decide_true,decide_false,cond_true,cond_false,if_true,if_false,and_self,and_false,false_and];rw [SM (by omega) (by omega)]
  simp only [wi,aD,show decide ((1:Int)<2)=true from rfl,cond_true,cond_false,show ((1:Int)==0)=false from rfl,show ((1:Int)==1)=true from rfl,Option.some.injEq,cE.next.injEq,Prod.mk.injEq,true_and]
  refine ⟨by omega,?_,?_⟩<;>omega
theorem MY {a b c d:Int} (ha:AY a) (hb:AY b) (hc:AY c) (hd:AY d) (hs: -170141183460469231731687303715884105728<=a*b+c*d/\a*b+c*d<170141183460469231731687303715884105728):
 AN (a,b,c,d)=some ((a*b+c*d) / 18446744073709551616,(a*b+c*d)%18446744073709551616):=by
 unfold AN;dsimp only;have hb2:=zC ha hb;have e:a*b / 18446744073709551616*18446744073709551616+a*b%18446744073709551616+c*d=a*b+c*d:=by omega
 rw [aZ (aBK ha hb),aZ (aBL hc hd (by constructor<;>omega) (by constructor<;>omega) (by rw [e];exact hs)),e]
 exact aL rfl
def NX (p q:Pt) (t:Int×Int):Int:=(p.2.1-q.2.1)*t.2+(p.2.2-q.2.2)*t.1
def gQ (p q:Pt) (t:Int×Int):Prop:=0<NX p q t\/(NX p q t=0/\(q.2.2<p.2.2\/(p.2.2=q.2.2/\p.1<q.1)))
def VD (p q:Pt) (t:Int×Int):Int:=if NX p q t<0 then -1 else if 0<NX p q t then 1 else if p.2.2<q.2.2 then -1 else if q.2.2<p.2.2 then 1 else jW q.1 p.1
theorem LW (p q:Pt) (t:Int×Int):0<VD p q t↔gQ p q t:=by
 unfold VD gQ
 by_cases h1:NX p q t<0
 · rw [if_pos h1];omega
 · by_cases h2:0<NX p q t
   · rw [if_neg h1,if_pos h2];simp [h2]
   · rw [if_neg h1,if_neg h2]
     by_cases h3:p.2.2<q.2.2
     · rw [if_pos h3];omega
     · by_cases h4:q.2.2<p.2.2
       · rw [if_neg h3,if_pos h4];omega
       · rw [if_neg h3,if_neg h4]
         rcases fY q.1 p.1 with ⟨h,e⟩|⟨h,e⟩|⟨h,e⟩<;>rw [e]<;>omega
theorem DI (a b:Int):vO [a,b]=some (if a≠0 then a else b):=by
 unfold vO
 by_cases h1:a=0
 · subst h1
   rw [aZ (y:=(0,[0,b],2,1)) (by rfl)]
   by_cases h2:b=0
   · subst h2
     rw [aZ (y:=(0,[0,0],2,2)) (by rfl)]
     exact aL rfl
   · refine (aL (r:=b) ?_).trans (by simp)
     have e:xY (0,[0,b],2,1)=(bif b !=0 then some (.done b) else some (.next (0,[0,b],2,aA .i64 (1+1)))):=rfl
     rw [e,dM h2];rfl
 · refine (aL (r:=a) ?_).trans (by simp [h1])
   have e:xY (0,[a,b],Int.ofNat [a,b].length,0)=(bif a !=0 then some (.done a) else some (.next (0,[a,b],Int.ofNat [a,b].length,aA .i64 (0+1)))):=rfl
   rw [e,dM h1];rfl
theorem aBM {p q:Pt} {t:Int×Int} (hp:hZ p) (hq:hZ q) (ht:oA t):AY (p.2.1-q.2.1)/\AY (p.2.2-q.2.2)/\ -170141183460469231731687303715884105728<=NX p q t/\NX p q t<170141183460469231731687303715884105728:=by
 obtain ⟨a1,a2,a3,a4,a5,a6⟩:=hp;obtain ⟨b1,b2,b3,b4,b5,b6⟩:=hq;have h1:AY (p.2.1-q.2.1):=by constructor<;>omega
 have h2:AY (p.2.2-q.2.2):=by constructor<;>omega
 refine ⟨h1,h2,?_⟩;have k: ∀{x y:Int},-2097152<=x/\x<=2097152->AY y-> -19342813113834066795298816<=x*y/\x*y<=19342813113834066795298816:=by
  intro x y hx hy
  have:((x*y).natAbs:Int)<=2097152*9223372036854775808:=by
   rw [<- GH];exact Int.mul_le_mul (by omega) (DH hy) (by omega) (by decide)
  omega
 have k1:=k (x:=p.2.1-q.2.1) (by omega) ht.2
 have k2:=k (x:=p.2.2-q.2.2) (by omega) ht.1
 unfold NX;omega
theorem xM {p q:Pt} {t:Int×Int} (hp:hZ p) (hq:hZ q) (ht:oA t):mW p q t=some (VD p q t):=by
 obtain ⟨g1,g2,g3⟩:=aBM hp hq ht;unfold mW;rw [GE g1,GE g2,MY g1 ht.2 g2 ht.1 g3];simp only [aD,D6,kT,DI];rw [show (p.2.1-q.2.1)*t.2+(p.2.2-q.2.2)*t.1=NX p q t from rfl];unfold VD;generalize NX p q t=n at*
 by_cases h1:n<0
 · have e1:(n / 18446744073709551616==0)=false:=by simp;omega
   have e2:decide (n / 18446744073709551616<0)=true:=by simp;omega
   rw [if_pos h1];simp [e1,e2]
 · by_cases h2:0<n
   · have e1:((n / 18446744073709551616==0)&&(n%18446744073709551616==0))=false:=by simp;omega
     have e2:decide (n / 18446744073709551616<0)=false:=by simp;omega
     rw [if_neg h1,if_pos h2];simp only [e1,e2,Bool.not_false,cond_true,cond_false]
   · have:n=0:=by omega
     subst this;rw [if_neg h1,if_neg h2];unfold jW
     by_cases h3:p.2.2<q.2.2
     · simp [h3]
     · by_cases h4:q.2.2<p.2.2
       · simp [h3,h4]
       · simp [h3,h4]
theorem aH4 {x y:Int} (hx: -85070591730234615865843651857942052864<=x/\x<=85070591730234615865843651857942052864) (hy: -85070591730234615865843651857942052864<=y/\y<=85070591730234615865843651857942052864):
 AR (decide (x<0),(x.natAbs:Int) / 18446744073709551616,(x.natAbs:Int)%18446744073709551616) (decide (y<0),(y.natAbs:Int) / 18446744073709551616,(y.natAbs:Int)%18446744073709551616)=
  some (decide (x+y<0),((x+y).natAbs:Int) / 18446744073709551616,((x+y).natAbs:Int)%18446744073709551616):=by
 have n1:(x.natAbs:Int)<=85070591730234615865843651857942052864:=by omega
 have n2:(y.natAbs:Int)<=85070591730234615865843651857942052864:=by omega
 unfold AR;rw [PS _ _ (xL _ (by omega) n1) (xL _ (by omega) n2)]
 have ex:((x.natAbs:Int) / 18446744073709551616)*18446744073709551616+(x.natAbs:Int)%18446744073709551616=(x.natAbs:Int):=by omega
 have ey:((y.natAbs:Int) / 18446744073709551616)*18446744073709551616+(y.natAbs:Int)%18446744073709551616=(y.natAbs:Int):=by omega
 simp only [ex,ey,aD];have same: ∀{X Y Z:Int},0<=X->0<=Y->X<=85070591730234615865843651857942052864->Y<=85070591730234615865843651857942052864->Z=X+Y-> ∀b:Bool,
  (bif decide (aA .u64 (X%18446744073709551616+Y%18446744073709551616)<X%18446744073709551616) then some (b,aA .u64 (aA .u64 (X / 18446744073709551616+Y / 18446744073709551616)+1),aA .u64 (X%18446744073709551616+Y%18446744073709551616))
   else some (b,aA .u64 (X / 18446744073709551616+Y / 18446744073709551616),aA .u64 (X%18446744073709551616+Y%18446744073709551616)))=some (b,Z / 18446744073709551616,Z%18446744073709551616):=by
  intro X Y Z h1 h2 h3 h4 h5 b;subst h5;simp only [wu]
  by_cases h:(X%18446744073709551616+Y%18446744073709551616)%18446744073709551616<X%18446744073709551616
  · simp only [h,decide_true,cond_true,Option.some.injEq,Prod.mk.injEq,true_and];constructor<;>omega
  · simp only [h,decide_false,cond_false,Option.some.injEq,Prod.mk.injEq,true_and];constructor<;>omega
 have minus: ∀{X Y Z:Int} (b c:Bool),0<=X->0<=Y->X<=85070591730234615865843651857942052864->Y<=X->Z=X-Y->tR (b,X / 18446744073709551616,X%18446744073709551616) (c,Y / 18446744073709551616,Y%18446744073709551616)=some (false,Z / 18446744073709551616,Z%18446744073709551616):=by
  intro X Y Z b c h1 h2 h3 h4 h5;subst h5;unfold tR;simp only [wu]
  by_cases h:X%18446744073709551616<Y%18446744073709551616
  · simp only [h,decide_true,cond_true,Option.some.injEq,Prod.mk.injEq,true_and];constructor<;>omega
  · simp only [h,decide_false,cond_false,Option.some.injEq,Prod.mk.injEq,true_and];constructor<;>omega
 by_cases h1:x<0<;>by_cases h2:y<0
 · have h3:x+y<0:=by omega
   simp only [h1,h2,h3,decide_true,beq_self_eq_true,cond_true];exact same (by omega) (by omega) n1 n2 (by omega) true
 · simp only [h1,h2,decide_true,decide_false,show (true==false)=false from rfl,cond_false,cond_true]
   by_cases h3:(y.natAbs:Int)<=(x.natAbs:Int)
   · have e:decide (0<=jW (x.natAbs:Int) (y.natAbs:Int))=true:=by
      rcases fY (x.natAbs:Int) (y.natAbs:Int) with ⟨h,e⟩|⟨h,e⟩|⟨h,e⟩<;>rw [e]<;>first|rfl|omega
     rw [e,minus (Z:=((x+y).natAbs:Int)) _ _ (by omega) (by omega) n1 h3 (by omega)]
     simp only [cond_true,aD]
     by_cases h4:x+y=0
     · rw [h4];rfl
     · have h5:x+y<0:=by omega
       by_cases h6:0<((x+y).natAbs:Int) / 18446744073709551616
       · simp [h5,h6]
       · have h7:0<((x+y).natAbs:Int)%18446744073709551616:=by omega
         simp only [h5,h6,h7,decide_true,decide_false,cond_false]
   · have e:decide (0<=jW (x.natAbs:Int) (y.natAbs:Int))=false:=by
      rcases fY (x.natAbs:Int) (y.natAbs:Int) with ⟨h,e⟩|⟨h,e⟩|⟨h,e⟩<;>rw [e]<;>first|rfl|omega
     rw [e,minus (Z:=((x+y).natAbs:Int)) _ _ (by omega) (by omega) n2 (by omega) (by omega)]
     have h5: ¬(x+y<0):=by omega
     simp [h5]
 · simp only [h1,h2,decide_true,decide_false,show (false==true)=false from rfl,cond_false]
   by_cases h3:(y.natAbs:Int)<=(x.natAbs:Int)
   · have e:decide (0<=jW (x.natAbs:Int) (y.natAbs:Int))=true:=by
      rcases fY (x.natAbs:Int) (y.natAbs:Int) with ⟨h,e⟩|⟨h,e⟩|⟨h,e⟩<;>rw [e]<;>first|rfl|omega
     rw [e,minus (Z:=((x+y).natAbs:Int)) _ _ (by omega) (by omega) n1 h3 (by omega)]
     have h5: ¬(x+y<0):=by omega
     simp [h5]
   · have e:decide (0<=jW (x.natAbs:Int) (y.natAbs:Int))=false:=by
      rcases fY (x.natAbs:Int) (y.natAbs:Int) with ⟨h,e⟩|⟨h,e⟩|⟨h,e⟩<;>rw [e]<;>first|rfl|omega
     rw [e,minus (Z:=((x+y).natAbs:Int)) _ _ (by omega) (by omega) n2 (by omega) (by omega)]
     have h5:x+y<0:=by omega
     simp [h5]
 · have h3: ¬(x+y<0):=by omega
   simp only [h1,h2,h3,decide_false,beq_self_eq_true,cond_true];exact same (by omega) (by omega) n1 n2 (by omega) false
theorem aOq {p q:Pt} {t:Int×Int} (hp:hZ p) (hq:hZ q) (ht:oA t):DC p q t=some (jW (NX p q t) 0):=by
 obtain ⟨g1,g2,g3⟩:=aBM hp hq ht;unfold DC;rw [GE g1,GE g2,AZ g1 ht.2,AZ g2 ht.1];simp only [aD];rw [aH4 (zC g1 ht.2) (zC g2 ht.1)];simp only [aD];rw [show (p.2.1-q.2.1)*t.2+(p.2.2-q.2.2)*t.1=NX p q t from rfl];obtain ⟨a1,a2,a3,a4,a5,a6⟩:=hp;obtain ⟨b1,b2,b3,b4,b5,b6⟩:=hq
 have k: ∀{x y:Int},-2097152<=x/\x<=2097152->AY y-> -19342813113834066795298816<=x*y/\x*y<=19342813113834066795298816:=by
  intro x y hx hy
  have:((x*y).natAbs:Int)<=2097152*9223372036854775808:=by
   rw [<- GH];exact Int.mul_le_mul (by omega) (DH hy) (by omega) (by decide)
  omega
 have k1:=k (x:=p.2.1-q.2.1) (by omega) ht.2
 have k2:=k (x:=p.2.2-q.2.2) (by omega) ht.1
 have:((NX p q t).natAbs:Int)<=85070591730234615865843651857942052864:=by unfold NX;omega
 rw [PU this];rfl
theorem GI {p q:Pt} {t:Int×Int} (hp:hZ p) (hq:hZ q) (ht:oA t):nA p q t=some (decide (gQ p q t)):=by
 unfold nA gQ;rw [aOq hp hq ht];simp only [aD];rcases fY (NX p q t) 0 with ⟨h,e⟩|⟨h,e⟩|⟨h,e⟩<;>rw [e]
 · have h1: ¬(0<NX p q t):=by omega
   have h2: ¬(NX p q t=0):=by omega
   simp [h1,h2]
 · rw [h]
   by_cases h3:p.2.2=q.2.2
   · simp [h3]
   · simp [h3,dM h3]
 · simp [h]
theorem yD {p q:Pt} {t:Int×Int} (ht:oA t):rQ p q t=some (if hZ p/\hZ q/\bU t then (if p.1=q.1 then 2 else 0) else 8):=by
 unfold rQ;simp only [BI,eZ ht,aD]
 by_cases h4:p.1=q.1
 · by_cases h1:hZ p<;>by_cases h2:hZ q<;>by_cases h3:bU t<;>simp [h1,h2,h3,h4]
 · have h5:=fW h4
   by_cases h1:hZ p<;>by_cases h2:hZ q<;>by_cases h3:bU t<;>simp [h1,h2,h3,h4,h5]
theorem aH5 {n d:Int} (hn:AY n) (hd:AY d):AP n d=nE n d:=by
 unfold AP nE
 by_cases h0:d=0
 · subst h0;rfl
 · have e0:(d==0)=false:=by simpa using h0
   simp only [e0,cond_false,qV hn,qV hd,jQ hn,jQ hd,aD,D5,sB];have hp:0<Nat.gcd n.natAbs d.natAbs:=Nat.gcd_pos_of_pos_right _ (by omega)
   have e1:((Nat.gcd n.natAbs d.natAbs:Int)==0)=false:=by simp;omega
   simp only [e1,cond_false];unfold CF rZ;simp only [show decide ((0:Int)<0)=false from rfl,cond_false]
   by_cases h3:n=0
   · subst h3
     have z: ∀k:Int,aA .u64 (Int.tdiv (((0:Int).natAbs:Nat):Int) k)=0:=fun k=>by
      rw [show (((0:Int).natAbs:Nat):Int)=0 from rfl,Int.zero_tdiv];rfl
     have z2:aA .i64 0=0:=rfl;have z3:aA .i64 (0-0)=0:=rfl;simp only [z,z2,z3,show ((0:Int) !=0)=false from rfl,cond_false,show decide ((0:Int)<0)=false from rfl];cases (!(false==decide (d<0)))<;>simp
   · simp only [dM h3]
     cases (!(decide (n<0)==decide (d<0)))<;>rfl
noncomputable def met (p q:Pt):Int×Int:=((nE (p.2.1-q.2.1) (q.2.2-p.2.2)).getD ((0,0),0)).1
theorem VE {n d:Int} (hn: -2097152<=n/\n<=2097152) (hd: -2097152<=d/\d<=2097152) (h0:d≠0): ∃r,nE n d=some (r,0)/\bU r/\oA r/\r.1*d=n*r.2:=by
 have hn':AY n:=by constructor<;>omega
 have hd':AY d:=by constructor<;>omega
 unfold nE;have e0:(d==0)=false:=by simpa using h0
 have hp:0<Nat.gcd n.natAbs d.natAbs:=Nat.gcd_pos_of_pos_right _ (by omega)
 have e1:((Nat.gcd n.natAbs d.natAbs:Int)==0)=false:=by simp;omega
 simp only [e0,cond_false,jQ hn',jQ hd',aD,sB,e1];have q1:Int.tdiv (n.natAbs:Int) (Nat.gcd n.natAbs d.natAbs:Int)=((n.natAbs / Nat.gcd n.natAbs d.natAbs:Nat):Int):=by
  rw [Int.ofNat_tdiv]
 have q2:Int.tdiv (d.natAbs:Int) (Nat.gcd n.natAbs d.natAbs:Int)=((d.natAbs / Nat.gcd n.natAbs d.natAbs:Nat):Int):=by
  rw [Int.ofNat_tdiv]
 rw [q1,q2];have l1:n.natAbs / Nat.gcd n.natAbs d.natAbs<=2097152:=Nat.le_trans (Nat.div_le_self _ _) (by omega)
 have l2:d.natAbs / Nat.gcd n.natAbs d.natAbs<=2097152:=Nat.le_trans (Nat.div_le_self _ _) (by omega)
 have l3:1<=d.natAbs / Nat.gcd n.natAbs d.natAbs:=Nat.div_pos (Nat.le_of_dvd (by omega) (Nat.gcd_dvd_right _ _)) hp
 have co:Nat.gcd (d.natAbs / Nat.gcd n.natAbs d.natAbs) (n.natAbs / Nat.gcd n.natAbs d.natAbs)=1:=by
  rw [Nat.gcd_comm,Nat.gcd_div (Nat.gcd_dvd_left _ _) (Nat.gcd_dvd_right _ _)];exact Nat.div_self hp
 have v1:n.natAbs=Nat.gcd n.natAbs d.natAbs*(n.natAbs / Nat.gcd n.natAbs d.natAbs):=(Nat.mul_div_cancel' (Nat.gcd_dvd_left _ _)).symm;have v2:d.natAbs=Nat.gcd n.natAbs d.natAbs*(d.natAbs / Nat.gcd n.natAbs d.natAbs):=(Nat.mul_div_cancel' (Nat.gcd_dvd_right _ _)).symm
 have val:(n.natAbs:Int)*((d.natAbs / Nat.gcd n.natAbs d.natAbs:Nat):Int)=(d.natAbs:Int)*((n.natAbs / Nat.gcd n.natAbs d.natAbs:Nat):Int):=by
  generalize n.natAbs / Nat.gcd n.natAbs d.natAbs=a at*;generalize d.natAbs / Nat.gcd n.natAbs d.natAbs=b at*;generalize Nat.gcd n.natAbs d.natAbs=g at*;rw [v1,v2,Int.natCast_mul,Int.natCast_mul,Int.mul_assoc,Int.mul_assoc,Int.mul_comm (a:Int) (b:Int)]
 clear v1 v2;generalize n.natAbs / Nat.gcd n.natAbs d.natAbs=a at*;generalize d.natAbs / Nat.gcd n.natAbs d.natAbs=b at*;have w1:aA .u64 (a:Int)=a:=by rw [wu];omega
 have w2:aA .u64 (b:Int)=b:=by rw [wu];omega
 have made: ∀s:Bool,rZ s (false,0,(a:Int)) (false,0,(b:Int))=some ((if s=true then -(a:Int) else a,(b:Int)),0):=by
  intro s;unfold rZ;have d1:decide (9223372036854775807<(a:Int))=false:=by simp;omega
  have d2:decide (9223372036854775807<(b:Int))=false:=by simp;omega
  have v1:aA .i64 (a:Int)=a:=by rw [wi];omega
  have v2:aA .i64 (b:Int)=b:=by rw [wi];omega
  have v3:aA .i64 (0- (a:Int))= -(a:Int):=by rw [wi];omega
  simp only [show decide ((0:Int)<0)=false from rfl,cond_false,d1,d2,v1,v2,v3];cases s<;>simp
 have fin: ∀s:Bool,(if s=true then -(a:Int) else a)*d=n*b-> ∃r,(some ((if s=true then -(a:Int) else a,(b:Int)),(0:Int)):Option ((Int×Int)×Int))=some (r,0)/\bU r/\oA r/\r.1*d=n*r.2:=by
  intro s hv;refine ⟨_,rfl,?_,?_,hv⟩
  · unfold bU
    dsimp only;refine ⟨by omega,?_,?_⟩
    · cases s
      · simp only [Bool.false_eq_true,if_false];omega
      · simp only [if_true];omega
    · rw [show (if s=true then -(a:Int) else (a:Int)).natAbs=a by cases s<;>simp,show ((b:Int)).natAbs=b by omega];exact co
  · constructor
    · dsimp only;cases s
      · simp only [Bool.false_eq_true,if_false];constructor<;>omega
      · simp only [if_true];constructor<;>omega
    · dsimp only;constructor<;>omega
 simp only [w1,w2,made,aD]
 by_cases h1:(!(decide (n<0)==decide (d<0)))=true
 · rw [h1]
   refine fin (n !=0) ?_
   by_cases hn0:n=0
   · subst hn0
     have a0:(a:Int)=0:=by
      have:((d.natAbs:Nat):Int)*(a:Int)=0:=by rw [<- val];simp
      rcases Int.mul_eq_zero.1 this with h|h
      · omega
      · exact h
     simp [a0]
   · have e:(n !=0)=true:=by simpa using hn0
     rw [e,if_pos rfl]
     by_cases hneg:n<0
     · have hd0: ¬d<0:=fun k=>by simp [hneg,k] at h1
       have x1:(n.natAbs:Int)= -n:=by omega
       have x2:(d.natAbs:Int)=d:=by omega
       rw [x1,x2,Int.neg_mul] at val;rw [Int.neg_mul,Int.mul_comm];omega
     · have hd0:d<0:=by
        by_cases k:d<0
        · exact k
        · simp [hneg,k] at h1
       have x1:(n.natAbs:Int)=n:=by omega
       have x2:(d.natAbs:Int)= -d:=by omega
       rw [x1,x2,Int.neg_mul] at val;rw [Int.neg_mul,Int.mul_comm];omega
 · rw [Bool.not_eq_true] at h1;rw [h1]
   refine fin false ?_;rw [if_neg (by simp)]
   by_cases hneg:n<0
   · have hd0:d<0:=by
      by_cases k:d<0
      · exact k
      · simp [hneg,k] at h1
     have x1:(n.natAbs:Int)= -n:=by omega
     have x2:(d.natAbs:Int)= -d:=by omega
     rw [x1,x2,Int.neg_mul,Int.neg_mul] at val;rw [Int.mul_comm];omega
   · have hd0: ¬d<0:=fun k=>by simp [hneg,k] at h1
     have x1:(n.natAbs:Int)=n:=by omega
     have x2:(d.natAbs:Int)=d:=by omega
     rw [x1,x2] at val;rw [Int.mul_comm];omega
theorem VF {p q:Pt} (hp:hZ p) (hq:hZ q) (h:p.2.2≠q.2.2):nE (p.2.1-q.2.1) (q.2.2-p.2.2)=some (met p q,0)/\bU (met p q)/\oA (met p q)/\(met p q).1*(q.2.2-p.2.2)=(p.2.1-q.2.1)*(met p q).2:=by
 obtain ⟨a1,a2,a3,a4,a5,a6⟩:=hp;obtain ⟨b1,b2,b3,b4,b5,b6⟩:=hq;obtain ⟨r,h1,h2,h3⟩:=VE (n:=p.2.1-q.2.1) (d:=q.2.2-p.2.2) (by omega) (by omega) (by omega)
 have:met p q=r:=by unfold met;rw [h1];rfl
 rw [this];exact ⟨h1,h2,h3⟩
theorem NY {p q:Pt} (hp:hZ p) (hq:hZ q):aA .i64 (p.2.1-q.2.1)=p.2.1-q.2.1/\aA .i64 (q.2.2-p.2.2)=q.2.2-p.2.2/\AY (p.2.1-q.2.1)/\AY (q.2.2-p.2.2):=by
 obtain ⟨a1,a2,a3,a4,a5,a6⟩:=hp;obtain ⟨b1,b2,b3,b4,b5,b6⟩:=hq;have h1:AY (p.2.1-q.2.1):=by constructor<;>omega
 have h2:AY (q.2.2-p.2.2):=by constructor<;>omega
 exact ⟨GE h1,GE h2,h1,h2⟩
noncomputable def D7 (h l:Pt) (t:Int×Int):(Int×Int)×Bool:=if gQ l h t then (t,true) else if h.2.2<l.2.2 then (met h l,true) else ((0,0),false)
theorem aOr {p q:Pt} (hp:hZ p) (hq:hZ q) (h:p.2.2≠q.2.2):DE p q=some (met p q):=by
 obtain ⟨w1,w2,_,_⟩:=NY hp hq;unfold DE;rw [w1,w2,(VF hp hq h).1];rfl
theorem VG {h l:Pt} {t:Int×Int} (hh:hZ h) (hl:hZ l) (ht:oA t):sS h l t=some (D7 h l t):=by
 unfold sS D7;rw [GI hl hh ht];simp only [aD]
 by_cases h1:gQ l h t
 · simp [h1]
 · simp only [h1,decide_false,cond_false,if_false]
   by_cases h2:h.2.2<l.2.2
   · simp [h2,aOr hh hl (by omega)]
   · simp [h2]
theorem aBN:bU (0,1):=by unfold bU;decide
theorem JC {h l:Pt} {t:Int×Int} (ht:oA t):
 uS h l t=some (if hZ h/\hZ l/\bU t/\h.1≠l.1 then ((D7 h l t).1,(D7 h l t).2,0) else ((0,0),false,if hZ h/\hZ l/\bU t then 2 else 8)):=by
 unfold uS;rw [yD ht]
 by_cases h1:hZ h/\hZ l/\bU t
 · rw [if_pos h1]
   by_cases h2:h.1=l.1
   · simp [h1,h2]
   · obtain ⟨hh,hl,hr⟩:=h1
     rw [if_neg h2,if_pos ⟨hh,hl,hr,h2⟩];simp only [aD,show ((0:Int) !=0)=false from rfl,cond_false,xM hl hh ht];unfold D7
     by_cases h3:gQ l h t
     · have:decide (0<VD l h t)=true:=by simpa using (LW l h t).2 h3
       rw [this];simp [h3]
     · have:decide (0<VD l h t)=false:=decide_eq_false fun k=>h3 ((LW l h t).1 k)
       rw [this,if_neg h3];simp only [cond_false]
       by_cases h4:h.2.2<l.2.2
       · have e:decide (l.2.2<=h.2.2)=false:=by simp;omega
         rw [e,if_pos h4];unfold CG;obtain ⟨w1,w2,i1,i2⟩:=NY hh hl;have e2:(h.2.2==l.2.2)=false:=by simp;omega
         rw [yD (by constructor<;>constructor<;>decide),if_pos ⟨hh,hl,aBN⟩,if_neg h2]
         simp only [aD,show ((0:Int) !=0)=false from rfl,cond_false,e2,w1,w2,aH5 i1 i2,(VF hh hl (by omega)).1]
         rfl
       · have e:decide (l.2.2<=h.2.2)=true:=by simp;omega
         rw [e,if_neg h4];rfl
 · rw [if_neg h1,if_neg (fun h=>h1 ⟨h.1,h.2.1,h.2.2.1⟩),if_neg h1];rfl
theorem LX {h l:Pt} {t:Int×Int} (hh:hZ h) (hl:hZ l) (ht:oA t) (hr:bU t) (h2:(D7 h l t).2=true):bU (D7 h l t).1/\oA (D7 h l t).1:=by
 unfold D7 at*
 by_cases h3:gQ l h t
 · rw [if_pos h3];exact ⟨hr,ht⟩
 · rw [if_neg h3] at h2 ⊢
   by_cases h4:h.2.2<l.2.2
   · rw [if_pos h4];have:=(VF hh hl (by omega)).2;exact ⟨this.1,this.2.1⟩
   · rw [if_neg h4] at h2;cases h2
end Go.Proofs.YticklbjcnimggaaGreat
namespace Go.Proofs.YticklbjcnimggaaGreat
open Go.Vm Classical
theorem VH: ∀(n:Nat) (l:List Nat),l.Nodup->(∀x∈l,x<n)->l.length<=n
 |0,l,_,h=>by
  cases l with
  |nil=>simp
  |cons a l=>exact absurd (h a (by simp)) (by omega)
 |n+1,l,hd,h=>by
  have h1:=VH n (l.filter (fun x=>x≠n)) (hd.filter _) (by
   intro x hx;rw [List.mem_filter] at hx
   have:=h x hx.1
   have h2:x≠n:=by simpa using hx.2
   omega)
  have h2:l.length<=(l.filter (fun x=>x≠n)).length+1:=by
   clear h1 h
   induction l with
   |nil=>simp
   |cons a l ih=>
    rw [List.nodup_cons] at hd
    have:=ih hd.2
    by_cases ha:a=n
    · subst ha
      have e:l.filter (fun x=>decide (x≠a))=l:=by
       rw [List.filter_eq_self];intro x hx;simp only [ne_eq,decide_eq_true_eq];rintro rfl;exact hd.1 hx
      rw [List.filter_cons_of_neg (by simp),e];simp
    · rw [List.filter_cons_of_pos (by simpa using ha)]
      simp only [List.length_cons];omega
  omega
theorem IW {n:Nat} {l:List Nat} (hd:l.Nodup) (h: ∀x∈l,x<n) (hn:n<=l.length): ∀x,x<n->x∈l:=by
 intro x hx;refine Classical.byContradiction fun hc=>?_
 have:=VH n (x::l) (by rw [List.nodup_cons];exact ⟨hc,hd⟩) (by
  intro y hy;rcases List.mem_cons.1 hy with rfl|hy
  · exact hx
  · exact h y hy)
 simp only [List.length_cons] at this;omega
def iY (l:List Pt):Prop:= ∀i,i+1<l.length->(l[i]!).1<(l[i+1]!).1
def cP (l:List Pt):Prop:=l.length<=64/\(∀p∈l,hZ p)/\iY l
noncomputable def jL (l:List Pt):Int:=if 64<l.length then 4 else if¬(∀p∈l,hZ p) then 8 else if¬iY l then 32 else 0
theorem jM {l:List Pt}:jL l=0↔cP l:=by
 unfold jL cP
 by_cases h1:64<l.length
 · rw [if_pos h1];simp;omega
 · rw [if_neg h1]
   by_cases h2: ∀p∈l,hZ p
   · rw [if_neg (Classical.not_not.2 h2)]
     by_cases h3:iY l
     · rw [if_neg (Classical.not_not.2 h3)]
       exact ⟨fun _=>⟨by omega,h2,h3⟩,fun _=>rfl⟩
     · rw [if_pos h3]
       exact ⟨fun h=>(by cases h),fun h=>absurd h.2.2 h3⟩
   · rw [if_pos h2]
     constructor
     · intro h;cases h
     · intro h;exact absurd h.2.1 h2
theorem aX {n:Nat} (h:n<1000000000):aA .i64 ((n:Int)+1)=((n+1:Nat):Int):=by rw [wi];omega
theorem A0 {n:Nat} (h:n<1000000000) (h1:1<=n):aA .i64 ((n:Int) -1)=((n-1:Nat):Int):=by rw [wi];omega
theorem aF (n:Nat):Int.ofNat n=(n:Int):=rfl
theorem SN (l:List Pt) (h:l.length<=64):aH iP (1,l)=some (.done (if iY l then 0 else 32)):=by
 by_cases hl:l.length<=1
 · have:iY l:=fun i hi=>by omega
   rw [if_pos this];refine aL ?_;unfold iP;rw [aF]
   have:decide ((1:Int)<(l.length:Int))=false:=by simp;omega
   simp [this]
 · have key:=dA (body:=iP) (fun i=>(((i+1:Nat):Int),l)) (l.length-1) (fun i=>(l[i+1]!).1<=(l[i]!).1) (r:= .done 32) (e:= .done 0) (by
    intro i hi;have e1:decide (((i+1:Nat):Int)<(l.length:Int))=true:=by simp;omega
    have e2:aA .i64 (((i+1:Nat):Int) -1)=(i:Int):=by rw [wi];omega
    have hb:iP (((i+1:Nat):Int),l)=bif decide ((l[i+1]!).1<=(l[i]!).1) then some (.done (.done 32)) else some (.next (((i+1+1:Nat):Int),l)):=by
     unfold iP;simp only [aF,e1,cond_true,e2,aE l i (by omega),aE l (i+1) (by omega),aD,aX (show i+1<1000000000 by omega)]
    constructor
    · intro hc;rw [hb,decide_eq_true hc];rfl
    · intro hc;rw [hb,decide_eq_false hc];rfl) (by
    unfold iP
    have:decide (((l.length-1+1:Nat):Int)<Int.ofNat l.length)=false:=by rw [aF];simp;omega
    simp only [this,cond_false])
   by_cases hs:iY l
   · rw [if_pos hs]
     refine key.2 fun i hi=>?_
     have:=hs i (by omega)
     omega
   · rw [if_neg hs]
     refine key.1 ?_;unfold iY at hs;simp only [Classical.not_forall] at hs;obtain ⟨i,hi,h2⟩:=hs;exact ⟨i,by omega,by omega⟩
theorem qX (f:Field):pN f=some (jL f.points):=by
 unfold pN jL;rw [aF]
 by_cases h:64<f.points.length
 · have:decide ((64:Int)<(f.points.length:Int))=true:=by simp;omega
   rw [this,if_pos h];rfl
 · have:decide ((64:Int)<(f.points.length:Int))=false:=by simp;omega
   rw [this,if_neg h];simp only [cond_false];generalize f.points=l at*;have key:=dA (body:=mY) (fun i=>((i:Int),l)) l.length (fun i=> ¬hZ l[i]!) (r:=8) (e:=if iY l then 0 else 32) (by
    intro i hi;have e1:decide ((i:Int)<(l.length:Int))=true:=by simp;omega
    have hb:mY ((i:Int),l)=bif (if hZ l[i]! then (0:Int) else 8) !=0 then some (.done 8) else some (.next (((i+1:Nat):Int),l)):=by
     unfold mY;simp only [aF,e1,cond_true,aE l i (by omega),aD,LV,aX (show i<1000000000 by omega)]
    constructor
    · intro hc;rw [hb,if_neg hc];rfl
    · intro hc;rw [hb,if_pos (Classical.not_not.1 hc)];rfl) (by
    unfold mY
    have:decide ((l.length:Int)<Int.ofNat l.length)=false:=by rw [aF];simp
    simp only [this,cond_false];exact SN l (by omega))
   by_cases hp: ∀p∈l,hZ p
   · rw [if_neg (Classical.not_not.2 hp)]
     refine (key.2 fun i hi=>?_).trans ?_
     · exact Classical.not_not.2 (hp _ (bF hi))
     · by_cases hs:iY l
       · simp [hs]
       · simp [hs]
   · rw [if_pos hp]
     refine key.1 ?_;obtain ⟨p,hp⟩:=Classical.not_forall.1 hp;obtain ⟨hm,h2⟩:=Classical.not_imp.1 hp;obtain ⟨i,hi,rfl⟩:=bD.1 hm;exact ⟨i,hi,h2⟩
theorem SO (l:List Pt) (h:l.length<=64):aH iK (l,(l.length:Int),0,l)=some (.done (if iY l then 0 else 32)):=by
 have key:=dA (body:=iK) (fun i=>(l,(l.length:Int),(i:Int),l)) l.length (fun i=>0<i/\(l[i]!).1<=(l[i-1]!).1) (r:= .done 32) (e:= .done 0) (by
  intro i hi;have e1:decide ((i:Int)<(l.length:Int))=true:=by simp;omega
  by_cases h0:0<i
  · have e3:decide ((0:Int)<(i:Int))=true:=by simp;omega
    have hb:iK (l,(l.length:Int),(i:Int),l)=bif decide ((l[i]!).1<=(l[i-1]!).1) then some (.done (.done 32)) else some (.next (l,(l.length:Int),((i+1:Nat):Int),l)):=by
     unfold iK;simp only [e1,e3,cond_true,aE l i (by omega),A0 (show i<1000000000 by omega) h0,aE l (i-1) (by omega),aD,aX (show i<1000000000 by omega)]
    constructor
    · intro hc;rw [hb,decide_eq_true hc.2];rfl
    · intro hc
      have: ¬(l[i]!).1<=(l[i-1]!).1:=fun h=>hc ⟨h0,h⟩
      rw [hb,decide_eq_false this];rfl
  · have e3:decide ((0:Int)<(i:Int))=false:=by simp;omega
    constructor
    · intro hc;exact absurd hc.1 h0
    · intro _
      unfold iK;simp only [e1,e3,cond_true,cond_false,aE l i (by omega),aD,aX (show i<1000000000 by omega)]) (by
  unfold iK
  have:decide ((l.length:Int)<(l.length:Int))=false:=by simp
  simp only [this,cond_false])
 by_cases hs:iY l
 · rw [if_pos hs]
   refine key.2 fun i hi=>?_
   rintro ⟨h0,h1⟩
   have:=hs (i-1) (by omega)
   rw [show i-1+1=i by omega] at this
   omega
 · rw [if_neg hs]
   refine key.1 ?_;unfold iY at hs;simp only [Classical.not_forall] at hs;obtain ⟨i,hi,h2⟩:=hs;exact ⟨i+1,by omega,by omega,by rw [show i+1-1=i by omega];omega⟩
theorem kU (f:Field):fE f=some (jL f.points):=by
 unfold fE jL;rw [aF]
 by_cases h:64<f.points.length
 · have:decide ((64:Int)<(f.points.length:Int))=true:=by simp;omega
   rw [this,if_pos h];rfl
 · have:decide ((64:Int)<(f.points.length:Int))=false:=by simp;omega
   rw [this,if_neg h];simp only [cond_false];generalize f.points=l at*;have key:=dA (body:=mU) (fun i=>(l,(l.length:Int),(i:Int),l)) l.length (fun i=> ¬hZ l[i]!) (r:=8) (e:=if iY l then 0 else 32) (by
    intro i hi;have e1:decide ((i:Int)<(l.length:Int))=true:=by simp;omega
    have hb:mU (l,(l.length:Int),(i:Int),l)=bif (if hZ l[i]! then (0:Int) else 8) !=0 then some (.done (if hZ l[i]! then (0:Int) else 8)) else some (.next (l,(l.length:Int),((i+1:Nat):Int),l)):=by
     unfold mU;simp only [e1,cond_true,aE l i (by omega),aD,BI,aX (show i<1000000000 by omega)]
    constructor
    · intro hc;rw [hb,if_neg hc];rfl
    · intro hc;rw [hb,if_pos (Classical.not_not.1 hc)];rfl) (by
    unfold mU
    have:decide ((l.length:Int)<(l.length:Int))=false:=by simp
    simp only [this,cond_false];exact SO l (by omega))
   by_cases hp: ∀p∈l,hZ p
   · rw [if_neg (Classical.not_not.2 hp)]
     refine (key.2 fun i hi=>?_).trans ?_
     · exact Classical.not_not.2 (hp _ (bF hi))
     · by_cases hs:iY l
       · simp [hs]
       · simp [hs]
   · rw [if_pos hp]
     refine key.1 ?_;obtain ⟨p,hp⟩:=Classical.not_forall.1 hp;obtain ⟨hm,h2⟩:=Classical.not_imp.1 hp;obtain ⟨i,hi,rfl⟩:=bD.1 hm;exact ⟨i,hi,h2⟩
theorem zD {l:List Pt} (h:iY l) {i j:Nat} (hij:i<j) (hj:j<l.length):(l[i]!).1<(l[j]!).1:=by
 induction j with
 |zero=>omega
 |succ j ih=>
  have h1:=h j hj
  by_cases he:i=j
  · subst he;exact h1
  · have:=ih (by omega) (by omega);omega
theorem sC {l:List Pt} (h:iY l) {i j:Nat} (hi:i<l.length) (hj:j<l.length) (he:(l[i]!).1=(l[j]!).1):i=j:=by
 rcases Nat.lt_trichotomy i j with h1|h1|h1
 · have:=zD h h1 hj;omega
 · exact h1
 · have:=zD h h1 hi;omega
theorem IX (l:List Pt) (id:Int) (hl:l.length<=1000000):(∀k,k<l.length->(l[k]!).1=id->(∀j,j<k->(l[j]!).1≠id)->jJ ⟨l⟩ id=some (k:Int))/\((∀k,k<l.length->(l[k]!).1≠id)->jJ ⟨l⟩ id=some (-1)):=by
 unfold jJ;refine nF (body:=tT) (fun i=>(id,(i:Int),l)) l.length (fun i=>(l[i]!).1=id) (fun i=>(i:Int)) (fun i hi=>?_) ?_
 · have e1:decide ((i:Int)<(l.length:Int))=true:=by simp;omega
   have hb:tT (id,(i:Int),l)=bif (l[i]!).1==id then some (.done (i:Int)) else some (.next (id,((i+1:Nat):Int),l)):=by
    unfold tT;simp only [aF,e1,cond_true,aE l i hi,aD,aX (show i<1000000000 by omega)]
   constructor
   · intro hc;rw [hb,gO hc];rfl
   · intro hc;rw [hb,fW hc];rfl
 · unfold tT
   have:decide ((l.length:Int)<(l.length:Int))=false:=by simp
   simp only [aF,this,cond_false]
theorem ZR {l:List Pt} (hs:iY l) (hl:l.length<=1000000) {k:Nat} (hk:k<l.length) {id:Int} (he:(l[k]!).1=id):jJ ⟨l⟩ id=some (k:Int):=by
 refine (IX l id hl).1 k hk he fun j hj hc=>?_
 have:=zD hs hj hk
 omega
theorem aH7 {l:List Pt} (hl:l.length<=1000000) {id:Int} (h: ∀k,k<l.length->(l[k]!).1≠id):jJ ⟨l⟩ id=some (-1):=(IX l id hl).2 h
theorem SP (f:Nat->Int) (id:Int): ∀(n:Nat),(∀i j,i<j->j<n->f i<f j)-> ∃m,m<=n/\(∀i,i<m->f i<id)/\(∀i,m<=i->i<n->id<=f i)
 |0,_=>⟨0,Nat.le_refl _,fun i h=>by omega,fun i _ h=>by omega⟩
 |n+1,h=>by
  obtain ⟨m,h1,h2,h3⟩:=SP f id n fun i j a b=>h i j a (by omega)
  by_cases hm:m=n
  · by_cases hf:f n<id
    · refine ⟨n+1,Nat.le_refl _,fun i hi=>?_,fun i a b=>by omega⟩
      by_cases he:i=n
      · subst he;exact hf
      · exact h2 i (by omega)
    · refine ⟨n,by omega,fun i hi=>h2 i (by omega),fun i a b=>?_⟩
      have:i=n:=by omega
      subst this;omega
  · refine ⟨m,by omega,h2,fun i a b=>?_⟩
    by_cases he:i=n
    · subst he
      have:=h m i (by omega) (by omega)
      have:=h3 m (Nat.le_refl _) (by omega)
      omega
    · exact h3 i a (by omega)
end Go.Proofs.YticklbjcnimggaaGreat
namespace Go.Proofs.YticklbjcnimggaaGreat
open Go.Vm Classical
theorem lQ {α:Type} [Inhabited α] {l:List α}:l.Nodup↔ ∀i j,i<j->j<l.length->l[i]!≠l[j]!:=by
 unfold List.Nodup;rw [List.pairwise_iff_getElem];constructor
 · intro h i j hij hj
   rw [getElem!_pos l i (by omega),getElem!_pos l j hj]
   exact h i j (by omega) hj hij
 · intro h i j hi hj hij
   have:=h i j hij hj
   rwa [getElem!_pos l i hi,getElem!_pos l j hj] at this
theorem cJ {α:Type} [Inhabited α] {l:List α} {k:Nat} {x:α}:x∈l.take k↔ ∃i,i<k/\i<l.length/\l[i]! =x:=by
 rw [bD];constructor
 · rintro ⟨i,hi,rfl⟩
   rw [List.length_take] at hi;exact ⟨i,by omega,by omega,(kS (by omega)).symm⟩
 · rintro ⟨i,h1,h2,rfl⟩
   exact ⟨i,by rw [List.length_take];omega,kS h1⟩
theorem iR {α:Type} [Inhabited α] {l:List α} {k:Nat} (h:k<l.length):l.take (k+1)=l.take k++[l[k]!]:=by
 rw [List.take_add_one,List.getElem?_eq_getElem h,getElem!_pos l k h];rfl
def fI (l:List Bool):List Int->List Bool
 | []=>l
 |x::r=>fI (bX l x true) r
theorem nW: ∀(r:List Int) (l:List Bool),(fI l r).length=l.length
 | [],_=>rfl
 |x::r,l=>by rw [fI,nW r,B0]
theorem E5: ∀(r:List Int) (l:List Bool) (x:Int),fI l (r++[x])=bX (fI l r) x true
 | [],_,_=>rfl
 |y::r,l,x=>by
  show fI (bX l y true) (r++[x])=_;rw [E5 r];rfl
theorem pU : ∀ (r : List Int) (l : List Bool) (i : Nat), (∀ x ∈ r, 0 <= x) -> i < l.length -> (fI l r)[i]! = (l[i]! || decide ((i : Int) ∈ r))
  | [], l, i, _, _ => by simp [fI]
  | x :: r, l, i, h, hi => by
    rw [fI, pU r _ i (fun y hy => h y (by simp [hy])) (by rw [B0]; exact hi)]
    obtain ⟨k, rfl⟩ := Int.eq_ofNat_of_zero_le (h x (by simp))
    rw [lZ, bB]
    by_cases e : i = k
    · subst e; rw [if_pos ⟨rfl, hi⟩]; simp
    · rw [if_neg (fun h => e h.1)]
      have : ((i : Int) ∈ (k : Int) :: r) ↔ (i : Int) ∈ r := by
        rw [List.mem_cons]
        constructor
        · rintro (h | h)
          · omega
          · exact h
        · exact .inr
      simp only [this]
theorem LY (l:List Bool) (h:l.length<=1000000):dY l false=some (decide (false∈l)):=by
 unfold dY qG;have key:=nF (body:=gM) (fun i=>(l,false,(l.length:Int),(i:Int))) l.length (fun i=>l[i]! =false) (fun i=>(i:Int)) (e:= -1) (fun i hi=>by
  have e1:decide ((i:Int)<(l.length:Int))=true:=by simp;omega
  have hb:gM (l,false,(l.length:Int),(i:Int))=bif false==l[i]! then some (.done (i:Int)) else some (.next (l,false,(l.length:Int),((i+1:Nat):Int))):=by
   unfold gM;simp only [e1,cond_true,aE l i hi,aD,aX (show i<1000000000 by omega)]
  constructor
  · intro hc;rw [hb,hc];rfl
  · intro hc
    have:l[i]! =true:=by simpa using hc
    rw [hb,this];rfl) (by
  unfold gM
  have:decide ((l.length:Int)<(l.length:Int))=false:=by simp
  simp only [this,cond_false])
 rw [aF]
 by_cases hx:false∈l
 · obtain ⟨i,hi,he⟩:=bD.1 hx
   obtain ⟨k,h1,h2,h3⟩:=GF (c:=fun i=>l[i]! =false) ⟨i,hi,he⟩
   have:=key.1 k h1 h2 h3
   rw [show ((0:Nat):Int)=0 from rfl] at this;rw [this];have e:decide ((0:Int)<=(k:Int))=true:=by simp
   simp [hx]
 · have:=key.2 fun i hi he=>hx (bD.2 ⟨i,hi,he⟩)
   rw [show ((0:Nat):Int)=0 from rfl] at this;rw [this];simp [hx]
structure eJ (s:aR):Prop where
 n1:1<=s.uses.length
 n2:s.uses.length<=200
 ul:s.used.length=s.uses.length
 fr: ∀x∈s.free,0<=x/\x<s.uses.length
 fd:s.free.Nodup
 uf: ∀i,i<s.uses.length->(s.used[i]! =true↔(i:Int)∉s.free)
 us: ∀i,i<s.uses.length->0<=s.uses[i]!/\s.uses[i]!<=1000000/\(s.used[i]! =true->1<=s.uses[i]!)
theorem VI (uses:List Int) (used:List Bool) (fr:List Int) (h1:uses.length<=200) (h2:used.length=uses.length):
 aH gI (uses,(uses.length:Int),0,uses,used,fr)=some (.done (if∀i,i<uses.length->0<=uses[i]!/\uses[i]!<=1000000/\(used[i]! =true->1<=uses[i]!) then 0 else 8)):=by
 have key:=dA (body:=gI) (fun i=>(uses,(uses.length:Int),(i:Int),uses,used,fr)) uses.length (fun i=> ¬(0<=uses[i]!/\uses[i]!<=1000000/\(used[i]! =true->1<=uses[i]!))) (r:= .done 8) (e:= .done 0) (fun i hi=>by
  have e1:decide ((i:Int)<(uses.length:Int))=true:=by simp;omega
  have hb:gI (uses,(uses.length:Int),(i:Int),uses,used,fr)=bif decide (uses[i]!<0) then some (.done (.done 8)) else bif decide (1000000<uses[i]!) then some (.done (.done 8)) else bif uses[i]! ==0 then (bif used[i]! then some (.done (.done 8)) else some (.next (uses,(uses.length:Int),((i+1:Nat):Int),uses,used,fr))) else some (.next (uses,(uses.length:Int),((i+1:Nat):Int),uses,used,fr)):=by
   unfold gI;simp only [e1,cond_true,aE uses i hi,aE used i (by omega),aD,aX (show i<1000000000 by omega)]
  rw [hb];generalize uses[i]! =u at*
  by_cases a1:u<0
  · simp [a1];omega
  · by_cases a2:1000000<u
    · simp [a1,a2];omega
    · by_cases a3:u=0
      · subst a3
        cases used[i]!<;>simp
      · have a4:1<=u:=by omega
        have a5:0<=u:=by omega
        have a6:u<=1000000:=by omega
        simp [a1,a2,fW a3,a4,a5,a6]) (by
  unfold gI
  have:decide ((uses.length:Int)<(uses.length:Int))=false:=by simp
  simp only [this,cond_false])
 by_cases hc: ∀i,i<uses.length->0<=uses[i]!/\uses[i]!<=1000000/\(used[i]! =true->1<=uses[i]!)
 · rw [if_pos hc]
   exact key.2 fun i hi=>Classical.not_not.2 (hc i hi)
 · rw [if_neg hc]
   simp only [Classical.not_forall] at hc;obtain ⟨i,hi,hx⟩:=hc;exact key.1 ⟨i,hi,by simpa only [Classical.not_forall] using hx⟩
theorem yE (s:aR) (hf:s.free.length<=1000000):rS s=some (if eJ s then 0 else 8):=by
 obtain ⟨uses,used,fr⟩:=s;dsimp only at hf;unfold rS;simp only [aF]
 by_cases a1:uses.length<1
 · have e:decide ((uses.length:Int)<1)=true:=by simp;omega
   rw [e,if_neg (fun h=>by have:=h.n1;dsimp only at this;omega)];rfl
 have e1:decide ((uses.length:Int)<1)=false:=by simp;omega
 by_cases a2:200<uses.length
 · have e:decide (200<(uses.length:Int))=true:=by simp;omega
   rw [e1,e,if_neg (fun h=>by have:=h.n2;dsimp only at this;omega)];rfl
 have e2:decide (200<(uses.length:Int))=false:=by simp;omega
 by_cases a3:used.length=uses.length
 case neg=>
  have e:((used.length:Int) !=(uses.length:Int))=true:=by simp;omega
  rw [e1,e2,e,if_neg (fun h=>a3 h.ul)];rfl
 have e3:((used.length:Int) !=(uses.length:Int))=false:=by simp;omega
 simp only [e1,e2,e3,cond_false,bC (show used.length<=1048576 by omega),aD]
 have inner:=VI uses used fr (by omega) a3
 have key:=dA (body:=sL used) (fun k=>(fr,(fr.length:Int),(k:Int),uses,used,fr,(uses.length:Int),fI used (fr.take k))) fr.length
  (fun k=>fr[k]!<0\/(uses.length:Int)<=fr[k]!\/(fI used (fr.take k))[(fr[k]!).toNat]! =true) (r:=8)
  (e:=if false∈fI used fr then 8 else if∀i,i<uses.length->0<=uses[i]!/\uses[i]!<=1000000/\(used[i]! =true->1<=uses[i]!) then 0 else 8) (fun k hk=>by
   have f1:decide ((k:Int)<(fr.length:Int))=true:=by simp;omega
   have f2:((fI used (fr.take k)).length==used.length)=true:=by rw [nW];simp
   have f3:decide ((0:Int)<=(k:Int))=true:=by simp
   have f4: ∀x:Int,((bX (fI used (fr.take k)) x true).length==(fI used (fr.take k)).length)=true:=by intro x;rw [B0];simp
   have f5:fI used (fr.take (k+1))=bX (fI used (fr.take k)) fr[k]! true:=by rw [iR hk,E5]
   unfold sL;simp only [f1,f2,f3,f4,cond_true,beq_self_eq_true,aE fr k hk,aD,aX (show k<1000000000 by omega),f5]
   clear f5;generalize fr[k]! =x
   by_cases b1:x<0
   · simp [b1]
   · by_cases b2:(uses.length:Int)<=x
     · simp [b1,b2]
     · simp only [b1,b2,decide_false,cond_false,false_or]
       rw [dI (l:=fI used (fr.take k)) (i:=x) (by omega) (by rw [nW];omega)]
       simp only [aD];cases (fI used (fr.take k))[x.toNat]!<;>simp) (by
   have f1:decide ((fr.length:Int)<(fr.length:Int))=false:=by simp
   unfold sL;simp only [f1,cond_false,List.take_length];rw [LY _ (by rw [nW];omega)]
   have f2:((fI used fr).length==used.length)=true:=by rw [nW];simp
   simp only [f2,cond_true,aD,aF,inner]
   by_cases hx:false∈fI used fr
   · simp [hx]
   · simp [hx])
 have h0:fI used (fr.take 0)=used:=rfl;rw [show ((0:Nat):Int)=0 from rfl,h0] at key
 by_cases bad: ∃k,k<fr.length/\(fr[k]!<0\/(uses.length:Int)<=fr[k]!\/(fI used (fr.take k))[(fr[k]!).toNat]! =true)
 · rw [key.1 bad,if_neg]
   intro ok;obtain ⟨k,hk,hb⟩:=bad;have hr:=ok.fr fr[k]! (bF hk);dsimp only at hr;rcases hb with hb|hb|hb
   · omega
   · omega
   · rw [pU _ _ _ (fun x hx=>(ok.fr x (List.mem_of_mem_take hx)).1) (by omega)] at hb
     have hi:((fr[k]!).toNat:Int)=fr[k]!:=by omega
     rw [hi,Bool.or_eq_true] at hb;rcases hb with hb|hb
     · have:=(ok.uf (fr[k]!).toNat (by show _<uses.length;omega)).1 hb
       rw [hi] at this;exact this (bF hk)
     · have hm:fr[k]!∈fr.take k:=by simpa using hb
       obtain ⟨j,h1,h2,h3⟩:=cJ.1 hm;exact lQ.1 ok.fd j k h1 hk h3
 · have good: ∀k,k<fr.length->0<=fr[k]!/\fr[k]!<uses.length/\(fI used (fr.take k))[(fr[k]!).toNat]! =false:=by
    intro k hk;refine ⟨?_,?_,?_⟩
    · exact Int.not_lt.1 fun h=>bad ⟨k,hk,.inl h⟩
    · exact Int.not_le.1 fun h=>bad ⟨k,hk,.inr (.inl h)⟩
    · exact Bool.not_eq_true _▸fun h=>bad ⟨k,hk,.inr (.inr h)⟩
   rw [key.2 fun k hk hb=>bad ⟨k,hk,hb⟩]
   have rng: ∀x∈fr,0<=x/\x<(uses.length:Int):=by
    intro x hx;obtain ⟨k,hk,rfl⟩:=bD.1 hx;exact ⟨(good k hk).1,(good k hk).2.1⟩
   have g2: ∀k,k<fr.length->used[(fr[k]!).toNat]! =false/\fr[k]!∉fr.take k:=by
    intro k hk;obtain ⟨c1,c2,c3⟩:=good k hk;rw [pU _ _ _ (fun x hx=>(rng x (List.mem_of_mem_take hx)).1) (by omega),show ((fr[k]!).toNat:Int)=fr[k]! by omega,Bool.or_eq_false_iff] at c3
    exact ⟨c3.1,by simpa using c3.2⟩
   have nd:fr.Nodup:=lQ.2 fun i j hij hj he=>(g2 j hj).2 (cJ.2 ⟨i,hij,by omega,he⟩)
   by_cases hx:false∈fI used fr
   · rw [if_pos hx,if_neg]
     intro ok;obtain ⟨i,hi,he⟩:=bD.1 hx;rw [nW] at hi;rw [pU _ _ _ (fun x hx=>(rng x hx).1) hi,Bool.or_eq_false_iff] at he
     have h3:(i:Int)∉fr:=by simpa using he.2
     have:=(ok.uf i (by show _<uses.length;omega)).2 h3
     rw [show used[i]! =false from he.1] at this;cases this
   · rw [if_neg hx]
     by_cases hu: ∀i,i<uses.length->0<=uses[i]!/\uses[i]!<=1000000/\(used[i]! =true->1<=uses[i]!)
     · rw [if_pos hu,if_pos]
       refine ⟨by show 1<=uses.length;omega,by show uses.length<=200;omega,a3,rng,nd,fun i hi=>?_,hu⟩
       dsimp only at hi ⊢;constructor
       · intro h1 h2
         obtain ⟨k,hk,he⟩:=bD.1 h2
         have:=(g2 k hk).1
         rw [he,show ((i:Int)).toNat=i by omega,h1] at this
         cases this
       · intro h1
         refine Classical.byContradiction fun h2=>hx ?_
         refine bD.2 ⟨i,by rw [nW];omega,?_⟩
         rw [pU _ _ _ (fun x hx=>(rng x hx).1) (by omega)]
         have:used[i]! =false:=by simpa using h2
         rw [this];simpa using h1
     · rw [if_neg hu,if_neg]
       intro ok;exact hu ok.us
end Go.Proofs.YticklbjcnimggaaGreat
namespace Go.Proofs.YticklbjcnimggaaGreat
open Go.Vm Classical
theorem eJ.fl {s:aR} (ok:eJ s):s.free.length<=s.uses.length:=by
 have h:=VH s.uses.length (s.free.map Int.toNat) (by
  rw [lQ];intro i j hij hj he;rw [List.length_map] at hj;have e: ∀k,k<s.free.length->(s.free.map Int.toNat)[k]! =(s.free[k]!).toNat:=by
   intro k hk;rw [getElem!_pos _ k (by simpa using hk),List.getElem_map,getElem!_pos s.free k hk]
  rw [e i (by omega),e j hj] at he
  have h1:=(ok.fr _ (bF (show i<s.free.length by omega))).1
  have h2:=(ok.fr _ (bF hj)).1;exact lQ.1 ok.fd i j hij hj (by omega)) (by
  intro x hx;obtain ⟨y,hy,rfl⟩:=List.mem_map.1 hx
  have:=ok.fr y hy
  omega)
 rwa [List.length_map] at h
def xN (s:aR) (h:Int×Int):Prop:=0<=h.1/\h.1<s.uses.length/\s.used[h.1.toNat]! =true/\s.uses[h.1.toNat]! =h.2
def fN (s:aR) (h:Int×Int):aR:=⟨s.uses,s.used.set h.1.toNat false,s.free++[h.1]⟩
def cU (s:aR):Nat:=(s.free[s.free.length-1]!).toNat
def BJ (s:aR):Prop:=0<s.free.length/\s.uses[cU s]!<1000000
def gR (s:aR):aR:=⟨s.uses.set (cU s) (s.uses[cU s]!+1),s.used.set (cU s) true,s.free.take (s.free.length-1)⟩
def lR (s:aR):Int×Int:=((cU s:Int),s.uses[cU s]!+1)
theorem IY {s:aR} (ok:eJ s) (h:Int×Int):CI s h=some (decide (xN s h),0):=by
 have hl:=ok.fl;have hn:=ok.n2;have hu:=ok.ul;unfold CI xN;rw [yE s (by omega),if_pos ok]
 simp only [aD,show ((0:Int) !=0)=false from rfl,cond_false,aF]
 by_cases a1:0<=h.1
 · by_cases a2:h.1<s.uses.length
   · have e2:decide (h.1<(s.used.length:Int))=true:=by simp;omega
     simp only [a1,a2,e2,decide_true,cond_true,dI (l:=s.used) a1 (by omega),dI (l:=s.uses) a1 a2,aD,true_and]
     generalize s.uses[h.1.toNat]! =u;cases s.used[h.1.toNat]!<;>simp [X3]
   · have e2:decide (h.1<(s.used.length:Int))=false:=by simp;omega
     simp [a1,a2,e2]
 · simp [a1]
theorem PW {s:aR} (ok:eJ s) {h:Int×Int} (lv:xN s h):DA s h=some (fN s h,0):=by
 have hl:=ok.fl;have hn:=ok.n2;have hu:=ok.ul;unfold DA;rw [IY ok,decide_eq_true lv];unfold uE;obtain ⟨l1,l2,l3,l4⟩:=lv;have e1:bX s.used h.1 false=s.used.set h.1.toNat false:=rfl
 simp only [aD,show ((0:Int) !=0)=false from rfl,cond_false,Bool.not_true,bC (show s.uses.length<=1048576 by omega),bC (show s.used.length<=1048576 by omega),bC (show s.free.length<=1048576 by omega),
  dL (show s.free.length+[h.1].length<=1048576 by simp;omega),dI (l:=s.used) l1 (by omega),e1,fN]
theorem yF {s:aR} (ok:eJ s):pB s=some s:=by
 have hl:=ok.fl;have hn:=ok.n2;have hu:=ok.ul;unfold pB;simp only [aD,bC (show s.uses.length<=1048576 by omega),bC (show s.used.length<=1048576 by omega),bC (show s.free.length<=1048576 by omega)]
theorem LZ {s:aR} (ok:eJ s) {h:Int×Int} (lv:xN s h):pR s h=some (fN s h):=by
 have hl:=ok.fl;have hn:=ok.n2;have hu:=ok.ul;obtain ⟨l1,l2,l3,l4⟩:=lv;unfold pR;rw [yF ok];have e1:bX s.used h.1 false=s.used.set h.1.toNat false:=rfl;simp only [aD,dL (show s.free.length+[h.1].length<=1048576 by simp;omega),dI (l:=s.used) l1 (by omega),e1,fN]
theorem aBO {s:aR} (ok:eJ s) {h:Int×Int} (lv:xN s h):eJ (fN s h):=by
 have hl:=ok.fl;have hn:=ok.n2;have hu:=ok.ul;obtain ⟨l1,l2,l3,l4⟩:=lv;have nf:h.1∉s.free:=by
  have:=(ok.uf h.1.toNat (by omega)).1 l3
  rwa [show (h.1.toNat:Int)=h.1 by omega] at this
 refine ⟨ok.n1,ok.n2,?_,?_,?_,?_,?_⟩
 · show (s.used.set _ _).length=_;rw [List.length_set];exact hu
 · intro x hx
   rcases List.mem_append.1 hx with hx|hx
   · exact ok.fr x hx
   · rw [List.mem_singleton] at hx;subst hx;exact ⟨l1,l2⟩
 · show (s.free++[h.1]).Nodup
   rw [List.nodup_append];refine ⟨ok.fd,by simp,?_⟩
   intro x hx y hy he;rw [List.mem_singleton] at hy;subst hy;subst he;exact nf hx
 · intro i hi
   change i<s.uses.length at hi;show (s.used.set h.1.toNat false)[i]! =true↔(i:Int)∉s.free++[h.1];rw [bB,List.mem_append,List.mem_singleton]
   by_cases e:i=h.1.toNat
   · rw [if_pos ⟨e,by omega⟩]
     have:(i:Int)=h.1:=by omega
     simp [this]
   · rw [if_neg (fun k=>e k.1),ok.uf i hi]
     have: ¬(i:Int)=h.1:=by omega
     simp [this]
 · intro i hi
   change i<s.uses.length at hi;obtain ⟨u1,u2,u3⟩:=ok.us i hi;refine ⟨u1,u2,?_⟩;show (s.used.set h.1.toNat false)[i]! =true->_;rw [bB];split
   · intro h;cases h
   · exact u3
theorem DJ {s:aR} (ok:eJ s) (h:0<s.free.length):cU s<s.uses.length/\(cU s:Int)=s.free[s.free.length-1]!/\(cU s:Int)∈s.free:=by
 have hm:=bF (l:=s.free) (i:=s.free.length-1) (by omega)
 have:=ok.fr _ hm
 have e:(cU s:Int)=s.free[s.free.length-1]!:=by unfold cU;omega
 refine ⟨by omega,e,by rw [e];exact hm⟩
theorem nX {α:Type} (l:List α) (n:Nat) (h:n<=l.length):iI l 0 (n:Int)=some (l.take n):=by
 unfold iI;rw [if_pos ⟨by omega,by omega,by omega⟩]
 simp
theorem GJ {s:aR} (ok:eJ s):DB s=some (if BJ s then (gR s,lR s,0) else (⟨[],[],[]⟩,(0,0),18)):=by
 have hl:=ok.fl;have hn:=ok.n2;have hu:=ok.ul;unfold DB BJ;rw [yE s (by omega),if_pos ok]
 simp only [aD,show ((0:Int) !=0)=false from rfl,cond_false,aF]
 by_cases a1:0<s.free.length
 · obtain ⟨n1,n2,n3⟩:=DJ ok a1
   have e1:((s.free.length:Int)==0)=false:=fW (by omega)
   have e2:aA .i64 ((s.free.length:Int) -1)=((s.free.length-1:Nat):Int):=A0 (by omega) (by omega)
   unfold vU;simp only [e1,cond_false,aF,e2,nX s.free (s.free.length-1) (by omega),aD,bC (show (s.free.take (s.free.length-1)).length<=1048576 by rw [List.length_take];omega),
    aE s.free (s.free.length-1) (by omega),<- n2,aE s.uses (cU s) n1]
   obtain ⟨u1,u2,u3⟩:=ok.us (cU s) n1
   by_cases a2:s.uses[cU s]! =1000000
   · have e3:(s.uses[cU s]! ==1000000)=true:=by simpa using a2
     rw [e3,if_neg (by omega)];rfl
   · have e3:(s.uses[cU s]! ==1000000)=false:=by simpa using a2
     have e4:aA .i64 (s.uses[cU s]!+1)=s.uses[cU s]!+1:=by rw [wi];omega
     rw [e3,if_pos (by omega)]
     simp only [cond_false,bC (show s.uses.length<=1048576 by omega),bC (show s.used.length<=1048576 by omega),aD,aE s.used (cU s) (by omega),aE s.uses (cU s) n1,e4,lZ,
      aE (s.uses.set (cU s) (s.uses[cU s]!+1)) (cU s) (by rw [List.length_set];exact n1),bB,n1,and_self,if_true,gR,lR]
 · have e1:((s.free.length:Int)==0)=true:=gO (by omega)
   rw [e1,if_neg (fun h=>a1 h.1)];rfl
theorem sY {s:aR} (ok:eJ s):gG s=some (decide (BJ s)):=by
 have hl:=ok.fl;have hn:=ok.n2;have hu:=ok.ul;unfold gG BJ;simp only [aF]
 by_cases a1:0<s.free.length
 · obtain ⟨n1,n2,n3⟩:=DJ ok a1
   have e1:decide ((0:Int)<(s.free.length:Int))=true:=by simp;omega
   have e2:aA .i64 ((s.free.length:Int) -1)=((s.free.length-1:Nat):Int):=A0 (by omega) (by omega)
   simp only [e1,e2,cond_true,aE s.free (s.free.length-1) (by omega),aD,<- n2,aE s.uses (cU s) n1,a1,true_and]
 · have e1:decide ((0:Int)<(s.free.length:Int))=false:=decide_eq_false (by omega)
   rw [e1];simp [a1]
theorem L0 {s:aR} (ok:eJ s) (h:BJ s):xG s=some (gR s,lR s):=by
 have hl:=ok.fl;have hn:=ok.n2;have hu:=ok.ul;obtain ⟨a1,a2⟩:=h;obtain ⟨n1,n2,n3⟩:=DJ ok a1;obtain ⟨u1,u2,u3⟩:=ok.us (cU s) n1;unfold xG;rw [yF ok];have e2:aA .i64 ((s.free.length:Int) -1)=((s.free.length-1:Nat):Int):=A0 (by omega) (by omega)
 have e4:aA .i64 (s.uses[cU s]!+1)=s.uses[cU s]!+1:=by rw [wi];omega
 simp only [aD,aF,e2,aE s.free (s.free.length-1) (by omega),nX s.free (s.free.length-1) (by omega),<- n2,aE s.uses (cU s) n1,aE s.used (cU s) (by omega),e4,lZ,
  aE (s.uses.set (cU s) (s.uses[cU s]!+1)) (cU s) (by rw [List.length_set];exact n1),bB,n1,and_self,if_true,gR,lR,Int.toNat_natCast]
theorem aBP {s:aR} (ok:eJ s) (h:BJ s):eJ (gR s):=by
 have hl:=ok.fl;have hn:=ok.n2;have hu:=ok.ul;obtain ⟨a1,a2⟩:=h;obtain ⟨n1,n2,n3⟩:=DJ ok a1;have mt: ∀x:Int,x∈s.free.take (s.free.length-1)↔(x∈s.free/\x≠(cU s:Int)):=by
  intro x;rw [cJ];constructor
  · rintro ⟨i,h1,h2,rfl⟩
    refine ⟨bF h2,?_⟩;rw [n2];exact lQ.1 ok.fd i (s.free.length-1) h1 (by omega)
  · rintro ⟨h1,h2⟩
    obtain ⟨i,hi,rfl⟩:=bD.1 h1;refine ⟨i,?_,hi,rfl⟩;refine Classical.byContradiction fun hc=>h2 ?_
    rw [n2,show i=s.free.length-1 by omega]
 refine ⟨?_,?_,?_,?_,?_,?_,?_⟩
 · show 1<=(s.uses.set _ _).length;rw [List.length_set];exact ok.n1
 · show (s.uses.set _ _).length<=200;rw [List.length_set];exact ok.n2
 · show (s.used.set _ _).length=(s.uses.set _ _).length;rw [List.length_set,List.length_set];exact hu
 · intro x hx
   show 0<=x/\x<((s.uses.set _ _).length:Int);rw [List.length_set];exact ok.fr x ((mt x).1 hx).1
 · exact ok.fd.sublist (List.take_sublist _ _)
 · intro i hi
   change i<(s.uses.set _ _).length at hi;rw [List.length_set] at hi;show (s.used.set (cU s) true)[i]! =true↔(i:Int)∉s.free.take (s.free.length-1);rw [bB,mt]
   by_cases e:i=cU s
   · rw [if_pos ⟨e,by omega⟩]
     simp [e]
   · rw [if_neg (fun k=>e k.1),ok.uf i hi]
     have:(i:Int)≠(cU s:Int):=by omega
     simp [this]
 · intro i hi
   change i<(s.uses.set _ _).length at hi;rw [List.length_set] at hi;obtain ⟨u1,u2,u3⟩:=ok.us i hi;show 0<=(s.uses.set (cU s) (s.uses[cU s]!+1))[i]!/\(s.uses.set (cU s) (s.uses[cU s]!+1))[i]!<=1000000/\((s.used.set (cU s) true)[i]! =true->1<=(s.uses.set (cU s) (s.uses[cU s]!+1))[i]!);rw [bB,bB]
   by_cases e:i=cU s
   · subst e
     rw [if_pos ⟨rfl,n1⟩];refine ⟨by omega,by omega,fun _=>by omega⟩
   · rw [if_neg (fun k=>e k.1),if_neg (fun k=>e k.1)]
     exact ⟨u1,u2,u3⟩
end Go.Proofs.YticklbjcnimggaaGreat
namespace Go.Proofs.YticklbjcnimggaaGreat
open Go.Vm Classical
abbrev Ev:=Int×Int×Int×Int×Int
abbrev Ev.at (x:Ev):Int×Int:=(x.1,x.2.1)
abbrev Ev.num (x:Ev):Int:=x.2.2.1
abbrev Ev.ix (x:Ev):Int:=x.2.2.2.1
abbrev Ev.n (x:Ev):Nat:=x.2.2.2.1.toNat
theorem aQZ {x:Ev} {k:Nat} (h:x.ix<(k:Int)) (h0:0<=x.ix):x.n<k:=by
 show x.ix.toNat<k;omega
theorem aQ0 {x y:Ev} (h0:0<=x.ix) (h1:0<=y.ix) (h:x.ix≠y.ix):x.n≠y.n:=by
 show x.ix.toNat≠y.ix.toNat
 omega
def dK (x y:Ev):Prop:=E4 (x.1,x.2.1) (y.1,y.2.1)<0\/(E4 (x.1,x.2.1) (y.1,y.2.1)=0/\x.2.2.1<y.2.2.1)
theorem X4 {a b:Int×Int}:E4 a b<0↔a.1*b.2<b.1*a.2:=by
 unfold E4;rcases fY (a.1*b.2) (b.1*a.2) with ⟨h,e⟩|⟨h,e⟩|⟨h,e⟩<;>rw [e]<;>constructor<;>intro<;>omega
theorem X5 {a b:Int×Int}:E4 a b=0↔a.1*b.2=b.1*a.2:=by
 unfold E4;rcases fY (a.1*b.2) (b.1*a.2) with ⟨h,e⟩|⟨h,e⟩|⟨h,e⟩<;>rw [e]<;>constructor<;>intro<;>omega
theorem sD {x y:Ev} (h:dK x y): ¬dK y x:=by
 unfold dK at*;rw [X4,X5] at*;dsimp only at*;rintro (k|k)<;>rcases h with h|h<;>omega
theorem VJ {a1 a2 b1 b2 c1 c2:Int} (ha:1<=a2) (hb:1<=b2) (hc:1<=c2) (h1:a1*b2<=b1*a2) (h2:b1*c2<=c1*b2):a1*c2<=c1*a2:=by
 have e1:a1*b2*c2<=b1*a2*c2:=Int.mul_le_mul_of_nonneg_right h1 (by omega)
 have e2:b1*c2*a2<=c1*b2*a2:=Int.mul_le_mul_of_nonneg_right h2 (by omega)
 have e3:(a1*c2)*b2<=(c1*a2)*b2:=by
  have r1:(a1*c2)*b2=a1*b2*c2:=by grind
  have r2:b1*a2*c2=b1*c2*a2:=by grind
  have r3:c1*b2*a2=(c1*a2)*b2:=by grind
  omega
 exact Int.le_of_mul_le_mul_right e3 (by omega)
theorem MZ {a1 a2 b1 b2 c1 c2:Int} (ha:1<=a2) (hb:1<=b2) (hc:1<=c2) (h1:a1*b2<b1*a2) (h2:b1*c2<=c1*b2):a1*c2<c1*a2:=by
 have e1:a1*b2*c2<b1*a2*c2:=Int.mul_lt_mul_of_pos_right h1 (by omega)
 have e2:b1*c2*a2<=c1*b2*a2:=Int.mul_le_mul_of_nonneg_right h2 (by omega)
 have e3:(a1*c2)*b2<(c1*a2)*b2:=by
  have r1:(a1*c2)*b2=a1*b2*c2:=by grind
  have r2:b1*a2*c2=b1*c2*a2:=by grind
  have r3:c1*b2*a2=(c1*a2)*b2:=by grind
  omega
 exact Int.lt_of_mul_lt_mul_right e3 (by omega)
theorem L1 {a1 a2 b1 b2 c1 c2:Int} (ha:1<=a2) (hb:1<=b2) (hc:1<=c2) (h1:a1*b2<=b1*a2) (h2:b1*c2<c1*b2):a1*c2<c1*a2:=by
 have e1:a1*b2*c2<=b1*a2*c2:=Int.mul_le_mul_of_nonneg_right h1 (by omega)
 have e2:b1*c2*a2<c1*b2*a2:=Int.mul_lt_mul_of_pos_right h2 (by omega)
 have e3:(a1*c2)*b2<(c1*a2)*b2:=by
  have r1:(a1*c2)*b2=a1*b2*c2:=by grind
  have r2:b1*a2*c2=b1*c2*a2:=by grind
  have r3:c1*b2*a2=(c1*a2)*b2:=by grind
  omega
 exact Int.lt_of_mul_lt_mul_right e3 (by omega)
theorem DK {x y z:Ev} (hx:1<=x.2.1) (hy:1<=y.2.1) (hz:1<=z.2.1) (h1: ¬dK y x) (h2: ¬dK z y): ¬dK z x:=by
 unfold dK at*;rw [X4,X5] at*;dsimp only at*;have t1:= @VJ x.1 x.2.1 y.1 y.2.1 z.1 z.2.1 hx hy hz;have t2:= @MZ x.1 x.2.1 y.1 y.2.1 z.1 z.2.1 hx hy hz;have t3:= @L1 x.1 x.2.1 y.1 y.2.1 z.1 z.2.1 hx hy hz;generalize x.1*y.2.1=p at*;generalize y.1*x.2.1=q at*;generalize y.1*z.2.1=r at*;generalize z.1*y.2.1=s at*;generalize x.1*z.2.1=u at*
 generalize z.1*x.2.1=v at*;have a1:p<=q:=by omega
 have a2:r<=s:=by omega
 have a3:=t1 a1 a2;rintro (k|k)
 · omega
 · by_cases b1:p<q
   · have:=t2 b1 a2;omega
   · by_cases b2:r<s
     · have:=t3 a1 b2;omega
     · omega
structure E6 (n:Nat) (x:Ev) (M:Ev->Prop) (H:List Ev) (W:List Int) (i:Nat):Prop where
 lt:i<n
 hn:n<=H.length
 ix: ∀w,w<n->w≠i->0<=(H[w]!).ix/\(H[w]!).ix<W.length/\W[(H[w]!).n]! =(w:Int)/\(H[w]!).ix≠x.ix
 x0:0<=x.ix
 x1:x.ix<W.length
 mem: ∀e,(∃w,w<n/\w≠i/\H[w]! =e)↔M e
theorem E6.move {n:Nat} {x:Ev} {M:Ev->Prop} {H:List Ev} {W:List Int} {i j:Nat} (h:E6 n x M H W i) (hj:j<n) (hij:j≠i):E6 n x M (H.set i H[j]!) (W.set (H[j]!).n (i:Int)) j:=by
 have hn:=h.hn;have hi:=h.lt;obtain ⟨j1,j2,j3,j4⟩:=h.ix j hj hij;have cell: ∀w,(H.set i H[j]!)[w]! =if w=i then H[j]! else H[w]!:=by
  intro w;rw [bB]
  by_cases e:w=i
  · rw [if_pos ⟨e,by omega⟩,if_pos e]
  · rw [if_neg (fun k=>e k.1),if_neg e]
 refine ⟨hj,by rw [List.length_set];exact hn,?_,h.x0,by rw [List.length_set];exact h.x1,?_⟩
 · intro w hw hwj
   rw [cell,List.length_set]
   by_cases e:w=i
   · rw [if_pos e,bB,if_pos ⟨rfl,aQZ j2 j1⟩]
     exact ⟨j1,j2,by rw [e],j4⟩
   · rw [if_neg e,bB]
     obtain ⟨k1,k2,k3,k4⟩:=h.ix w hw e;refine ⟨k1,k2,?_,k4⟩;rw [if_neg,k3];rintro ⟨c,_⟩;rw [c,j3] at k3;omega
 · intro e
   rw [<- h.mem e];constructor
   · rintro ⟨w,hw,hwj,he⟩
     rw [cell] at he
     by_cases c:w=i
     · rw [if_pos c] at he;exact ⟨j,hj,hij,he⟩
     · rw [if_neg c] at he;exact ⟨w,hw,c,he⟩
   · rintro ⟨w,hw,hwi,he⟩
     by_cases c:w=j
     · refine ⟨i,hi,fun h=>hij h.symm,?_⟩
       rw [cell,if_pos rfl,<- c];exact he
     · exact ⟨w,hw,c,by rw [cell,if_neg hwi];exact he⟩
theorem E6.fill {n:Nat} {x:Ev} {M:Ev->Prop} {H:List Ev} {W:List Int} {i:Nat} (h:E6 n x M H W i):
 (∀w,w<n->0<=((H.set i x)[w]!).ix/\((H.set i x)[w]!).ix<W.length/\(W.set x.n (i:Int))[((H.set i x)[w]!).n]! =(w:Int))/\
  (∀e,(∃w,w<n/\(H.set i x)[w]! =e)↔(e=x\/M e)):=by
 have hn:=h.hn;have hi:=h.lt;have x0:=h.x0;have x1:=h.x1;have cell: ∀w,(H.set i x)[w]! =if w=i then x else H[w]!:=by
  intro w;rw [bB]
  by_cases e:w=i
  · rw [if_pos ⟨e,by omega⟩,if_pos e]
  · rw [if_neg (fun k=>e k.1),if_neg e]
 constructor
 · intro w hw
   rw [cell]
   by_cases e:w=i
   · rw [if_pos e,bB,if_pos ⟨rfl,aQZ x1 x0⟩]
     exact ⟨x0,x1,by rw [e]⟩
   · rw [if_neg e,bB]
     obtain ⟨k1,k2,k3,k4⟩:=h.ix w hw e;exact ⟨k1,k2,by rw [if_neg (fun c=>aQ0 k1 x0 k4 c.1),k3]⟩
 · intro e
   rw [<- h.mem e];constructor
   · rintro ⟨w,hw,he⟩
     rw [cell] at he
     by_cases c:w=i
     · rw [if_pos c] at he;exact .inl he.symm
     · rw [if_neg c] at he;exact .inr ⟨w,hw,c,he⟩
   · rintro (he|⟨w,hw,hwi,he⟩)
     · exact ⟨i,hi,by rw [cell,if_pos rfl,he]⟩
     · exact ⟨w,hw,by rw [cell,if_neg hwi];exact he⟩
noncomputable def iS (x:Ev):Nat->List Ev->List Int->Nat×List Ev×List Int
 |0,H,W=>(0,H,W)
 |i+1,H,W=>if dK x H[i / 2]! then iS x (i / 2) (H.set (i+1) H[i / 2]!) (W.set (H[i / 2]!).n ((i+1:Nat):Int)) else (i+1,H,W)
termination_by i=>i
decreasing_by omega
noncomputable def hM (n:Nat) (H:List Ev) (i:Nat):Nat:=if 2*i+2<n/\dK H[2*i+2]! H[2*i+1]! then 2*i+2 else 2*i+1
theorem pV (n:Nat) (H:List Ev) (i:Nat):hM n H i=2*i+1\/(hM n H i=2*i+2/\2*i+2<n):=by
 unfold hM;split
 · rename_i h;exact .inr ⟨rfl,h.1⟩
 · exact .inl rfl
noncomputable def dP (n:Nat) (x:Ev) (i:Nat) (H:List Ev) (W:List Int):Nat×List Ev×List Int:=
 if _h:2*i+1<n then
  if dK H[hM n H i]! x then dP n x (hM n H i) (H.set i H[hM n H i]!) (W.set (H[hM n H i]!).n (i:Int)) else (i,H,W)
 else (i,H,W)
termination_by n-i
decreasing_by
 rcases pV n H i with h|h<;>omega
structure E9 (n:Nat) (H:List Ev) (i:Nat):Prop where
 den: ∀w,w<n->1<=(H[w]!).2.1
 ord: ∀k,0<k->k<n->k≠i->(k-1) / 2≠i-> ¬dK H[k]! H[(k-1) / 2]!
 grand:0<i-> ∀k,0<k->k<n->(k-1) / 2=i-> ¬dK H[k]! H[(i-1) / 2]!
theorem JT {n : Nat} {x : Ev} {M : Ev -> Prop} (dx : 1 <= x.2.1) : ∀ (i : Nat) (H : List Ev) (W : List Int), E6 n x M H W i -> E9 n H i ->
    ∃ j H1 W1, iS x i H W = (j, H1, W1) /\ E6 n x M H1 W1 j /\ E9 n H1 j /\ H1.length = H.length /\ W1.length = W.length /\ (0 < j -> ¬ dK x H1[(j - 1) / 2]!) /\
      (∀ k, n <= k -> H1[k]! = H[k]!) /\ (∀ k, (∀ w, w < n -> w ≠ i -> (H[w]!).n ≠ k) -> W1[k]! = W[k]!) /\
      ((∀ k, 0 < k -> k < n -> (k - 1) / 2 = i -> ¬ dK H[k]! x) -> ∀ k, 0 < k -> k < n -> (k - 1) / 2 = j -> ¬ dK H1[k]! x)
  | 0, H, W, h, o => ⟨0, H, W, by rw [iS], h, o, rfl, rfl, fun h => by omega, fun _ _ => rfl, fun _ _ => rfl, fun h => h⟩
  | i + 1, H, W, h, o => by
    rw [iS]
    by_cases hl : dK x H[i / 2]!
    · rw [if_pos hl]
      have hi := h.lt
      have hn := h.hn
      have hp : i / 2 < n := by omega
      have hne : i / 2 ≠ i + 1 := by omega
      have hm := h.move hp hne
      have cell : ∀ w, (H.set (i + 1) H[i / 2]!)[w]! = if w = i + 1 then H[i / 2]! else H[w]! := by
        intro w
        rw [bB]
        by_cases e : w = i + 1
        · rw [if_pos ⟨e, by omega⟩, if_pos e]
        · rw [if_neg (fun k => e k.1), if_neg e]
      have o' : E9 n (H.set (i + 1) H[i / 2]!) (i / 2) := by
        refine ⟨?_, ?_, ?_⟩
        · intro w hw
          rw [cell]
          split
          · exact o.den _ hp
          · exact o.den _ hw
        · intro k k0 kn k1 k2
          rw [cell, cell]
          by_cases e : k = i + 1
          · subst e; exact absurd (by omega) k2
          · rw [if_neg e]
            by_cases e2 : (k - 1) / 2 = i + 1
            · rw [if_pos e2]
              have := o.grand (by omega) k k0 kn e2
              rwa [show (i + 1 - 1) / 2 = i / 2 by omega] at this
            · rw [if_neg e2]
              exact o.ord k k0 kn e e2
        · intro p0 k k0 kn k1
          rw [cell, cell, if_neg (show (i / 2 - 1) / 2 ≠ i + 1 by omega)]
          have up1 : ¬ dK H[i / 2]! H[(i / 2 - 1) / 2]! := o.ord (i / 2) p0 hp hne (by omega)
          by_cases e : k = i + 1
          · rw [if_pos e]; exact up1
          · rw [if_neg e]
            have up2 : ¬ dK H[k]! H[i / 2]! := by
              have := o.ord k k0 kn e (by omega)
              rwa [k1] at this
            exact DK (o.den _ (by omega)) (o.den _ hp) (o.den _ kn) up1 up2
      obtain ⟨j, H1, W1, e1, e3, e4, e5, e6, e7, e8, e9, e10⟩ := JT dx (i / 2) _ _ hm o'
      rw [List.length_set] at e5 e6
      refine ⟨j, H1, W1, e1, e3, e4, e5, e6, e7, ?_, ?_, ?_⟩
      · intro k hk
        rw [e8 k hk, cell, if_neg (by omega)]
      · intro k hk
        rw [e9 k ?_, bB, if_neg (fun c => hk (i / 2) hp hne c.1.symm)]
        intro w hw hwp
        rw [cell]
        split
        · exact hk (i / 2) hp hne
        · rename_i e; exact hk w hw e
      · intro _
        refine e10 fun k k0 kn k1 => ?_
        rw [cell]
        by_cases e : k = i + 1
        · rw [if_pos e]; exact sD hl
        · rw [if_neg e]
          have up2 : ¬ dK H[k]! H[i / 2]! := by
            have := o.ord k k0 kn e (by omega)
            rwa [k1] at this
          exact DK dx (o.den _ hp) (o.den _ kn) (sD hl) up2
    · rw [if_neg hl]
      refine ⟨i + 1, H, W, rfl, h, o, rfl, rfl, fun _ => ?_, fun _ _ => rfl, fun _ _ => rfl, fun h => h⟩
      rwa [show (i + 1 - 1) / 2 = i / 2 by omega]
termination_by i=>i
decreasing_by omega
theorem ZS {n:Nat} {x:Ev} {i:Nat} {H:List Ev} {W:List Int} (h: ∀k,0<k->k<n->(k-1) / 2=i-> ¬dK H[k]! x):dP n x i H W=(i,H,W):=by
 rw [dP];split
 · rename_i hk
   rw [if_neg];rcases pV n H i with e|⟨e,e2⟩
   · rw [e];exact h _ (by omega) hk (by omega)
   · rw [e];exact h _ (by omega) e2 (by omega)
 · rfl
theorem NZ {n : Nat} {x : Ev} {M : Ev -> Prop} (dx : 1 <= x.2.1) : ∀ (d i : Nat) (H : List Ev) (W : List Int), n - i <= d -> E6 n x M H W i -> E9 n H i -> (0 < i -> ¬ dK x H[(i - 1) / 2]!) ->
    ∃ j H1 W1, dP n x i H W = (j, H1, W1) /\ E6 n x M H1 W1 j /\ E9 n H1 j /\ H1.length = H.length /\ W1.length = W.length /\ (0 < j -> ¬ dK x H1[(j - 1) / 2]!) /\
      (∀ k, n <= k -> H1[k]! = H[k]!) /\ (∀ k, (∀ w, w < n -> w ≠ i -> (H[w]!).n ≠ k) -> W1[k]! = W[k]!) /\ (∀ k, 0 < k -> k < n -> (k - 1) / 2 = j -> ¬ dK H1[k]! x)
  | 0, i, H, W, hd, h, o, u => by have := h.lt; omega
  | d + 1, i, H, W, hd, h, o, u => by
    have hi := h.lt
    have hn := h.hn
    rw [dP]
    by_cases hk : 2 * i + 1 < n
    · rw [dif_pos hk]
      have kc := pV n H i
      have kn : hM n H i < n := by omega
      have kne : hM n H i ≠ i := by omega
      have kp : (hM n H i - 1) / 2 = i := by omega
      have kb : ∀ k, 0 < k -> k < n -> (k - 1) / 2 = i -> ¬ dK H[k]! H[hM n H i]! := by
        intro k k0 k1 k2
        have kk : k = 2 * i + 1 \/ k = 2 * i + 2 := by omega
        unfold hM
        split
        · rename_i hc
          rcases kk with e | e
          · rw [e]; exact sD hc.2
          · rw [e]; exact fun h => sD h h
        · rename_i hc
          rcases kk with e | e
          · rw [e]; exact fun h => sD h h
          · rw [e] at k1 ⊢; exact fun h => hc ⟨k1, h⟩
      by_cases hl : dK H[hM n H i]! x
      · rw [if_pos hl]
        have hm := h.move kn kne
        have cell : ∀ w, (H.set i H[hM n H i]!)[w]! = if w = i then H[hM n H i]! else H[w]! := by
          intro w
          rw [bB]
          by_cases e : w = i
          · rw [if_pos ⟨e, by omega⟩, if_pos e]
          · rw [if_neg (fun k => e k.1), if_neg e]
        have o' : E9 n (H.set i H[hM n H i]!) (hM n H i) := by
          refine ⟨?_, ?_, ?_⟩
          · intro w hw
            rw [cell]
            split
            · exact o.den _ kn
            · exact o.den _ hw
          · intro k k0 k1 k2 k3
            rw [cell, cell]
            by_cases e : k = i
            · rw [if_pos e, if_neg (by omega)]
              have := o.grand (by omega) (hM n H i) (by omega) kn kp
              rwa [e]
            · rw [if_neg e]
              by_cases e2 : (k - 1) / 2 = i
              · rw [if_pos e2]; exact kb k k0 k1 e2
              · rw [if_neg e2]; exact o.ord k k0 k1 e e2
          · intro _ k k0 k1 k2
            rw [cell, cell, if_pos kp, if_neg (by omega)]
            have := o.ord k k0 k1 (by omega) (by omega)
            rwa [k2] at this
        obtain ⟨j, H1, W1, e1, e3, e4, e5, e6, e7, e8, e9, e10⟩ := NZ dx d (hM n H i) _ _ (by omega) hm o' (by
          intro _
          rw [cell, if_pos kp]
          exact sD hl)
        rw [List.length_set] at e5 e6
        refine ⟨j, H1, W1, e1, e3, e4, e5, e6, e7, ?_, ?_, e10⟩
        · intro k hk
          rw [e8 k hk, cell, if_neg (by omega)]
        · intro k hk
          rw [e9 k ?_, bB, if_neg (fun c => hk (hM n H i) kn kne c.1.symm)]
          intro w hw hwp
          rw [cell]
          split
          · exact hk (hM n H i) kn kne
          · rename_i e; exact hk w hw e
      · rw [if_neg hl]
        refine ⟨i, H, W, rfl, h, o, rfl, rfl, u, fun _ _ => rfl, fun _ _ => rfl, ?_⟩
        intro k k0 k1 k2
        exact DK dx (o.den _ kn) (o.den _ k1) hl (kb k k0 k1 k2)
    · rw [dif_neg hk]
      refine ⟨i, H, W, rfl, h, o, rfl, rfl, u, fun _ _ => rfl, fun _ _ => rfl, ?_⟩
      intro k k0 k1 k2
      omega
structure DL (n:Nat) (x:Ev) (M:Ev->Prop) (K:Nat->Prop) (H:List Ev) (W:List Int) (H1:List Ev) (W1:List Int):Prop where
 hl:H1.length=H.length
 wl:W1.length=W.length
 ix: ∀w,w<n->0<=(H1[w]!).ix/\(H1[w]!).ix<W.length/\W1[(H1[w]!).n]! =(w:Int)
 mem: ∀e,(∃w,w<n/\H1[w]! =e)↔(e=x\/M e)
 ord: ∀k,0<k->k<n-> ¬dK H1[k]! H1[(k-1) / 2]!
 out: ∀k,K k->W1[k]! =W[k]!
theorem PX {n:Nat} {x:Ev} {M:Ev->Prop} {H H1:List Ev} {W W1:List Int} {i j:Nat} (h1:E6 n x M H1 W1 j) (o1:E9 n H1 j) (hl:H1.length=H.length) (wl:W1.length=W.length)
 (u:0<j-> ¬dK x H1[(j-1) / 2]!) (kd: ∀k,0<k->k<n->(k-1) / 2=j-> ¬dK H1[k]! x) (out: ∀k,(∀w,w<n->w≠i->(H[w]!).n≠k)->W1[k]! =W[k]!):
 DL n x M (fun k=>k≠x.n/\ ∀w,w<n->w≠i->(H[w]!).n≠k) H W (H1.set j x) (W1.set x.n (j:Int)):=by
 have hn:=h1.hn;have hj:=h1.lt;have f:=h1.fill;have cell: ∀w,(H1.set j x)[w]! =if w=j then x else H1[w]!:=by
  intro w;rw [bB]
  by_cases e:w=j
  · rw [if_pos ⟨e,by omega⟩,if_pos e]
  · rw [if_neg (fun k=>e k.1),if_neg e]
 refine ⟨by rw [List.length_set];exact hl,by rw [List.length_set];exact wl,?_,f.2,?_,?_⟩
 · rw [<- wl];exact f.1
 · intro k k0 kn
   rw [cell,cell]
   by_cases e:k=j
   · rw [if_pos e,if_neg (by omega),e];exact u (by omega)
   · rw [if_neg e]
     by_cases e2:(k-1) / 2=j
     · rw [if_pos e2];exact kd k k0 kn e2
     · rw [if_neg e2];exact o1.ord k k0 kn e e2
 · rintro k ⟨k1,k2⟩
   rw [bB,if_neg (fun c=>k1 c.1)]
   exact out k k2
noncomputable def cH (n:Nat) (x:Ev) (i:Nat) (H:List Ev) (W:List Int):List Ev×List Int:=
 let u:=iS x i H W
 let d:=dP n x u.1 u.2.1 u.2.2
 (d.2.1.set d.1 x,d.2.2.set x.n (d.1:Int))
theorem CN {n:Nat} {x:Ev} {M:Ev->Prop} (dx:1<=x.2.1) {i:Nat} {H:List Ev} {W:List Int} (h:E6 n x M H W i) (o:E9 n H i):
 DL n x M (fun k=>k≠x.n/\ ∀w,w<n->w≠i->(H[w]!).n≠k) H W (cH n x i H W).1 (cH n x i H W).2:=by
 obtain ⟨j,H1,W1,e1,e3,e4,e5,e6,e7,e8,e9,e10⟩:=JT dx i H W h o;obtain ⟨k,H2,W2,f1,f3,f4,f5,f6,f7,f8,f9,f10⟩:=NZ dx n j H1 W1 (by omega) e3 e4 e7
 have e:cH n x i H W=(H2.set k x,W2.set x.n (k:Int)):=by
  unfold cH;rw [e1];dsimp only;rw [f1]
 rw [e];refine PX f3 f4 (by omega) (by omega) f7 f10 ?_
 intro c hc;rw [f9 c ?_,e9 c hc];intro w hw hwj hcw;have hm:M H1[w]!:=(e3.mem _).1 ⟨w,hw,hwj,rfl⟩;obtain ⟨v,v1,v2,v3⟩:=(h.mem _).2 hm;exact hc v v1 v2 (by rw [v3];exact hcw)
theorem SQ {n:Nat} {x:Ev} {M:Ev->Prop} (dx:1<=x.2.1) {i:Nat} {H:List Ev} {W:List Int} (h:E6 n x M H W i) (o:E9 n H i) (hk: ∀k,0<k->k<n->(k-1) / 2=i-> ¬dK H[k]! x):
 cH n x i H W=((iS x i H W).2.1.set (iS x i H W).1 x,(iS x i H W).2.2.set x.n ((iS x i H W).1:Int)):=by
 obtain ⟨j,H1,W1,e1,e3,e4,e5,e6,e7,e8,e9,e10⟩:=JT dx i H W h o;unfold cH;rw [e1];dsimp only;rw [ZS (e10 hk)]
end Go.Proofs.YticklbjcnimggaaGreat
namespace Go.Proofs.YticklbjcnimggaaGreat
open Go.Vm Classical
def sE (x:Ev):Prop:=bU (x.1,x.2.1)/\oA (x.1,x.2.1)/\0<=x.2.2.1/\x.2.2.1<=1000000
theorem sE.den {x:Ev} (h:sE x):1<=x.2.1:=h.1.1
noncomputable def L2 (x y:Ev):Int:=if E4 (x.1,x.2.1) (y.1,y.2.1)≠0 then E4 (x.1,x.2.1) (y.1,y.2.1) else jW x.2.2.1 y.2.2.1
theorem GK (x y:Ev):L2 x y<0↔dK x y:=by
 unfold L2 dK
 by_cases h:E4 (x.1,x.2.1) (y.1,y.2.1)=0
 · rw [if_neg (by simpa using h),h]
   rcases fY x.2.2.1 y.2.2.1 with ⟨h1,e⟩|⟨h1,e⟩|⟨h1,e⟩<;>rw [e]<;>constructor<;>intro<;>omega
 · rw [if_pos h];constructor<;>intro<;>omega
theorem dJ {x y:Ev} (hx:sE x) (hy:sE y):cC x y=some (L2 x y):=by
 unfold cC L2;rw [aBJ hx.2.1 hy.2.1,if_pos ⟨hx.1,hy.1⟩];simp only [aD,kT,DI]
theorem oW {x y:Ev} (hx:sE x) (hy:sE y):eC x y=some (decide (dK x y)):=by
 unfold eC dK;rw [LU hx.2.1 hy.2.1];simp only [aD];generalize E4 (x.1,x.2.1) (y.1,y.2.1)=c
 by_cases h1:c<0
 · simp [h1]
 · by_cases h2:c=0
   · subst h2;simp
   · simp only [h1,fW h2,h2,decide_false,cond_false,false_or,false_and]
theorem HY {x y:Ev}:decide (L2 x y<0)=decide (dK x y):=by simp only [GK]
theorem PY {x y:Ev}:decide (0<=L2 x y)=!decide (dK x y):=by
 have:=GK x y
 by_cases h:dK x y
 · have h2:=this.2 h
   have: ¬0<=L2 x y:=by omega
   simp [h,this]
 · have h2: ¬L2 x y<0:=fun k=>h (this.1 k)
   have:0<=L2 x y:=by omega
   simp [h,this]
structure nH (n:Nat) (H:List Ev) (W:List Int):Prop where
 hn:n<=H.length
 hb:H.length<=1000000
 ev: ∀w,w<n->sE H[w]!/\0<=(H[w]!).ix/\(H[w]!).ix<W.length
theorem nH.move {n:Nat} {H:List Ev} {W:List Int} (c:nH n H W) {i j:Nat} (_hi:i<n) (hj:j<n) (k:Nat) (v:Int):nH n (H.set i H[j]!) (W.set k v):=by
 have hn:=c.hn;refine ⟨by rw [List.length_set];exact hn,by rw [List.length_set];exact c.hb,?_⟩
 intro w hw;rw [bB,List.length_set];split
 · exact c.ev j hj
 · exact c.ev w hw
theorem JU {H:List Ev} {W:List Int} {x:Ev} {u fr:List Int} {us:List Bool} {i:Nat} (hi:i<H.length) (h0:0<=x.ix) (h1:x.ix<W.length):
 bT (u,us,fr,(i:Int),x.1,x.2.1,x.2.2.1,x.2.2.2.1,x.2.2.2.2,H,W)=some (H.set i x,W.set x.n (i:Int)):=by
 unfold bT;have e1:=aE H i hi;have e2:=dI (l:=W) h0 h1;simp only [e1,e2,aD,B0,beq_self_eq_true,cond_true];rfl
theorem JV {n cap:Nat} {H:List Ev} {W:List Int} {x:Ev} {u fr:List Int} {us:List Bool} {i:Nat} (hi:i<n) (hn:n<=H.length) (h0:0<=x.ix) (h1:x.ix<W.length):
 bS (u,us,fr,n,cap,(i:Int),x.1,x.2.1,x.2.2.1,x.2.2.2.1,x.2.2.2.2,H,W)=some (H.set i x,W.set x.n (i:Int)):=by
 unfold bS;have e1:=aE (H.take n) i (by rw [List.length_take];omega)
 have e2:=dI (l:=W) h0 h1;simp only [e1,e2,aD,B0,beq_self_eq_true,cond_true];rfl
theorem uF {i:Nat} (h:i<1000000000):aA .i64 (Int.tdiv (aA .i64 (((i+1:Nat):Int) -1)) 2)=((i / 2:Nat):Int):=by
 have e:aA .i64 (((i+1:Nat):Int) -1)=(i:Int):=by rw [wi];omega
 rw [e,Int.tdiv_eq_ediv_of_nonneg (by omega),wi];omega
theorem yG {i:Nat} (h:i<1000000000):aA .i64 ((aA .i64 (2*(i:Int)))+1)=((2*i+1:Nat):Int):=by
 have e:aA .i64 (2*(i:Int))=((2*i:Nat):Int):=by rw [wi];omega
 rw [e,wi];omega
theorem CO {n:Nat} {x:Ev}: ∀{i:Nat} {H:List Ev} {W:List Int} {j:Nat} {H1:List Ev} {W1:List Int},nH n H W->i<n->iS x i H W=(j,H1,W1)-> ∀w,w<n->sE H1[w]!/\0<=(H1[w]!).ix/\(H1[w]!).ix<W.length
 |0,H,W,j,H1,W1,c,hi,e=>by
  rw [iS] at e;injection e with e1 e;injection e with e2 e3;subst e2;exact c.ev
 |i+1,H,W,j,H1,W1,c,hi,e=>by
  rw [iS] at e;split at e
  · have:=CO (c.move hi (show i / 2<n by omega) (H[i / 2]!).n ((i+1:Nat):Int)) (by omega) e
    rw [List.length_set] at this;exact this
  · injection e with e1 e;injection e with e2 e3
    subst e2;exact c.ev
termination_by i=>i
decreasing_by omega
theorem VK {c0:List Int×List Bool×List Int×Int×Int×Int×Int×Int×Int×List Ev×List Int} {n i:Nat} {H:List Ev} {W:List Int} {u fr:List Int} {us:List Bool} {x:Ev}
 (c:nH n H W) (hn:H.length=n) (hi:i<n) (hx:sE x) (x0:0<=x.ix) (x1:x.ix<W.length) (l1:c0.2.2.2.2.2.2.2.2.2.1.length=n) (l2:c0.2.2.2.2.2.2.2.2.2.2.length=W.length):
 fU c0 ((i:Int),((2*i+1:Nat):Int),H,W,u,us,fr,x)=
  some (if 2*i+1<n/\dK H[hM n H i]! x then .next (((hM n H i:Nat):Int),((2*hM n H i+1:Nat):Int),H.set i H[hM n H i]!,W.set (H[hM n H i]!).n (i:Int),u,us,fr,x)
   else .done (.done (H.set i x,W.set x.n (i:Int)))):=by
 have hb:=c.hb;have fin:(bT (u,us,fr,(i:Int),x.1,x.2.1,x.2.2.1,x.2.2.2.1,x.2.2.2.2,H,W))=some (H.set i x,W.set x.n (i:Int)):=JU (by omega) x0 x1
 have ln1:(H.set i x).length=c0.2.2.2.2.2.2.2.2.2.1.length:=by rw [List.length_set];omega
 have ln2:(W.set x.n (i:Int)).length=c0.2.2.2.2.2.2.2.2.2.2.length:=by rw [List.length_set];omega
 unfold fU;simp only [aF,hn,fin,aD,ln1,ln2,beq_self_eq_true,cond_true]
 by_cases h1:2*i+1<n
 · have e1:decide (((2*i+1:Nat):Int)<(n:Int))=true:=by simp;omega
   have e2:aA .i64 (((2*i+1:Nat):Int)+1)=((2*i+2:Nat):Int):=aX (by omega)
   obtain ⟨ok1,a1,a2⟩:=c.ev (2*i+1) h1;have g1:=aE H (2*i+1) (by omega)
   have s1:(bT (u,us,fr,(i:Int),(H[2*i+1]!).1,(H[2*i+1]!).2.1,(H[2*i+1]!).2.2.1,(H[2*i+1]!).2.2.2.1,(H[2*i+1]!).2.2.2.2,H,W))=some (H.set i H[2*i+1]!,W.set (H[2*i+1]!).n (i:Int)):=JU (by omega) a1 a2
   simp only [e1,e2,cond_true,g1,aD,s1,dJ ok1 hx,PY,yG (show 2*i+1<1000000000 by omega)]
   by_cases h2:2*i+2<n
   · have e3:decide (((2*i+2:Nat):Int)<(n:Int))=true:=by simp;omega
     obtain ⟨ok2,b1,b2⟩:=c.ev (2*i+2) h2;have g2:=aE H (2*i+2) (by omega)
     have s2:(bT (u,us,fr,(i:Int),(H[2*i+2]!).1,(H[2*i+2]!).2.1,(H[2*i+2]!).2.2.1,(H[2*i+2]!).2.2.2.1,(H[2*i+2]!).2.2.2.2,H,W))=some (H.set i H[2*i+2]!,W.set (H[2*i+2]!).n (i:Int)):=JU (by omega) b1 b2
     simp only [e3,cond_true,g2,aD,s2,dJ ok2 hx,dJ ok2 ok1,HY,PY,yG (show 2*i+2<1000000000 by omega)]
     by_cases h3:dK H[2*i+2]! H[2*i+1]!
     · have k:hM n H i=2*i+2:=by unfold hM;rw [if_pos ⟨h2,h3⟩]
       rw [k]
       by_cases h4:dK H[2*i+2]! x
       · simp only [h1,h3,h4,decide_true,cond_true,cond_false,Bool.not_true,and_self,if_true]
       · simp only [h1,h3,h4,decide_true,decide_false,cond_true,Bool.not_false,and_false,if_false]
     · have k:hM n H i=2*i+1:=by unfold hM;rw [if_neg (fun h=>h3 h.2)]
       rw [k]
       by_cases h4:dK H[2*i+1]! x
       · simp only [h1,h3,h4,decide_true,decide_false,cond_false,Bool.not_true,and_self,if_true]
       · simp only [h1,h3,h4,decide_false,cond_true,cond_false,Bool.not_false,and_false,if_false]
   · have e3:decide (((2*i+2:Nat):Int)<(n:Int))=false:=by simp;omega
     have k:hM n H i=2*i+1:=by unfold hM;rw [if_neg (fun h=>h2 h.1)]
     rw [k];simp only [e3,cond_false]
     by_cases h4:dK H[2*i+1]! x
     · simp only [h1,h4,decide_true,cond_false,Bool.not_true,and_self,if_true]
     · simp only [h1,h4,decide_false,cond_true,Bool.not_false,and_false,if_false]
 · have e1:decide (((2*i+1:Nat):Int)<(n:Int))=false:=by simp;omega
   rw [if_neg (fun h=>h1 h.1),e1];rfl
theorem A1 {c0 : List Int × List Bool × List Int × Int × Int × Int × Int × Int × Int × List Ev × List Int} {n : Nat} {u fr : List Int} {us : List Bool} {x : Ev} (hx : sE x) (x0 : 0 <= x.ix) (l1 : c0.2.2.2.2.2.2.2.2.2.1.length = n) :
    ∀ (d i : Nat) (H : List Ev) (W : List Int), n - i <= d -> nH n H W -> H.length = n -> i < n -> x.ix < W.length -> c0.2.2.2.2.2.2.2.2.2.2.length = W.length ->
      aH (fU c0) ((i : Int), ((2 * i + 1 : Nat) : Int), H, W, u, us, fr, x) = some (.done ((dP n x i H W).2.1.set (dP n x i H W).1 x, (dP n x i H W).2.2.set x.n ((dP n x i H W).1 : Int)))
  | 0, i, H, W, hd, c, hn, hi, x1, l2 => by omega
  | d + 1, i, H, W, hd, c, hn, hi, x1, l2 => by
    have r := VK (u := u) (us := us) (fr := fr) c hn hi hx x0 x1 l1 l2
    by_cases h : 2 * i + 1 < n /\ dK H[hM n H i]! x
    · rw [if_pos h] at r
      have kc := pV n H i
      have kn : hM n H i < n := by omega
      rw [aZ r, A1 hx x0 l1 d (hM n H i) _ _ (by omega) (c.move hi kn _ _) (by rw [List.length_set]; exact hn) kn (by rw [List.length_set]; exact x1) (by rw [List.length_set]; exact l2)]
      have e : dP n x i H W = dP n x (hM n H i) (H.set i H[hM n H i]!) (W.set (H[hM n H i]!).n (i : Int)) := by
        rw [dP, dif_pos h.1, if_pos h.2]
      rw [e]
    · rw [if_neg h] at r
      rw [aL r]
      have e : dP n x i H W = (i, H, W) := by
        rw [dP]
        split
        · rename_i h1; rw [if_neg (fun k => h ⟨h1, k⟩)]
        · rfl
      rw [e]
theorem L3 {c0 : List Int × List Bool × List Int × Int × Int × Int × Int × Int × Int × List Ev × List Int} {n : Nat} {u fr : List Int} {us : List Bool} {x : Ev} (hx : sE x) (x0 : 0 <= x.ix) (l1 : c0.2.2.2.2.2.2.2.2.2.1.length = n) :
    ∀ (i : Nat) (H : List Ev) (W : List Int), nH n H W -> H.length = n -> i < n -> x.ix < W.length -> c0.2.2.2.2.2.2.2.2.2.2.length = W.length ->
      aH (eF c0) ((i : Int), H, W, u, us, fr, x) = some (cH n x i H W)
  | 0, H, W, c, hn, hi, x1, l2 => by
    have hb := c.hb
    have dn := A1 (u := u) (us := us) (fr := fr) hx x0 l1 n 0 H W (by omega) c hn hi x1 l2
    refine (aL (r := cH n x 0 H W) ?_)
    unfold eF
    have e1 : decide ((0 : Int) < ((0 : Nat) : Int)) = false := by simp
    simp only [e1, cond_false, yG (show 0 < 1000000000 by omega)]
    rw [dn]
    unfold cH
    rw [iS]
  | i + 1, H, W, c, hn, hi, x1, l2 => by
    have hb := c.hb
    have e1 : decide ((0 : Int) < ((i + 1 : Nat) : Int)) = true := decide_eq_true (by omega)
    have hp : i / 2 < n := by omega
    obtain ⟨ok1, a1, a2⟩ := c.ev (i / 2) hp
    have g1 := aE H (i / 2) (by omega)
    have s1 : (bT (u, us, fr, ((i + 1 : Nat) : Int), (H[i / 2]!).1, (H[i / 2]!).2.1, (H[i / 2]!).2.2.1, (H[i / 2]!).2.2.2.1, (H[i / 2]!).2.2.2.2, H, W)) = some (H.set (i + 1) H[i / 2]!, W.set (H[i / 2]!).n ((i + 1 : Nat) : Int)) := JU (by omega) a1 a2
    by_cases h : dK x H[i / 2]!
    · have r : eF c0 (((i + 1 : Nat) : Int), H, W, u, us, fr, x) = some (.next (((i / 2 : Nat) : Int), H.set (i + 1) H[i / 2]!, W.set (H[i / 2]!).n ((i + 1 : Nat) : Int), u, us, fr, x)) := by
        unfold eF
        simp only [e1, cond_true, uF (show i < 1000000000 by omega), g1, aD, dJ hx ok1, HY, h, decide_true, s1]
      rw [aZ r, L3 hx x0 l1 (i / 2) _ _ (c.move hi hp _ _) (by rw [List.length_set]; exact hn) hp (by rw [List.length_set]; exact x1) (by rw [List.length_set]; exact l2)]
      have e : iS x (i + 1) H W = iS x (i / 2) (H.set (i + 1) H[i / 2]!) (W.set (H[i / 2]!).n ((i + 1 : Nat) : Int)) := by
        rw [iS, if_pos h]
      unfold cH
      rw [e]
    · have dn := A1 (u := u) (us := us) (fr := fr) hx x0 l1 n (i + 1) H W (by omega) c hn hi x1 l2
      refine (aL (r := cH n x (i + 1) H W) ?_)
      unfold eF
      simp only [e1, cond_true, uF (show i < 1000000000 by omega), g1, aD, dJ hx ok1, HY, h, decide_false, cond_false, yG (show i + 1 < 1000000000 by omega)]
      rw [dn]
      unfold cH
      rw [iS, if_neg h]
termination_by i=>i
decreasing_by omega
theorem L4 {n:Nat} {u fr:List Int} {us:List Bool} {x:Ev} (hx:sE x) (x0:0<=x.ix) {i:Nat} {H:List Ev} {W:List Int} (c:nH n H W) (hn:H.length=n) (hi:i<n) (x1:x.ix<W.length):
 eQ (u,us,fr,(i:Int),x.1,x.2.1,x.2.2.1,x.2.2.2.1,x.2.2.2.2,H,W)=some (cH n x i H W):=by
 unfold eQ;exact L3 hx x0 hn i H W c hn hi x1 rfl
end Go.Proofs.YticklbjcnimggaaGreat
namespace Go.Proofs.YticklbjcnimggaaGreat
open Go.Vm Classical
theorem gD {l:List Ev} {n i:Nat} (h:i<n) (hn:n<=l.length):aO (l.take n) (i:Int)=some l[i]!:=by
 rw [aE (l.take n) i (by rw [List.length_take];omega),kS h]
theorem VL {c0:List Int×List Bool×List Int×Nat×Nat×Int×Int×Int×Int×Int×Int×List Ev×List Int} {n cap i:Nat} {H:List Ev} {W:List Int} {u fr:List Int} {us:List Bool} {x:Ev}
 (c:nH n H W) (hi:i<n) (hx:sE x) (x0:0<=x.ix) (x1:x.ix<W.length) (l1:c0.2.2.2.2.2.2.2.2.2.2.2.1.length=H.length) (l2:c0.2.2.2.2.2.2.2.2.2.2.2.2.length=W.length):
 fT c0 ((i:Int),((2*i+1:Nat):Int),H,W,u,us,fr,n,cap,x)=
  some (if 2*i+1<n/\dK H[hM n H i]! x then .next (((hM n H i:Nat):Int),((2*hM n H i+1:Nat):Int),H.set i H[hM n H i]!,W.set (H[hM n H i]!).n (i:Int),u,us,fr,n,cap,x)
   else .done (.done (H.set i x,W.set x.n (i:Int)))):=by
 have hb:=c.hb;have hnn:=c.hn;have fin:(bS (u,us,fr,n,cap,(i:Int),x.1,x.2.1,x.2.2.1,x.2.2.2.1,x.2.2.2.2,H,W))=some (H.set i x,W.set x.n (i:Int)):=JV (cap:=cap) (by omega) c.hn x0 x1
 have ln1:(H.set i x).length=c0.2.2.2.2.2.2.2.2.2.2.2.1.length:=by rw [List.length_set];omega
 have ln2:(W.set x.n (i:Int)).length=c0.2.2.2.2.2.2.2.2.2.2.2.2.length:=by rw [List.length_set];omega
 unfold fT;simp only [aF,fin,aD,ln1,ln2,beq_self_eq_true,cond_true]
 by_cases h1:2*i+1<n
 · have e1:decide (((2*i+1:Nat):Int)<(n:Int))=true:=by simp;omega
   have e2:aA .i64 (((2*i+1:Nat):Int)+1)=((2*i+2:Nat):Int):=aX (by omega)
   obtain ⟨ok1,a1,a2⟩:=c.ev (2*i+1) h1;have g1:=gD (l:=H) (n:=n) (i:=2*i+1) (by omega) c.hn
   have s1:(bS (u,us,fr,n,cap,(i:Int),(H[2*i+1]!).1,(H[2*i+1]!).2.1,(H[2*i+1]!).2.2.1,(H[2*i+1]!).2.2.2.1,(H[2*i+1]!).2.2.2.2,H,W))=some (H.set i H[2*i+1]!,W.set (H[2*i+1]!).n (i:Int)):=JV (cap:=cap) (by omega) c.hn a1 a2
   simp only [e1,e2,cond_true,g1,aD,s1,dJ ok1 hx,PY,yG (show 2*i+1<1000000000 by omega)]
   by_cases h2:2*i+2<n
   · have e3:decide (((2*i+2:Nat):Int)<(n:Int))=true:=by simp;omega
     obtain ⟨ok2,b1,b2⟩:=c.ev (2*i+2) h2;have g2:=gD (l:=H) (n:=n) (i:=2*i+2) (by omega) c.hn
     have s2:(bS (u,us,fr,n,cap,(i:Int),(H[2*i+2]!).1,(H[2*i+2]!).2.1,(H[2*i+2]!).2.2.1,(H[2*i+2]!).2.2.2.1,(H[2*i+2]!).2.2.2.2,H,W))=some (H.set i H[2*i+2]!,W.set (H[2*i+2]!).n (i:Int)):=JV (cap:=cap) (by omega) c.hn b1 b2
     simp only [e3,cond_true,g2,aD,s2,dJ ok2 hx,dJ ok2 ok1,HY,PY,yG (show 2*i+2<1000000000 by omega)]
     by_cases h3:dK H[2*i+2]! H[2*i+1]!
     · have k:hM n H i=2*i+2:=by unfold hM;rw [if_pos ⟨h2,h3⟩]
       rw [k]
       by_cases h4:dK H[2*i+2]! x
       · simp only [h1,h3,h4,decide_true,cond_true,cond_false,Bool.not_true,and_self,if_true]
       · simp only [h1,h3,h4,decide_true,decide_false,cond_true,Bool.not_false,and_false,if_false]
     · have k:hM n H i=2*i+1:=by unfold hM;rw [if_neg (fun h=>h3 h.2)]
       rw [k]
       by_cases h4:dK H[2*i+1]! x
       · simp only [h1,h3,h4,decide_true,decide_false,cond_false,Bool.not_true,and_self,if_true]
       · simp only [h1,h3,h4,decide_false,cond_true,cond_false,Bool.not_false,and_false,if_false]
   · have e3:decide (((2*i+2:Nat):Int)<(n:Int))=false:=by simp;omega
     have k:hM n H i=2*i+1:=by unfold hM;rw [if_neg (fun h=>h2 h.1)]
     rw [k];simp only [e3,cond_false]
     by_cases h4:dK H[2*i+1]! x
     · simp only [h1,h4,decide_true,cond_false,Bool.not_true,and_self,if_true]
     · simp only [h1,h4,decide_false,cond_true,Bool.not_false,and_false,if_false]
 · have e1:decide (((2*i+1:Nat):Int)<(n:Int))=false:=by simp;omega
   rw [if_neg (fun h=>h1 h.1),e1];rfl
theorem A2 {c0 : List Int × List Bool × List Int × Nat × Nat × Int × Int × Int × Int × Int × Int × List Ev × List Int} {n cap : Nat} {u fr : List Int} {us : List Bool} {x : Ev} (hx : sE x) (x0 : 0 <= x.ix) :
    ∀ (d i : Nat) (H : List Ev) (W : List Int), n - i <= d -> nH n H W -> c0.2.2.2.2.2.2.2.2.2.2.2.1.length = H.length -> i < n -> x.ix < W.length -> c0.2.2.2.2.2.2.2.2.2.2.2.2.length = W.length ->
      aH (fT c0) ((i : Int), ((2 * i + 1 : Nat) : Int), H, W, u, us, fr, n, cap, x) = some (.done ((dP n x i H W).2.1.set (dP n x i H W).1 x, (dP n x i H W).2.2.set x.n ((dP n x i H W).1 : Int)))
  | 0, i, H, W, hd, c, hn, hi, x1, l2 => by omega
  | d + 1, i, H, W, hd, c, hn, hi, x1, l2 => by
    have r := VL (u := u) (us := us) (fr := fr) (cap := cap) c hi hx x0 x1 hn l2
    by_cases h : 2 * i + 1 < n /\ dK H[hM n H i]! x
    · rw [if_pos h] at r
      have kc := pV n H i
      have kn : hM n H i < n := by omega
      rw [aZ r, A2 hx x0 d (hM n H i) _ _ (by omega) (c.move hi kn _ _) (by rw [List.length_set]; exact hn) kn (by rw [List.length_set]; exact x1) (by rw [List.length_set]; exact l2)]
      have e : dP n x i H W = dP n x (hM n H i) (H.set i H[hM n H i]!) (W.set (H[hM n H i]!).n (i : Int)) := by
        rw [dP, dif_pos h.1, if_pos h.2]
      rw [e]
    · rw [if_neg h] at r
      rw [aL r]
      have e : dP n x i H W = (i, H, W) := by
        rw [dP]
        split
        · rename_i h1; rw [if_neg (fun k => h ⟨h1, k⟩)]
        · rfl
      rw [e]
theorem L5 {c0 : List Int × List Bool × List Int × Nat × Nat × Int × Int × Int × Int × Int × Int × List Ev × List Int} {n cap : Nat} {u fr : List Int} {us : List Bool} {x : Ev} (hx : sE x) (x0 : 0 <= x.ix) :
    ∀ (i : Nat) (H : List Ev) (W : List Int), nH n H W -> c0.2.2.2.2.2.2.2.2.2.2.2.1.length = H.length -> i < n -> x.ix < W.length -> c0.2.2.2.2.2.2.2.2.2.2.2.2.length = W.length ->
      aH (eE c0) ((i : Int), H, W, u, us, fr, n, cap, x) = some (cH n x i H W)
  | 0, H, W, c, hn, hi, x1, l2 => by
    have hb := c.hb
    have hnn := c.hn
    have dn := A2 (u := u) (us := us) (fr := fr) (cap := cap) hx x0 n 0 H W (by omega) c hn hi x1 l2
    refine (aL (r := cH n x 0 H W) ?_)
    unfold eE
    have e1 : decide ((0 : Int) < ((0 : Nat) : Int)) = false := by simp
    simp only [e1, cond_false, yG (show 0 < 1000000000 by omega)]
    rw [dn]
    unfold cH
    rw [iS]
  | i + 1, H, W, c, hn, hi, x1, l2 => by
    have hb := c.hb
    have hnn := c.hn
    have e1 : decide ((0 : Int) < ((i + 1 : Nat) : Int)) = true := decide_eq_true (by omega)
    have hp : i / 2 < n := by omega
    obtain ⟨ok1, a1, a2⟩ := c.ev (i / 2) hp
    have g1 := gD (l := H) (n := n) (i := i / 2) (by omega) c.hn
    have s1 : (bS (u, us, fr, n, cap, ((i + 1 : Nat) : Int), (H[i / 2]!).1, (H[i / 2]!).2.1, (H[i / 2]!).2.2.1, (H[i / 2]!).2.2.2.1, (H[i / 2]!).2.2.2.2, H, W)) = some (H.set (i + 1) H[i / 2]!, W.set (H[i / 2]!).n ((i + 1 : Nat) : Int)) := JV (cap := cap) (by omega) c.hn a1 a2
    by_cases h : dK x H[i / 2]!
    · have r : eE c0 (((i + 1 : Nat) : Int), H, W, u, us, fr, n, cap, x) = some (.next (((i / 2 : Nat) : Int), H.set (i + 1) H[i / 2]!, W.set (H[i / 2]!).n ((i + 1 : Nat) : Int), u, us, fr, n, cap, x)) := by
        unfold eE
        simp only [e1, cond_true, uF (show i < 1000000000 by omega), g1, aD, dJ hx ok1, HY, h, decide_true, s1]
      rw [aZ r, L5 hx x0 (i / 2) _ _ (c.move hi hp _ _) (by rw [List.length_set]; exact hn) hp (by rw [List.length_set]; exact x1) (by rw [List.length_set]; exact l2)]
      have e : iS x (i + 1) H W = iS x (i / 2) (H.set (i + 1) H[i / 2]!) (W.set (H[i / 2]!).n ((i + 1 : Nat) : Int)) := by
        rw [iS, if_pos h]
      unfold cH
      rw [e]
    · have dn := A2 (u := u) (us := us) (fr := fr) (cap := cap) hx x0 n (i + 1) H W (by omega) c hn hi x1 l2
      refine (aL (r := cH n x (i + 1) H W) ?_)
      unfold eE
      simp only [e1, cond_true, uF (show i < 1000000000 by omega), g1, aD, dJ hx ok1, HY, h, decide_false, cond_false, yG (show i + 1 < 1000000000 by omega)]
      rw [dn]
      unfold cH
      rw [iS, if_neg h]
termination_by i=>i
decreasing_by omega
theorem VM {n cap:Nat} {u fr:List Int} {us:List Bool} {x:Ev} (hx:sE x) (x0:0<=x.ix) {i:Nat} {H:List Ev} {W:List Int} (c:nH n H W) (hi:i<n) (x1:x.ix<W.length):
 jX (u,us,fr,n,cap,(i:Int),x.1,x.2.1,x.2.2.1,x.2.2.2.1,x.2.2.2.2,H,W)=some (cH n x i H W):=by
 unfold jX;exact L5 hx x0 i H W c rfl hi x1 rfl
end Go.Proofs.YticklbjcnimggaaGreat
namespace Go.Proofs.YticklbjcnimggaaGreat
open Go.Vm Classical
theorem L6 {n cap:Nat} {H:List Ev} {W:List Int} {x:Ev} {u fr:List Int} {us:List Bool} {i k:Nat} (hi:i<n) (hk:k<n) (hik:k≠i) (hn:n<=H.length) (x0:0<=x.ix) (x1:x.ix<W.length) (k0:0<=(H[k]!).ix) (k1:(H[k]!).ix<W.length):
 gF (u,us,fr,n,cap,(i:Int),(k:Int),H.set i x,W.set x.n (i:Int))=some ((H.set i H[k]!).set k x,(W.set (H[k]!).n (i:Int)).set x.n (k:Int)):=by
 have cell: ∀w,(H.set i x)[w]! =if w=i then x else H[w]!:=by
  intro w;rw [bB]
  by_cases e:w=i
  · rw [if_pos ⟨e,by omega⟩,if_pos e]
  · rw [if_neg (fun k=>e k.1),if_neg e]
 have sh:((H.set i x).set i H[k]!).set k x=(H.set i H[k]!).set k x:=by rw [List.set_set]
 have sw:((W.set x.n (i:Int)).set (H[k]!).n (i:Int)).set x.n (k:Int)=(W.set (H[k]!).n (i:Int)).set x.n (k:Int):=by
  by_cases e:x.n=(H[k]!).n
  · simp only [e,List.set_set]
  · rw [List.set_comm _ _ (fun h=>e h),List.set_set]
 have g1:aO ((H.set i x).take n) (k:Int)=some H[k]!:=by rw [gD (by omega) (by rw [List.length_set];omega),cell,if_neg hik]
 have g2:aO ((H.set i x).take n) (i:Int)=some x:=by rw [gD (by omega) (by rw [List.length_set];omega),cell,if_pos rfl]
 have g3:aO (((H.set i x).set i H[k]!).take n) (k:Int)=some H[k]!:=by rw [gD (by omega) (by rw [List.length_set,List.length_set];omega),bB,if_neg (fun h=>hik h.1),cell,if_neg hik]
 have g4:aO (((H.set i H[k]!).set k x).take n) (i:Int)=some H[k]!:=by rw [gD (by omega) (by rw [List.length_set,List.length_set];omega),bB,if_neg (fun h=>hik h.1.symm),bB,if_pos ⟨rfl,by omega⟩]
 have g5:aO (((H.set i H[k]!).set k x).take n) (k:Int)=some x:=by rw [gD (by omega) (by rw [List.length_set,List.length_set];omega),bB,if_pos ⟨rfl,by rw [List.length_set];omega⟩]
 have w6:=dI (l:=W.set x.n (i:Int)) k0 (by rw [List.length_set];exact k1)
 have w7:=dI (l:=(W.set x.n (i:Int)).set (H[k]!).n (i:Int)) x0 (by rw [List.length_set,List.length_set];exact x1)
 have q1: ∀(l:List Int) (a:Int) (y:Ev),bX l y.2.2.2.1 a=l.set y.n a:=fun _ _ _=>rfl
 unfold gF;simp only [lZ,g1,g2,g3,aD,sh,g4,g5,q1,w6,w7,sw,List.length_set,beq_self_eq_true,cond_true]
theorem aBQ {c0:List Int×List Bool×List Int×Nat×Nat×Int×List Ev×List Int} {n cap:Nat} {u fr:List Int} {us:List Bool} {x:Ev} (hx:sE x) (x0:0<=x.ix):
 ∀(i:Nat) (H:List Ev) (W:List Int),nH n H W->i<n->x.ix<W.length->c0.2.2.2.2.2.2.1.length=H.length->c0.2.2.2.2.2.2.2.length=W.length->
  aH (gW c0) ((i:Int),H.set i x,W.set x.n (i:Int),u,us,fr,n,cap)=some (((iS x i H W).1:Int),(iS x i H W).2.1.set (iS x i H W).1 x,(iS x i H W).2.2.set x.n ((iS x i H W).1:Int))
 |0,H,W,c,hi,x1,l1,l2=>by
  have hnn:=c.hn;refine aL ?_;unfold gW;have e1:decide ((0:Int)<((0:Nat):Int))=false:=by simp
  rw [iS];simp only [e1,cond_false,List.length_set,l1,l2,beq_self_eq_true,cond_true]
 |i+1,H,W,c,hi,x1,l1,l2=>by
  have hb:=c.hb;have hnn:=c.hn;have e1:decide ((0:Int)<((i+1:Nat):Int))=true:=decide_eq_true (by omega)
  have hp:i / 2<n:=by omega
  have hne:i / 2≠i+1:=by omega
  obtain ⟨ok1,a1,a2⟩:=c.ev (i / 2) hp;have cell: ∀w,(H.set (i+1) x)[w]! =if w=i+1 then x else H[w]!:=by
   intro w;rw [bB]
   by_cases e:w=i+1
   · rw [if_pos ⟨e,by omega⟩,if_pos e]
   · rw [if_neg (fun k=>e k.1),if_neg e]
  have g0:aO ((H.set (i+1) x).take n) ((i+1:Nat):Int)=some x:=by rw [gD (by omega) (by rw [List.length_set];omega),cell,if_pos rfl]
  have g1:aO ((H.set (i+1) x).take n) ((i / 2:Nat):Int)=some H[i / 2]!:=by rw [gD (by omega) (by rw [List.length_set];omega),cell,if_neg hne]
  by_cases h:dK x H[i / 2]!
  · have sw:=L6 (cap:=cap) (u:=u) (us:=us) (fr:=fr) (x:=x) hi hp hne hnn x0 x1 a1 a2
    have r:gW c0 (((i+1:Nat):Int),H.set (i+1) x,W.set x.n ((i+1:Nat):Int),u,us,fr,n,cap)=some (.next (((i / 2:Nat):Int),(H.set (i+1) H[i / 2]!).set (i / 2) x,(W.set (H[i / 2]!).n ((i+1:Nat):Int)).set x.n ((i / 2:Nat):Int),u,us,fr,n,cap)):=by
     unfold gW;simp only [e1,cond_true,uF (show i<1000000000 by omega),g0,g1,aD,oW hx ok1,h,decide_true,sw]
    rw [aZ r,aBQ hx x0 (i / 2) _ _ (c.move hi hp _ _) hp (by rw [List.length_set];exact x1) (by rw [List.length_set];exact l1) (by rw [List.length_set];exact l2)]
    have e:iS x (i+1) H W=iS x (i / 2) (H.set (i+1) H[i / 2]!) (W.set (H[i / 2]!).n ((i+1:Nat):Int)):=by
     rw [iS,if_pos h]
    rw [e]
  · refine aL ?_
    unfold gW;have e:iS x (i+1) H W=(i+1,H,W):=by rw [iS,if_neg h]
    rw [e];simp only [e1,cond_true,uF (show i<1000000000 by omega),g0,g1,aD,oW hx ok1,h,decide_false,cond_false,List.length_set,l1,l2,beq_self_eq_true]
termination_by i=>i
decreasing_by omega
theorem SS {c0:List Int×List Bool×List Int×Nat×Nat×Int×List Ev×List Int} {n cap:Nat} {u fr:List Int} {us:List Bool} {x:Ev} (hx:sE x) (x0:0<=x.ix):
 ∀(d i:Nat) (H:List Ev) (W:List Int),n-i<=d->nH n H W->i<n->x.ix<W.length->c0.2.2.2.2.2.2.1.length=H.length->c0.2.2.2.2.2.2.2.length=W.length->
  aH (jY c0) ((i:Int),H.set i x,W.set x.n (i:Int),u,us,fr,n,cap)=some (((dP n x i H W).2.1.set (dP n x i H W).1 x,(dP n x i H W).2.2.set x.n ((dP n x i H W).1:Int)))
 |0,i,H,W,hd,c,hi,x1,l1,l2=>by omega
 |d+1,i,H,W,hd,c,hi,x1,l1,l2=>by
  have hb:=c.hb;have hnn:=c.hn;have cell: ∀w,(H.set i x)[w]! =if w=i then x else H[w]!:=by
   intro w;rw [bB]
   by_cases e:w=i
   · rw [if_pos ⟨e,by omega⟩,if_pos e]
   · rw [if_neg (fun k=>e k.1),if_neg e]
  have len0:(H.set i x).length=H.length:=List.length_set;have body:jY c0 ((i:Int),H.set i x,W.set x.n (i:Int),u,us,fr,n,cap)=some (if 2*i+1<n/\dK H[hM n H i]! x then .next (((hM n H i:Nat):Int),(H.set i H[hM n H i]!).set (hM n H i) x,(W.set (H[hM n H i]!).n (i:Int)).set x.n ((hM n H i:Nat):Int),u,us,fr,n,cap) else .done ((H.set i x,W.set x.n (i:Int)))):=by
   have k1:=yG (show i<1000000000 by omega)
   unfold jY
   by_cases h1:2*i+1<n
   · have e1:decide ((n:Int)<=((2*i+1:Nat):Int))=false:=decide_eq_false (by omega)
     have e2:aA .i64 (((2*i+1:Nat):Int)+1)=((2*i+2:Nat):Int):=aX (by omega)
     obtain ⟨ok1,a1,a2⟩:=c.ev (2*i+1) h1;have g0:aO ((H.set i x).take n) (i:Int)=some x:=by rw [gD (by omega) (by rw [List.length_set];omega),cell,if_pos rfl]
     have g1:aO ((H.set i x).take n) ((2*i+1:Nat):Int)=some H[2*i+1]!:=by rw [gD (by omega) (by rw [List.length_set];omega),cell,if_neg (by omega)]
     have s1:=L6 (cap:=cap) (u:=u) (us:=us) (fr:=fr) (x:=x) hi h1 (by omega) hnn x0 x1 a1 a2
     simp only [aF,k1,len0,e1,e2,cond_false,g0,g1,aD,oW ok1 hx,s1,List.length_set,l1,l2,beq_self_eq_true,cond_true]
     by_cases h2:2*i+2<n
     · have e3:decide (((2*i+2:Nat):Int)<(n:Int))=true:=decide_eq_true (by omega)
       obtain ⟨ok2,b1,b2⟩:=c.ev (2*i+2) h2;have g2:aO ((H.set i x).take n) ((2*i+2:Nat):Int)=some H[2*i+2]!:=by rw [gD (by omega) (by rw [List.length_set];omega),cell,if_neg (by omega)]
       have s2:=L6 (cap:=cap) (u:=u) (us:=us) (fr:=fr) (x:=x) hi h2 (by omega) hnn x0 x1 b1 b2
       simp only [e3,cond_true,g2,aD,s2,oW ok2 hx,oW ok2 ok1]
       by_cases h3:dK H[2*i+2]! H[2*i+1]!
       · have k:hM n H i=2*i+2:=by unfold hM;rw [if_pos ⟨h2,h3⟩]
         rw [k]
         by_cases h4:dK H[2*i+2]! x
         · simp only [h1,h3,h4,decide_true,cond_true,cond_false,Bool.not_true,and_self,if_true]
         · simp only [h1,h3,h4,decide_true,decide_false,cond_true,Bool.not_false,and_false,if_false]
       · have k:hM n H i=2*i+1:=by unfold hM;rw [if_neg (fun h=>h3 h.2)]
         rw [k]
         by_cases h4:dK H[2*i+1]! x
         · simp only [h1,h3,h4,decide_true,decide_false,cond_false,Bool.not_true,and_self,if_true]
         · simp only [h1,h3,h4,decide_false,cond_true,cond_false,Bool.not_false,and_false,if_false]
     · have e3:decide (((2*i+2:Nat):Int)<(n:Int))=false:=decide_eq_false (by omega)
       have k:hM n H i=2*i+1:=by unfold hM;rw [if_neg (fun h=>h2 h.1)]
       rw [k];simp only [e3,cond_false]
       by_cases h4:dK H[2*i+1]! x
       · simp only [h1,h4,decide_true,cond_false,Bool.not_true,and_self,if_true]
       · simp only [h1,h4,decide_false,cond_true,Bool.not_false,and_false,if_false]
   · have e1:decide ((n:Int)<=((2*i+1:Nat):Int))=true:=decide_eq_true (by omega)
     rw [if_neg (fun h=>h1 h.1)]
     simp only [aF,k1,len0,e1,cond_true,List.length_set,l1,l2,beq_self_eq_true]
  by_cases h:2*i+1<n/\dK H[hM n H i]! x
  · rw [if_pos h] at body
    have kc:=pV n H i;have kn:hM n H i<n:=by omega
    rw [aZ body,SS hx x0 d (hM n H i) _ _ (by omega) (c.move hi kn _ _) kn (by rw [List.length_set];exact x1) (by rw [List.length_set];exact l1) (by rw [List.length_set];exact l2)]
    have e:dP n x i H W=dP n x (hM n H i) (H.set i H[hM n H i]!) (W.set (H[hM n H i]!).n (i:Int)):=by
     rw [dP,dif_pos h.1,if_pos h.2]
    rw [e]
  · rw [if_neg h] at body
    rw [aL body];have e:dP n x i H W=(i,H,W):=by
     rw [dP];split
     · rename_i h1;rw [if_neg (fun k=>h ⟨h1,k⟩)]
     · rfl
    rw [e]
theorem GL {n:Nat} {H:List Ev} {W:List Int} {x:Ev} {u fr:List Int} {us:List Bool} {i k:Nat} (hi:i<n) (hk:k<n) (hik:k≠i) (hn:n=H.length) (x0:0<=x.ix) (x1:x.ix<W.length) (k0:0<=(H[k]!).ix) (k1:(H[k]!).ix<W.length):
 fH ((i:Int),(k:Int),u,us,fr,H.set i x,W.set x.n (i:Int))=some (u,us,fr,(H.set i H[k]!).set k x,(W.set (H[k]!).n (i:Int)).set x.n (k:Int)):=by
 have cell: ∀w,(H.set i x)[w]! =if w=i then x else H[w]!:=by
  intro w;rw [bB]
  by_cases e:w=i
  · rw [if_pos ⟨e,by omega⟩,if_pos e]
  · rw [if_neg (fun k=>e k.1),if_neg e]
 have sh:((H.set i x).set i H[k]!).set k x=(H.set i H[k]!).set k x:=by rw [List.set_set]
 have sw:((W.set x.n (i:Int)).set (H[k]!).n (i:Int)).set x.n (k:Int)=(W.set (H[k]!).n (i:Int)).set x.n (k:Int):=by
  by_cases e:x.n=(H[k]!).n
  · simp only [e,List.set_set]
  · rw [List.set_comm _ _ (fun h=>e h),List.set_set]
 have g1:aO ((H.set i x)) (k:Int)=some H[k]!:=by rw [aE _ _ (by rw [List.length_set];omega),cell,if_neg hik]
 have g2:aO ((H.set i x)) (i:Int)=some x:=by rw [aE _ _ (by rw [List.length_set];omega),cell,if_pos rfl]
 have g3:aO (((H.set i x).set i H[k]!)) (k:Int)=some H[k]!:=by rw [aE _ _ (by rw [List.length_set,List.length_set];omega),bB,if_neg (fun h=>hik h.1),cell,if_neg hik]
 have g4:aO (((H.set i H[k]!).set k x)) (i:Int)=some H[k]!:=by rw [aE _ _ (by rw [List.length_set,List.length_set];omega),bB,if_neg (fun h=>hik h.1.symm),bB,if_pos ⟨rfl,by omega⟩]
 have g5:aO (((H.set i H[k]!).set k x)) (k:Int)=some x:=by rw [aE _ _ (by rw [List.length_set,List.length_set];omega),bB,if_pos ⟨rfl,by rw [List.length_set];omega⟩]
 have w6:=dI (l:=W.set x.n (i:Int)) k0 (by rw [List.length_set];exact k1)
 have w7:=dI (l:=(W.set x.n (i:Int)).set (H[k]!).n (i:Int)) x0 (by rw [List.length_set,List.length_set];exact x1)
 have q1: ∀(l:List Int) (a:Int) (y:Ev),bX l y.2.2.2.1 a=l.set y.n a:=fun _ _ _=>rfl
 unfold fH;simp only [lZ,g1,g2,g3,aD,sh,g4,g5,q1,w6,w7,sw,List.length_set,beq_self_eq_true,cond_true]
theorem aBR {c0:Int×List Int×List Bool×List Int×List Ev×List Int} {n:Nat} {u fr:List Int} {us:List Bool} {x:Ev} (hx:sE x) (x0:0<=x.ix) (l3:c0.2.1.length=u.length) (l4:c0.2.2.1.length=us.length) (l5:c0.2.2.2.1.length=fr.length):
 ∀(i:Nat) (H:List Ev) (W:List Int),nH n H W->i<n->H.length=n->x.ix<W.length->c0.2.2.2.2.1.length=H.length->c0.2.2.2.2.2.length=W.length->
  aH (gX c0) ((i:Int),u,us,fr,H.set i x,W.set x.n (i:Int))=some (((iS x i H W).1:Int),u,us,fr,(iS x i H W).2.1.set (iS x i H W).1 x,(iS x i H W).2.2.set x.n ((iS x i H W).1:Int))
 |0,H,W,c,hi,hln,x1,l1,l2=>by
  have hnn:=c.hn;refine aL ?_;unfold gX;have e1:decide ((0:Int)<((0:Nat):Int))=false:=by simp
  rw [iS];simp only [e1,cond_false,List.length_set,l1,l2,l3,l4,l5,beq_self_eq_true,cond_true]
 |i+1,H,W,c,hi,hln,x1,l1,l2=>by
  have hb:=c.hb;have hnn:=c.hn;have e1:decide ((0:Int)<((i+1:Nat):Int))=true:=decide_eq_true (by omega)
  have hp:i / 2<n:=by omega
  have hne:i / 2≠i+1:=by omega
  obtain ⟨ok1,a1,a2⟩:=c.ev (i / 2) hp;have cell: ∀w,(H.set (i+1) x)[w]! =if w=i+1 then x else H[w]!:=by
   intro w;rw [bB]
   by_cases e:w=i+1
   · rw [if_pos ⟨e,by omega⟩,if_pos e]
   · rw [if_neg (fun k=>e k.1),if_neg e]
  have g0:aO ((H.set (i+1) x)) ((i+1:Nat):Int)=some x:=by rw [aE _ _ (by rw [List.length_set];omega),cell,if_pos rfl]
  have g1:aO ((H.set (i+1) x)) ((i / 2:Nat):Int)=some H[i / 2]!:=by rw [aE _ _ (by rw [List.length_set];omega),cell,if_neg hne]
  by_cases h:dK x H[i / 2]!
  · have sw:=GL (u:=u) (us:=us) (fr:=fr) (x:=x) hi hp hne hln.symm x0 x1 a1 a2
    have r:gX c0 (((i+1:Nat):Int),u,us,fr,H.set (i+1) x,W.set x.n ((i+1:Nat):Int))=some (.next (((i / 2:Nat):Int),u,us,fr,(H.set (i+1) H[i / 2]!).set (i / 2) x,(W.set (H[i / 2]!).n ((i+1:Nat):Int)).set x.n ((i / 2:Nat):Int))):=by
     unfold gX;simp only [e1,cond_true,uF (show i<1000000000 by omega),g0,g1,aD,oW hx ok1,h,decide_true,sw]
    rw [aZ r,aBR hx x0 l3 l4 l5 (i / 2) _ _ (c.move hi hp _ _) hp (by rw [List.length_set];exact hln) (by rw [List.length_set];exact x1) (by rw [List.length_set];exact l1) (by rw [List.length_set];exact l2)]
    have e:iS x (i+1) H W=iS x (i / 2) (H.set (i+1) H[i / 2]!) (W.set (H[i / 2]!).n ((i+1:Nat):Int)):=by
     rw [iS,if_pos h]
    rw [e]
  · refine aL ?_
    unfold gX;have e:iS x (i+1) H W=(i+1,H,W):=by rw [iS,if_neg h]
    rw [e];simp only [e1,cond_true,uF (show i<1000000000 by omega),g0,g1,aD,oW hx ok1,h,decide_false,cond_false,List.length_set,l1,l2,l3,l4,l5,beq_self_eq_true]
termination_by i=>i
decreasing_by omega
theorem ST {c0:Int×List Int×List Bool×List Int×List Ev×List Int} {n:Nat} {u fr:List Int} {us:List Bool} {x:Ev} (hx:sE x) (x0:0<=x.ix) (l3:c0.2.1.length=u.length) (l4:c0.2.2.1.length=us.length) (l5:c0.2.2.2.1.length=fr.length):
 ∀(d i:Nat) (H:List Ev) (W:List Int),n-i<=d->nH n H W->i<n->H.length=n->x.ix<W.length->c0.2.2.2.2.1.length=H.length->c0.2.2.2.2.2.length=W.length->
  aH (jZ c0) ((i:Int),u,us,fr,H.set i x,W.set x.n (i:Int))=some ((u,us,fr,(dP n x i H W).2.1.set (dP n x i H W).1 x,(dP n x i H W).2.2.set x.n ((dP n x i H W).1:Int)))
 |0,i,H,W,hd,c,hi,hln,x1,l1,l2=>by omega
 |d+1,i,H,W,hd,c,hi,hln,x1,l1,l2=>by
  have hb:=c.hb;have hnn:=c.hn;have cell: ∀w,(H.set i x)[w]! =if w=i then x else H[w]!:=by
   intro w;rw [bB]
   by_cases e:w=i
   · rw [if_pos ⟨e,by omega⟩,if_pos e]
   · rw [if_neg (fun k=>e k.1),if_neg e]
  have len0:(H.set i x).length=H.length:=List.length_set;have body:jZ c0 ((i:Int),u,us,fr,H.set i x,W.set x.n (i:Int))=some (if 2*i+1<n/\dK H[hM n H i]! x then .next (((hM n H i:Nat):Int),u,us,fr,(H.set i H[hM n H i]!).set (hM n H i) x,(W.set (H[hM n H i]!).n (i:Int)).set x.n ((hM n H i:Nat):Int)) else .done ((u,us,fr,H.set i x,W.set x.n (i:Int)))):=by
   have k1:=yG (show i<1000000000 by omega)
   unfold jZ
   by_cases h1:2*i+1<n
   · have e1:decide ((n:Int)<=((2*i+1:Nat):Int))=false:=decide_eq_false (by omega)
     have e2:aA .i64 (((2*i+1:Nat):Int)+1)=((2*i+2:Nat):Int):=aX (by omega)
     obtain ⟨ok1,a1,a2⟩:=c.ev (2*i+1) h1;have g0:aO ((H.set i x)) (i:Int)=some x:=by rw [aE _ _ (by rw [List.length_set];omega),cell,if_pos rfl]
     have g1:aO ((H.set i x)) ((2*i+1:Nat):Int)=some H[2*i+1]!:=by rw [aE _ _ (by rw [List.length_set];omega),cell,if_neg (by omega)]
     have s1:=GL (u:=u) (us:=us) (fr:=fr) (x:=x) hi h1 (by omega) hln.symm x0 x1 a1 a2
     simp only [aF,k1,len0,hln,e1,e2,cond_false,g0,g1,aD,oW ok1 hx,s1,List.length_set,l1,l2,l3,l4,l5,beq_self_eq_true,cond_true]
     by_cases h2:2*i+2<n
     · have e3:decide (((2*i+2:Nat):Int)<(n:Int))=true:=decide_eq_true (by omega)
       obtain ⟨ok2,b1,b2⟩:=c.ev (2*i+2) h2;have g2:aO ((H.set i x)) ((2*i+2:Nat):Int)=some H[2*i+2]!:=by rw [aE _ _ (by rw [List.length_set];omega),cell,if_neg (by omega)]
       have s2:=GL (u:=u) (us:=us) (fr:=fr) (x:=x) hi h2 (by omega) hln.symm x0 x1 b1 b2
       simp only [e3,cond_true,g2,aD,s2,oW ok2 hx,oW ok2 ok1]
       by_cases h3:dK H[2*i+2]! H[2*i+1]!
       · have k:hM n H i=2*i+2:=by unfold hM;rw [if_pos ⟨h2,h3⟩]
         rw [k]
         by_cases h4:dK H[2*i+2]! x
         · simp only [h1,h3,h4,decide_true,cond_true,cond_false,Bool.not_true,and_self,if_true]
         · simp only [h1,h3,h4,decide_true,decide_false,cond_true,Bool.not_false,and_false,if_false]
       · have k:hM n H i=2*i+1:=by unfold hM;rw [if_neg (fun h=>h3 h.2)]
         rw [k]
         by_cases h4:dK H[2*i+1]! x
         · simp only [h1,h3,h4,decide_true,decide_false,cond_false,Bool.not_true,and_self,if_true]
         · simp only [h1,h3,h4,decide_false,cond_true,cond_false,Bool.not_false,and_false,if_false]
     · have e3:decide (((2*i+2:Nat):Int)<(n:Int))=false:=decide_eq_false (by omega)
       have k:hM n H i=2*i+1:=by unfold hM;rw [if_neg (fun h=>h2 h.1)]
       rw [k];simp only [e3,cond_false]
       by_cases h4:dK H[2*i+1]! x
       · simp only [h1,h4,decide_true,cond_false,Bool.not_true,and_self,if_true]
       · simp only [h1,h4,decide_false,cond_true,Bool.not_false,and_false,if_false]
   · have e1:decide ((n:Int)<=((2*i+1:Nat):Int))=true:=decide_eq_true (by omega)
     rw [if_neg (fun h=>h1 h.1)]
     simp only [aF,k1,len0,hln,e1,cond_true,List.length_set,l1,l2,l3,l4,l5,beq_self_eq_true]
  by_cases h:2*i+1<n/\dK H[hM n H i]! x
  · rw [if_pos h] at body
    have kc:=pV n H i;have kn:hM n H i<n:=by omega
    rw [aZ body,ST hx x0 l3 l4 l5 d (hM n H i) _ _ (by omega) (c.move hi kn _ _) kn (by rw [List.length_set];exact hln) (by rw [List.length_set];exact x1) (by rw [List.length_set];exact l1) (by rw [List.length_set];exact l2)]
    have e:dP n x i H W=dP n x (hM n H i) (H.set i H[hM n H i]!) (W.set (H[hM n H i]!).n (i:Int)):=by
     rw [dP,dif_pos h.1,if_pos h.2]
    rw [e]
  · rw [if_neg h] at body
    rw [aL body];have e:dP n x i H W=(i,H,W):=by
     rw [dP];split
     · rename_i h1;rw [if_neg (fun k=>h ⟨h1,k⟩)]
     · rfl
    rw [e]
theorem aBS {n:Nat} {H:List Ev} {W:List Int} {x:Ev} {u fr:List Int} {us:List Bool} {i k:Nat} (hi:i<n) (hk:k<n) (hik:k≠i) (hn:n=H.length) (x0:0<=x.ix) (x1:x.ix<W.length) (k0:0<=(H[k]!).ix) (k1:(H[k]!).ix<W.length):
 nU (u,us,fr,(i:Int),(k:Int),H.set i x,W.set x.n (i:Int))=some ((H.set i H[k]!).set k x,(W.set (H[k]!).n (i:Int)).set x.n (k:Int)):=by
 have cell: ∀w,(H.set i x)[w]! =if w=i then x else H[w]!:=by
  intro w;rw [bB]
  by_cases e:w=i
  · rw [if_pos ⟨e,by omega⟩,if_pos e]
  · rw [if_neg (fun k=>e k.1),if_neg e]
 have sh:((H.set i x).set i H[k]!).set k x=(H.set i H[k]!).set k x:=by rw [List.set_set]
 have sw:((W.set x.n (i:Int)).set (H[k]!).n (i:Int)).set x.n (k:Int)=(W.set (H[k]!).n (i:Int)).set x.n (k:Int):=by
  by_cases e:x.n=(H[k]!).n
  · simp only [e,List.set_set]
  · rw [List.set_comm _ _ (fun h=>e h),List.set_set]
 have g1:aO ((H.set i x)) (k:Int)=some H[k]!:=by rw [aE _ _ (by rw [List.length_set];omega),cell,if_neg hik]
 have g2:aO ((H.set i x)) (i:Int)=some x:=by rw [aE _ _ (by rw [List.length_set];omega),cell,if_pos rfl]
 have g3:aO (((H.set i x).set i H[k]!)) (k:Int)=some H[k]!:=by rw [aE _ _ (by rw [List.length_set,List.length_set];omega),bB,if_neg (fun h=>hik h.1),cell,if_neg hik]
 have g4:aO (((H.set i H[k]!).set k x)) (i:Int)=some H[k]!:=by rw [aE _ _ (by rw [List.length_set,List.length_set];omega),bB,if_neg (fun h=>hik h.1.symm),bB,if_pos ⟨rfl,by omega⟩]
 have g5:aO (((H.set i H[k]!).set k x)) (k:Int)=some x:=by rw [aE _ _ (by rw [List.length_set,List.length_set];omega),bB,if_pos ⟨rfl,by rw [List.length_set];omega⟩]
 have w6:=dI (l:=W.set x.n (i:Int)) k0 (by rw [List.length_set];exact k1)
 have w7:=dI (l:=(W.set x.n (i:Int)).set (H[k]!).n (i:Int)) x0 (by rw [List.length_set,List.length_set];exact x1)
 have q1: ∀(l:List Int) (a:Int) (y:Ev),bX l y.2.2.2.1 a=l.set y.n a:=fun _ _ _=>rfl
 unfold nU;simp only [lZ,g1,g2,g3,aD,sh,g4,g5,q1,w6,w7,sw,List.length_set,beq_self_eq_true,cond_true]
theorem aBT {c0:List Int×List Bool×List Int×Int×List Ev×List Int} {n:Nat} {u fr:List Int} {us:List Bool} {x:Ev} (hx:sE x) (x0:0<=x.ix):
 ∀(i:Nat) (H:List Ev) (W:List Int),nH n H W->i<n->H.length=n->x.ix<W.length->c0.2.2.2.2.1.length=H.length->c0.2.2.2.2.2.length=W.length->
  aH (gY c0) ((i:Int),H.set i x,W.set x.n (i:Int),u,us,fr)=some (((iS x i H W).1:Int),(iS x i H W).2.1.set (iS x i H W).1 x,(iS x i H W).2.2.set x.n ((iS x i H W).1:Int))
 |0,H,W,c,hi,hln,x1,l1,l2=>by
  have hnn:=c.hn;refine aL ?_;unfold gY;have e1:decide ((0:Int)<((0:Nat):Int))=false:=by simp
  rw [iS];simp only [e1,cond_false,List.length_set,l1,l2,beq_self_eq_true,cond_true]
 |i+1,H,W,c,hi,hln,x1,l1,l2=>by
  have hb:=c.hb;have hnn:=c.hn;have e1:decide ((0:Int)<((i+1:Nat):Int))=true:=decide_eq_true (by omega)
  have hp:i / 2<n:=by omega
  have hne:i / 2≠i+1:=by omega
  obtain ⟨ok1,a1,a2⟩:=c.ev (i / 2) hp;have cell: ∀w,(H.set (i+1) x)[w]! =if w=i+1 then x else H[w]!:=by
   intro w;rw [bB]
   by_cases e:w=i+1
   · rw [if_pos ⟨e,by omega⟩,if_pos e]
   · rw [if_neg (fun k=>e k.1),if_neg e]
  have g0:aO ((H.set (i+1) x)) ((i+1:Nat):Int)=some x:=by rw [aE _ _ (by rw [List.length_set];omega),cell,if_pos rfl]
  have g1:aO ((H.set (i+1) x)) ((i / 2:Nat):Int)=some H[i / 2]!:=by rw [aE _ _ (by rw [List.length_set];omega),cell,if_neg hne]
  by_cases h:dK x H[i / 2]!
  · have sw:=aBS (u:=u) (us:=us) (fr:=fr) (x:=x) hi hp hne hln.symm x0 x1 a1 a2
    have r:gY c0 (((i+1:Nat):Int),H.set (i+1) x,W.set x.n ((i+1:Nat):Int),u,us,fr)=some (.next (((i / 2:Nat):Int),(H.set (i+1) H[i / 2]!).set (i / 2) x,(W.set (H[i / 2]!).n ((i+1:Nat):Int)).set x.n ((i / 2:Nat):Int),u,us,fr)):=by
     unfold gY;simp only [e1,cond_true,uF (show i<1000000000 by omega),g0,g1,aD,oW hx ok1,h,decide_true,sw]
    rw [aZ r,aBT hx x0 (i / 2) _ _ (c.move hi hp _ _) hp (by rw [List.length_set];exact hln) (by rw [List.length_set];exact x1) (by rw [List.length_set];exact l1) (by rw [List.length_set];exact l2)]
    have e:iS x (i+1) H W=iS x (i / 2) (H.set (i+1) H[i / 2]!) (W.set (H[i / 2]!).n ((i+1:Nat):Int)):=by
     rw [iS,if_pos h]
    rw [e]
  · refine aL ?_
    unfold gY;have e:iS x (i+1) H W=(i+1,H,W):=by rw [iS,if_neg h]
    rw [e];simp only [e1,cond_true,uF (show i<1000000000 by omega),g0,g1,aD,oW hx ok1,h,decide_false,cond_false,List.length_set,l1,l2,beq_self_eq_true]
termination_by i=>i
decreasing_by omega
end Go.Proofs.YticklbjcnimggaaGreat
namespace Go.Proofs.YticklbjcnimggaaGreat
open Go.Vm Classical
theorem aM {p:Prop} [Decidable p] (h: ¬p):decide p=false:=decide_eq_false h
theorem aP {p:Prop} [Decidable p] (h:p):decide p=true:=decide_eq_true h
theorem SU (uses:List Int) (used:List Bool) (fr:List Int) (fl:List Bool) (h1:uses.length<=200) (h2:used.length=uses.length) (h3:fl.length=uses.length):
 ((∀i,i<uses.length->0<=uses[i]!/\uses[i]!<=1000000/\used[i]!≠fl[i]!/\(used[i]! =true->1<=uses[i]!))->aH kL ((uses.length:Int),0,uses,used,fr,fl)=some (.done 0))/\
 (¬(∀i,i<uses.length->0<=uses[i]!/\uses[i]!<=1000000/\used[i]!≠fl[i]!/\(used[i]! =true->1<=uses[i]!))->aH kL ((uses.length:Int),0,uses,used,fr,fl)=some (.done 8)):=by
 have key:=dA (body:=kL) (fun i=>((uses.length:Int),(i:Int),uses,used,fr,fl)) uses.length (fun i=> ¬(0<=uses[i]!/\uses[i]!<=1000000/\used[i]!≠fl[i]!/\(used[i]! =true->1<=uses[i]!))) (r:= .done 8) (e:= .done 0) (fun i hi=>by
  have e1:decide ((i:Int)<(uses.length:Int))=true:=aP (by omega)
  unfold kL;simp only [e1,cond_true,aE uses i hi,aE used i (by omega),aE fl i (by omega),aD,aX (show i<1000000000 by omega)]
  generalize uses[i]! =u;generalize used[i]! =a;generalize fl[i]! =b
  by_cases a1:u<0
  · simp only [a1,decide_true,cond_true];exact ⟨fun _=>trivial,fun h=>absurd (Classical.not_not.1 h).1 (by omega)⟩
  · by_cases a2:1000000<u
    · simp only [a1,a2,decide_true,decide_false,cond_true,cond_false];exact ⟨fun _=>trivial,fun h=>absurd (Classical.not_not.1 h).2.1 (by omega)⟩
    · simp only [a1,a2,decide_false,cond_false]
      by_cases a3:u<1
      · cases a<;>cases b<;>simp [a3]<;>omega
      · cases a<;>cases b<;>simp [a3]<;>omega) (by
  unfold kL
  have:decide ((uses.length:Int)<(uses.length:Int))=false:=aM (by omega)
  simp only [this,cond_false])
 constructor
 · intro h
   exact key.2 fun i hi=>Classical.not_not.2 (h i hi)
 · intro h
   obtain ⟨i,h⟩:=Classical.not_forall.1 h;obtain ⟨hi,hx⟩:=Classical.not_imp.1 h;exact key.1 ⟨i,hi,hx⟩
theorem aBU {α:Type} {n:Nat} (z:α) (h:n<=1048576):tJ (n:Int) z=some (List.replicate n z):=by
 unfold tJ;rw [if_pos ⟨by omega,by omega⟩]
 simp
theorem L7 (s:aR) (hf:s.free.length<=1000000):xI s=some (if eJ s then 0 else 8):=by
 obtain ⟨uses,used,fr⟩:=s;dsimp only at hf;unfold xI;simp only [aF]
 by_cases a1:uses.length<1
 · have e:decide ((uses.length:Int)<1)=true:=aP (by omega)
   rw [e,if_neg (fun h=>by have:=h.n1;dsimp only at this;omega)];rfl
 have e1:decide ((uses.length:Int)<1)=false:=aM (by omega)
 by_cases a2:200<uses.length
 · have e:decide (200<(uses.length:Int))=true:=aP (by omega)
   rw [e1,e,if_neg (fun h=>by have:=h.n2;dsimp only at this;omega)];rfl
 have e2:decide (200<(uses.length:Int))=false:=aM (by omega)
 by_cases a3:used.length=uses.length
 case neg=>
  have e:((used.length:Int) !=(uses.length:Int))=true:=dM (by omega)
  rw [e1,e2,e,if_neg (fun h=>a3 h.ul)];rfl
 have e3:((used.length:Int) !=(uses.length:Int))=false:=cQ (by omega)
 by_cases a4:uses.length<fr.length
 · have e:decide ((uses.length:Int)<(fr.length:Int))=true:=aP (by omega)
   rw [e1,e2,e3,e,if_neg (fun h=>by have:=h.fl;dsimp only at this;omega)];rfl
 have e4:decide ((uses.length:Int)<(fr.length:Int))=false:=aM (by omega)
 simp only [e1,e2,e3,e4,cond_false,beq_self_eq_true,cond_true,aBU false (show uses.length<=1048576 by omega),aD]
 have ml: ∀k,(fI (List.replicate uses.length false) (fr.take k)).length=uses.length:=fun k=>by rw [nW,List.length_replicate]
 have ml':(fI (List.replicate uses.length false) fr).length=uses.length:=by rw [nW,List.length_replicate]
 have rep: ∀i:Nat,(List.replicate uses.length false)[i]! =false:=by
  intro i
  by_cases h:i<uses.length
  · rw [getElem!_pos _ i (by simpa using h),List.getElem_replicate]
  · rw [getElem!_neg _ i (by simpa using h)];rfl
 have inner:=SU uses used fr (fI (List.replicate uses.length false) fr) (by omega) a3 ml'
 have key:=dA (body:=qS) (fun k=>((uses.length:Int),(k:Int),uses,used,fr,fI (List.replicate uses.length false) (fr.take k))) fr.length
  (fun k=>fr[k]!<0\/(uses.length:Int)<=fr[k]!\/(fI (List.replicate uses.length false) (fr.take k))[(fr[k]!).toNat]! =true) (r:=8)
  (e:=if (∀i,i<uses.length->0<=uses[i]!/\uses[i]!<=1000000/\used[i]!≠(fI (List.replicate uses.length false) fr)[i]!/\(used[i]! =true->1<=uses[i]!)) then 0 else 8) (fun k hk=>by
   have f1:decide ((k:Int)<(fr.length:Int))=true:=aP (by omega)
   have f5:fI (List.replicate uses.length false) (fr.take (k+1))=bX (fI (List.replicate uses.length false) (fr.take k)) fr[k]! true:=by rw [iR hk,E5]
   unfold qS;simp only [aF,f1,cond_true,aE fr k hk,aD,aX (show k<1000000000 by omega),f5]
   clear f5;generalize fr[k]! =x
   by_cases b1:x<0
   · simp [b1]
   · by_cases b2:(uses.length:Int)<=x
     · simp [b1,b2]
     · simp only [b1,b2,decide_false,cond_false,false_or]
       rw [dI (l:=fI (List.replicate uses.length false) (fr.take k)) (i:=x) (by omega) (by rw [ml];omega)]
       simp only [aD];cases (fI (List.replicate uses.length false) (fr.take k))[x.toNat]!<;>simp) (by
   have f1:decide ((fr.length:Int)<(fr.length:Int))=false:=aM (by omega)
   unfold qS;simp only [aF,f1,cond_false,List.take_length]
   by_cases hx:(∀i,i<uses.length->0<=uses[i]!/\uses[i]!<=1000000/\used[i]!≠(fI (List.replicate uses.length false) fr)[i]!/\(used[i]! =true->1<=uses[i]!))
   · rw [if_pos hx];exact inner.1 hx
   · rw [if_neg hx];exact inner.2 hx)
 have h0:fI (List.replicate uses.length false) (fr.take 0)=List.replicate uses.length false:=rfl;rw [show ((0:Nat):Int)=0 from rfl,h0] at key
 by_cases bad: ∃k,k<fr.length/\(fr[k]!<0\/(uses.length:Int)<=fr[k]!\/(fI (List.replicate uses.length false) (fr.take k))[(fr[k]!).toNat]! =true)
 · rw [key.1 bad,if_neg]
   intro ok;obtain ⟨k,hk,hb⟩:=bad;have hr:=ok.fr fr[k]! (bF hk);dsimp only at hr;rcases hb with hb|hb|hb
   · omega
   · omega
   · rw [pU _ _ _ (fun x hx=>(ok.fr x (List.mem_of_mem_take hx)).1) (by rw [List.length_replicate];omega),rep,Bool.false_or] at hb
     have hi:((fr[k]!).toNat:Int)=fr[k]!:=by omega
     rw [hi] at hb;have hm:fr[k]!∈fr.take k:=of_decide_eq_true hb;obtain ⟨j,h1,h2,h3⟩:=cJ.1 hm;exact lQ.1 ok.fd j k h1 hk h3
 · have good: ∀k,k<fr.length->0<=fr[k]!/\fr[k]!<uses.length/\(fI (List.replicate uses.length false) (fr.take k))[(fr[k]!).toNat]! =false:=by
    intro k hk;refine ⟨?_,?_,?_⟩
    · exact Int.not_lt.1 fun h=>bad ⟨k,hk,.inl h⟩
    · exact Int.not_le.1 fun h=>bad ⟨k,hk,.inr (.inl h)⟩
    · exact Bool.not_eq_true _▸fun h=>bad ⟨k,hk,.inr (.inr h)⟩
   rw [key.2 fun k hk hb=>bad ⟨k,hk,hb⟩]
   have rng: ∀x∈fr,0<=x/\x<(uses.length:Int):=by
    intro x hx;obtain ⟨k,hk,rfl⟩:=bD.1 hx;exact ⟨(good k hk).1,(good k hk).2.1⟩
   have g2: ∀k,k<fr.length->fr[k]!∉fr.take k:=by
    intro k hk;obtain ⟨c1,c2,c3⟩:=good k hk;rw [pU _ _ _ (fun x hx=>(rng x (List.mem_of_mem_take hx)).1) (by rw [List.length_replicate];omega),show ((fr[k]!).toNat:Int)=fr[k]! by omega,rep,Bool.false_or] at c3
    exact of_decide_eq_false c3
   have nd:fr.Nodup:=lQ.2 fun i j hij hj he=>g2 j hj (cJ.2 ⟨i,hij,by omega,he⟩)
   have fl: ∀i,i<uses.length->(fI (List.replicate uses.length false) fr)[i]! =decide ((i:Int)∈fr):=by
    intro i hi;rw [pU _ _ _ (fun x hx=>(rng x hx).1) (by rw [List.length_replicate];omega),rep,Bool.false_or]
   by_cases hx:(∀i,i<uses.length->0<=uses[i]!/\uses[i]!<=1000000/\used[i]!≠(fI (List.replicate uses.length false) fr)[i]!/\(used[i]! =true->1<=uses[i]!))
   · rw [if_pos hx,if_pos]
     refine ⟨by show 1<=uses.length;omega,by show uses.length<=200;omega,a3,rng,nd,fun i hi=>?_,fun i hi=>?_⟩
     · have:=(hx i hi).2.2.1
       rw [fl i hi] at this;dsimp only;cases h:used[i]! with
       |true=>
        rw [h] at this;refine ⟨fun _ hm=>?_,fun _=>rfl⟩
        rw [aP hm] at this;exact this rfl
       |false=>
        rw [h] at this;refine ⟨fun h=>(by cases h),fun hm=>?_⟩
        rw [aM hm] at this;exact absurd rfl this
     · have:=hx i hi
       exact ⟨this.1,this.2.1,this.2.2.2⟩
   · rw [if_neg hx,if_neg]
     intro ok;refine hx fun i hi=>?_
     obtain ⟨u1,u2,u3⟩:=ok.us i hi;refine ⟨u1,u2,?_,u3⟩;rw [fl i hi]
     have:=ok.uf i hi
     dsimp only at this;intro he
     by_cases hm:(i:Int)∈fr
     · rw [aP hm] at he;exact (this.1 he) hm
     · rw [aM hm] at he
       have:=this.2 hm
       rw [he] at this;cases this
end Go.Proofs.YticklbjcnimggaaGreat
namespace Go.Proofs.YticklbjcnimggaaGreat
open Go.Vm Classical
structure CP (a:aI):Prop where
 fr:a.slots.free.length<=1000000
 hp:a.heap.length<=1000000
 wh:a.where_.length<=1000000
 at64: ∀w,w<a.heap.length->oA ((a.heap[w]!).1,(a.heap[w]!).2.1)
structure eN (a:aI):Prop where
 so:eJ a.slots
 wl:a.where_.length=a.slots.uses.length
 hl:a.heap.length+a.slots.free.length=a.slots.uses.length
 fwd: ∀i,i<a.slots.uses.length->a.slots.used[i]! =true->0<=a.where_[i]!/\a.where_[i]!<a.heap.length/\(Ev.ix a.heap[(a.where_[i]!).toNat]!)=i/\(a.heap[(a.where_[i]!).toNat]!).2.2.2.2=a.slots.uses[i]!
 un: ∀i,i<a.slots.uses.length->a.slots.used[i]! =false->a.where_[i]! = -1
 ev: ∀w,w<a.heap.length->sE a.heap[w]!
 nd: ∀v w,v<w->w<a.heap.length->(Ev.num a.heap[v]!)≠(Ev.num a.heap[w]!)
 ord: ∀k,0<k->k<a.heap.length-> ¬dK a.heap[k]! a.heap[(k-1) / 2]!
theorem aIV: ∀(n:Nat) (l:List Nat),(∀x,x<n->x∈l)->n<=l.length
 |0,_,_=>Nat.zero_le _
 |n+1,l,h=>by
  have hn:=h n (by omega)
  have:=aIV n (l.erase n) (fun x hx=>by
   rw [List.mem_erase_of_ne (by omega)]
   exact h x (by omega))
  rw [List.length_erase_of_mem hn] at this
  have:=List.length_pos_of_mem hn
  omega
def N0 (s:aR):List Nat:=(List.range s.uses.length).filter fun i=>s.used[i]!
theorem DM {s:aR} {i:Nat}:i∈N0 s↔i<s.uses.length/\s.used[i]! =true:=by
 unfold N0;rw [List.mem_filter,List.mem_range]
theorem DN {α β:Type} {f:α->β}: ∀{l:List α},l.Nodup->(∀x∈l,∀y∈l,f x=f y->x=y)->(l.map f).Nodup
 | [],_,_=>by simp
 |a::l,h,hf=>by
  rw [List.nodup_cons] at h;rw [List.map_cons,List.nodup_cons];refine ⟨?_,DN h.2 fun x hx y hy=>hf x (by simp [hx]) y (by simp [hy])⟩
  intro hm;obtain ⟨b,hb,e⟩:=List.mem_map.1 hm
  have:=hf b (by simp [hb]) a (by simp) e
  subst this;exact h.1 hb
theorem eN.back {a:aI} (ok:eN a) {w:Nat} (hw:w<a.heap.length):0<=(Ev.ix a.heap[w]!)/\(Ev.ix a.heap[w]!)<a.slots.uses.length/\a.slots.used[(Ev.n a.heap[w]!)]! =true/\a.slots.uses[(Ev.n a.heap[w]!)]! =(a.heap[w]!).2.2.2.2/\a.where_[(Ev.n a.heap[w]!)]! =(w:Int):=by
 have so:=ok.so;have len:a.slots.uses.length<=(N0 a.slots).length+a.slots.free.length:=by
  have:=aIV a.slots.uses.length (N0 a.slots++a.slots.free.map Int.toNat) (fun x hx=>by
   rw [List.mem_append]
   by_cases hu:a.slots.used[x]! =true
   · exact .inl (DM.2 ⟨hx,hu⟩)
   · right
     have:=so.uf x hx
     have hm:(x:Int)∈a.slots.free:=Classical.byContradiction fun hc=>hu (this.2 hc)
     exact List.mem_map.2 ⟨_,hm,by omega⟩)
  rw [List.length_append,List.length_map] at this;exact this
 have f0: ∀i∈N0 a.slots,0<=a.where_[i]!/\a.where_[i]!<a.heap.length/\(Ev.ix a.heap[(a.where_[i]!).toNat]!)=i/\(a.heap[(a.where_[i]!).toNat]!).2.2.2.2=a.slots.uses[i]!:=fun i hi=>ok.fwd i (DM.1 hi).1 (DM.1 hi).2
 have full:=IW (n:=a.heap.length) (l:=(N0 a.slots).map fun i=>(a.where_[i]!).toNat) (by
  refine DN ?_ ?_
  · exact List.Pairwise.filter _ List.nodup_range
  · intro x hx y hy he
    have h1:=(f0 x hx).2.2.1;have h2:=(f0 y hy).2.2.1;rw [he] at h1
    omega) (by
  intro x hx;obtain ⟨i,hi,rfl⟩:=List.mem_map.1 hx
  have:=f0 i hi
  omega) (by
  rw [List.length_map]
  have:=ok.hl
  omega) w hw
 obtain ⟨i,hi,e⟩:=List.mem_map.1 full;obtain ⟨c1,c2,c3,c4⟩:=f0 i hi;obtain ⟨d1,d2⟩:=DM.1 hi;rw [e] at c3 c4;have hn:(Ev.n a.heap[w]!)=i:=by show ((Ev.ix a.heap[w]!)).toNat=i;omega
 rw [hn];refine ⟨by omega,by omega,d2,c4.symm,by omega⟩
noncomputable def VN (x y:Ev):Int:=if bU (x.1,x.2.1)/\bU (y.1,y.2.1) then L2 x y else jW x.2.2.1 y.2.2.1
theorem E7 {x y:Ev} (hx:oA (x.1,x.2.1)) (hy:oA (y.1,y.2.1)):cC x y=some (VN x y):=by
 unfold cC VN L2;rw [aBJ hx hy]
 by_cases h:bU (x.1,x.2.1)/\bU (y.1,y.2.1)
 · rw [if_pos h,if_pos h]
   simp only [aD,kT,DI]
 · rw [if_neg h,if_neg h]
   simp only [aD,kT,DI];simp
def L8 (a:aI) (i:Nat):Prop:=(a.slots.used[i]! =true->0<=a.where_[i]!/\a.where_[i]!<a.heap.length/\(Ev.ix a.heap[(a.where_[i]!).toNat]!)=i/\(a.heap[(a.where_[i]!).toNat]!).2.2.2.2=a.slots.uses[i]!)/\(a.slots.used[i]! =false->a.where_[i]! = -1)
def M0 (H:List Ev) (k:Nat):Prop:=bU ((H[k]!).1,(H[k]!).2.1)/\0<=(H[k]!).2.2.1/\(H[k]!).2.2.1<=1000000/\(∀j,j<k->(H[j]!).2.2.1≠(H[k]!).2.2.1)/\(0<k-> ¬VN H[k]! H[(k-1) / 2]!<0)
theorem eN.of {a:aI} (fit:CP a) (so:eJ a.slots) (wl:a.where_.length=a.slots.uses.length) (hl:a.heap.length+a.slots.free.length=a.slots.uses.length) (wh: ∀i,i<a.slots.uses.length->L8 a i) (hp: ∀k,k<a.heap.length->M0 a.heap k):eN a:=by
 have ev: ∀w,w<a.heap.length->sE a.heap[w]!:=fun w hw=>⟨(hp w hw).1,fit.at64 w hw,(hp w hw).2.1,(hp w hw).2.2.1⟩
 refine ⟨so,wl,hl,fun i hi=>(wh i hi).1,fun i hi=>(wh i hi).2,ev,fun v w hv hw=>(hp w hw).2.2.2.1 v hv,fun k k0 hk=>?_⟩
 have:=(hp k hk).2.2.2.2 k0
 unfold VN at this;rw [if_pos ⟨(hp k hk).1,(hp ((k-1) / 2) (by omega)).1⟩,GK] at this
 exact this
theorem eN.to {a:aI} (ok:eN a):(∀i,i<a.slots.uses.length->L8 a i)/\(∀k,k<a.heap.length->M0 a.heap k):=by
 refine ⟨fun i hi=>⟨ok.fwd i hi,ok.un i hi⟩,fun k hk=>?_⟩
 have e:=ok.ev k hk;refine ⟨e.1,e.2.2.1,e.2.2.2,fun j hj=>ok.nd j k hj hk,fun k0=>?_⟩
 unfold VN;rw [if_pos ⟨e.1,(ok.ev ((k-1) / 2) (by omega)).1⟩,GK]
 exact ok.ord k k0 hk
theorem N3 (H:List Ev) (k:Nat) (n:Int):qC [n] ((H.take k).map fun x=>[x.2.2.1])=true:=by
 unfold qC;rw [List.all_eq_true];intro x hx;obtain ⟨y,hy,rfl⟩:=List.mem_map.1 hx;rfl
theorem N4 (H:List Ev) (k:Nat) (n:Int):JA ((H.take k).map fun x=>[x.2.2.1]) [n]=decide (∃j,j<k/\j<H.length/\(H[j]!).2.2.1=n):=by
 unfold JA;rw [Bool.eq_iff_iff,List.any_eq_true,decide_eq_true_iff];constructor
 · rintro ⟨x,hx,he⟩
   obtain ⟨y,hy,rfl⟩:=List.mem_map.1 hx;obtain ⟨j,h1,h2,rfl⟩:=cJ.1 hy
   have:[n]=[(H[j]!).2.2.1]:=by simpa using he
   exact ⟨j,h1,h2,by injection this with h;exact h.symm⟩
 · rintro ⟨j,h1,h2,h3⟩
   refine ⟨[(H[j]!).2.2.1],List.mem_map.2 ⟨H[j]!,cJ.2 ⟨j,h1,h2,rfl⟩,rfl⟩,?_⟩;rw [h3];simp
theorem PZ (H:List Ev) (u fr W:List Int) (us:List Bool) (hl:H.length<=1000000) (r64: ∀w,w<H.length->oA ((H[w]!).1,(H[w]!).2.1)):
 ((∀k,k<H.length->M0 H k)->aH iZ (H,(H.length:Int),0,u,us,fr,H,W,[])=some (.done 0))/\(¬(∀k,k<H.length->M0 H k)->aH iZ (H,(H.length:Int),0,u,us,fr,H,W,[])=some (.done 8)):=by
 have key:=dA (body:=iZ) (fun k=>(H,(H.length:Int),(k:Int),u,us,fr,H,W,(H.take k).map fun x=>[x.2.2.1])) H.length (fun k=> ¬M0 H k) (r:= .done 8) (e:= .done 0) (fun k hk=>by
  have e1:decide ((k:Int)<(H.length:Int))=true:=aP (by omega)
  have ins: ∀n:Int,¬(∃j,j<k/\j<H.length/\(H[j]!).2.2.1=n)->Q9 ((H.take k).map fun x=>[x.2.2.1]) [n]=some (((H.take k).map fun x=>[x.2.2.1])++[[n]]):=by
   intro n hn;unfold Q9 T5;rw [N3,N4,aM hn];rfl
  have has: ∀n:Int,Q8 ((H.take k).map fun x=>[x.2.2.1]) [n]=some (decide (∃j,j<k/\j<H.length/\(H[j]!).2.2.1=n)):=by
   intro n;unfold Q8;rw [N3,N4];rfl
  have nx:(H.take (k+1)).map (fun x=>[x.2.2.1])=((H.take k).map fun x=>[x.2.2.1])++[[(H[k]!).2.2.1]]:=by
   rw [iR hk,List.map_append];rfl
  unfold iZ;simp only [e1,cond_true,aE H k hk,aD,eZ (r64 k hk),aX (show k<1000000000 by omega),has,nx]
  unfold M0
  by_cases b1:bU ((H[k]!).1,(H[k]!).2.1)
  case neg=>
   rw [if_neg b1];exact ⟨fun _=>rfl,fun h=>absurd (Classical.not_not.1 h).1 b1⟩
  rw [if_pos b1]
  by_cases b2:(H[k]!).2.2.1<0
  · rw [aP b2]
    exact ⟨fun _=>rfl,fun h=>absurd (Classical.not_not.1 h).2.1 (by omega)⟩
  by_cases b3:1000000<(H[k]!).2.2.1
  · rw [aM b2,aP b3]
    exact ⟨fun _=>rfl,fun h=>absurd (Classical.not_not.1 h).2.2.1 (by omega)⟩
  rw [aM b2,aM b3]
  by_cases b4: ∃j,j<k/\j<H.length/\(H[j]!).2.2.1=(H[k]!).2.2.1
  · rw [aP b4]
    refine ⟨fun _=>rfl,fun h=>?_⟩
    obtain ⟨j,j1,j2,j3⟩:=b4;exact absurd j3 ((Classical.not_not.1 h).2.2.2.1 j j1)
  rw [aM b4,ins _ b4];have b4': ∀j,j<k->(H[j]!).2.2.1≠(H[k]!).2.2.1:=fun j hj he=>b4 ⟨j,hj,by omega,he⟩
  simp only [show ((0:Int) !=0)=false from rfl,cond_false,aD]
  by_cases b5:0<k
  · obtain ⟨m,rfl⟩: ∃m,k=m+1:=⟨k-1,by omega⟩
    have f1:decide ((0:Int)<((m+1:Nat):Int))=true:=aP (by omega)
    simp only [f1,cond_true,uF (show m<1000000000 by omega),aE H (m / 2) (by omega),aD,E7 (r64 (m+1) hk) (r64 (m / 2) (by omega)),show (m+1-1) / 2=m / 2 by omega]
    by_cases b6:VN H[m+1]! H[m / 2]!<0
    · rw [aP b6]
      exact ⟨fun _=>rfl,fun h=>absurd b6 ((Classical.not_not.1 h).2.2.2.2 (by omega))⟩
    · rw [aM b6]
      exact ⟨fun h=>absurd ⟨b1,by omega,by omega,b4',fun _=>b6⟩ h,fun _=>rfl⟩
  · have f1:decide ((0:Int)<(k:Int))=false:=aM (by omega)
    rw [f1];exact ⟨fun h=>absurd ⟨b1,by omega,by omega,b4',fun h=>absurd h b5⟩ h,fun _=>rfl⟩) (by
  unfold iZ
  have:decide ((H.length:Int)<(H.length:Int))=false:=aM (by omega)
  simp only [this,cond_false])
 constructor
 · intro h
   exact key.2 fun i hi=>Classical.not_not.2 (h i hi)
 · intro h
   obtain ⟨i,h⟩:=Classical.not_forall.1 h;obtain ⟨hi,hx⟩:=Classical.not_imp.1 h;exact key.1 ⟨i,hi,hx⟩
end Go.Proofs.YticklbjcnimggaaGreat
