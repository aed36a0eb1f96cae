/- Plain laws (1). -/
import Derived.Test.YtfejhjllooomlaaGreatDVm2
import Derived.Test.YtfejhjllooomlaaGreatDVm1
import Derived.Test.YtfejhjllooomlaaGreatDQS2
namespace Go.Vm
instance lpN:LP:=⟨none⟩
section
variable {σ ρ : Type}
theorem DZ {body:σ->Option (cE σ ρ)} {x:σ} {r:ρ}:aI body x=some r↔ ∃n,vB body n x=some r:=KQ
theorem aU {body:σ->Option (cE σ ρ)} {x y:σ} (h:body x=some (.next y)):aI body x=aI body y:=by
 apply Option.ext;intro r;rw [DZ,DZ];constructor
 · rintro ⟨n,hn⟩
   cases n with
   |zero=>cases hn
   |succ n=>simp only [vB,h] at hn;exact ⟨n,hn⟩
 · rintro ⟨n,hn⟩
   exact ⟨n+1,by simp only [vB,h];exact hn⟩
theorem aJ {body:σ->Option (cE σ ρ)} {x:σ} {r:ρ} (h:body x=some (.done r)):aI body x=some r:=
 DZ.2 ⟨1,by simp only [vB,h]⟩
end
end Go.Vm
namespace Go.Proofs.YtfejhjllooomlaaGreat
open Go.Vm
noncomputable def jP (s:(Int×Int×(List (Int×Int×Int))×(List (Int×Int×Int)))):Option (cE (Int×Int×(List (Int×Int×Int))×(List (Int×Int×Int))) Field):=
 bif decide (s.2.1<(Int.ofNat s.2.2.1.length)) then
  (aH s.2.2.1 s.2.1).bind fun a0=>
  bif a0.1 !=s.1 then
   (aH s.2.2.1 s.2.1).bind fun a1=>
   (cB s.2.2.2 [a1]).bind fun l2=>
   some (.next (s.1,aA .i64 (s.2.1+1),s.2.2.1,l2))
  else
   some (.next (s.1,aA .i64 (s.2.1+1),s.2.2))
 else
  some (.done (Field.mk s.2.2.2))
noncomputable def FY (p0:Field) (p1:Int):Option Field:=
 aI jP (p1,0,p0.points,[])
noncomputable def CA (p0:Field) (p1:Int):Option (Field×Int):=
 (jL p0).bind fun n0=>
 bif n0 !=0 then
  some (Field.mk [],n0)
 else
  (fO p0 p1).bind fun n1=>
  bif decide (n1<0) then
   some (Field.mk [],6)
  else
   (FY p0 p1).bind fun r2=>
   some (r2,0)
structure aV7 where
 root:Int
 nodes:List (Int×Int×Int)
structure SY where
 clock:aR
 tree:aV7
abbrev CB (n:Int):Prop:= -9223372036854775808<=n/\n<9223372036854775808
abbrev U64 (n:Int):Prop:=0<=n/\n<18446744073709551616
theorem wi (n:Int):aA .i64 n=(n+9223372036854775808)%18446744073709551616-9223372036854775808:=by
 rw [xL];simp only [IntKind.wrap,IntKind.bits,IntKind.signed,Bool.true_and];have e1:(2:Int)^64=18446744073709551616:=by decide
 have e2:(2:Int)^(64-1)=9223372036854775808:=by decide
 simp only [e1,e2,decide_eq_true_eq];split<;>omega
theorem wu (n:Int):aA .u64 n=n%18446744073709551616:=by
 rw [xL];simp only [IntKind.wrap,IntKind.bits,IntKind.signed,Bool.false_and];have e1:(2:Int)^64=18446744073709551616:=by decide
 simp only [e1];simp
theorem fT {n:Int} (h:CB n):aA .i64 n=n:=by rw [wi];omega
theorem fI {a b:Int} (h:a≠b):(a !=b)=true:=by simpa using h
theorem cL {a b:Int} (h:a=b):(a !=b)=false:=by simpa using h
theorem eZ {a b:Int} (h:a=b):(a==b)=true:=by simpa using h
theorem eM {a b:Int} (h:a≠b):(a==b)=false:=by simpa using h
theorem aAv (a b:Int):(a==b)=decide (a=b):=by
 by_cases h:a=b
 · rw [eZ h,decide_eq_true h]
 · rw [eM h,decide_eq_false h]
theorem lt_or_ge (a b:Int):a<b\/b<=a:=by omega
theorem aRg (a:Int):jM .u64 a 32=a / 4294967296:=by
 unfold jM;rw [show (min (32:Int).toNat (IntKind.bits .u64))=32 from by decide,show (2:Int)^32=4294967296 from by decide]
 exact Int.fdiv_eq_ediv_of_nonneg _ (by decide)
theorem YI {a:Int} (h:U64 a):LL .u64 a 4294967295=a%4294967296:=by
 obtain ⟨n,rfl⟩:=Int.eq_ofNat_of_zero_le h.1;unfold LL;have e:(BitVec.ofInt (IntKind.bits .u64) (n:Int)&&&BitVec.ofInt (IntKind.bits .u64) 4294967295).toNat=n%4294967296:=by
  rw [BitVec.toNat_and];have e1:(BitVec.ofInt (IntKind.bits .u64) (n:Int)).toNat=n:=by
   rw [BitVec.toNat_ofInt]
   have:((2^(IntKind.bits .u64):Nat):Int)=18446744073709551616:=by decide
   rw [this];omega
  have e2:(BitVec.ofInt (IntKind.bits .u64) (4294967295:Int)).toNat=2^32-1:=by decide
  rw [e1,e2,Nat.and_two_pow_sub_one_eq_mod]
 rw [e]
 have:=wu ((n%4294967296:Nat):Int)
 rw [xL] at this;rw [this];omega
theorem aKV {a b:Nat} (ha:a<1000000000) (hb:b<1000000000):aA .i64 (jM .u64 (aA .u64 (aA .i64 ((a:Int)+(b:Int)))) 1)=(((a+b) / 2:Nat):Int):=by
 unfold jM;rw [show (min (1:Int).toNat (IntKind.bits .u64))=1 from by decide,show (2:Int)^1=2 from by decide,Int.fdiv_eq_ediv_of_nonneg _ (by decide),wi (_+_),wu,wi]
 omega
section
variable {σ ρ : Type} {body : σ -> Option (cE σ ρ)}
theorem eU (st:Nat->σ) (n:Nat) (h: ∀i,i<n->body (st i)=some (.next (st (i+1)))):aI body (st 0)=aI body (st n):=by
 induction n with
 |zero=>rfl
 |succ n ih=>
  rw [ih fun i hi=>h i (by omega)]
  exact aU (h n (by omega))
theorem dP (st:Nat->σ) (n:Nat) (c:Nat->Prop) {r e:ρ} (h: ∀i,i<n->(c i->body (st i)=some (.done r))/\(¬c i->body (st i)=some (.next (st (i+1)))))
 (hend:body (st n)=some (.done e)):((∃i,i<n/\c i)->aI body (st 0)=some r)/\((∀i,i<n-> ¬c i)->aI body (st 0)=some e):=by
 constructor
 · rintro ⟨i,hi,hc⟩
   have key: ∀k,k<=n->(∃i,i<n/\n-k<=i/\c i)->aI body (st (n-k))=some r:=by
    intro k
    induction k with
    |zero=>rintro _ ⟨i,h1,h2,_⟩;omega
    |succ k ih=>
     rintro hk ⟨i,h1,h2,h3⟩
     by_cases hc:c (n- (k+1))
     · exact aJ ((h _ (by omega)).1 hc)
     · rw [aU ((h _ (by omega)).2 hc),show n- (k+1)+1=n-k by omega]
       refine ih (by omega) ⟨i,h1,?_,h3⟩
       by_cases he:i=n- (k+1)
       · subst he;exact absurd h3 hc
       · omega
   have:=key n (Nat.le_refl n) ⟨i,hi,by omega,hc⟩
   rwa [Nat.sub_self] at this
 · intro hn
   rw [eU st n fun i hi=>(h i hi).2 (hn i hi)]
   exact aJ hend
theorem D0 {c:Nat->Prop}: ∀{n:Nat},(∃i,i<n/\c i)-> ∃k,k<n/\c k/\ ∀j,j<k-> ¬c j
 |0,h=>by obtain ⟨i,hi,_⟩:=h;omega
 |n+1,h=>by
  by_cases hx: ∃i,i<n/\c i
  · obtain ⟨k,h1,h2,h3⟩:=D0 hx
    exact ⟨k,by omega,h2,h3⟩
  · obtain ⟨i,hi,hc⟩:=h
    refine ⟨i,hi,hc,fun j hj hcj=>hx ⟨j,by omega,hcj⟩⟩
theorem mX (st:Nat->σ) (n:Nat) (c:Nat->Prop) (r:Nat->ρ) {e:ρ} (h: ∀i,i<n->(c i->body (st i)=some (.done (r i)))/\(¬c i->body (st i)=some (.next (st (i+1)))))
 (hend:body (st n)=some (.done e)):(∀k,k<n->c k->(∀j,j<k-> ¬c j)->aI body (st 0)=some (r k))/\((∀i,i<n-> ¬c i)->aI body (st 0)=some e):=by
 constructor
 · intro k hk hc hj
   rw [eU st k fun i hi=>(h i (by omega)).2 (hj i hi)]
   exact aJ ((h k hk).1 hc)
 · intro hn
   rw [eU st n fun i hi=>(h i hi).2 (hn i hi)]
   exact aJ hend
theorem J6 (st:Nat->Nat->σ) (n m:Nat) (c:Nat->Prop)
 (h: ∀lo hi,lo<hi->hi<=n->(c ((lo+hi) / 2)->body (st lo hi)=some (.next (st ((lo+hi) / 2+1) hi)))/\(¬c ((lo+hi) / 2)->body (st lo hi)=some (.next (st lo ((lo+hi) / 2)))))
 (h1: ∀i,i<m->c i) (h2: ∀i,m<=i->i<n-> ¬c i): ∀d lo hi,hi-lo<=d->lo<=m->m<=hi->hi<=n->aI body (st lo hi)=aI body (st m m)
 |0,lo,hi,hd,a,b,_=>by
  have e1:lo=m:=by omega
  have e2:hi=m:=by omega
  rw [e1,e2]
 |d+1,lo,hi,hd,a,b,e=>by
  by_cases hl:lo<hi
  · by_cases hc:c ((lo+hi) / 2)
    · rw [aU ((h lo hi hl e).1 hc)]
      refine J6 st n m c h h1 h2 d _ _ (by omega) ?_ b e
      refine Classical.byContradiction fun hx=>?_
      exact h2 ((lo+hi) / 2) (by omega) (by omega) hc
    · rw [aU ((h lo hi hl e).2 hc)]
      refine J6 st n m c h h1 h2 d _ _ (by omega) a ?_ (by omega)
      refine Classical.byContradiction fun hx=>?_
      exact hc (h1 ((lo+hi) / 2) (by omega))
  · have e1:lo=m:=by omega
    have e2:hi=m:=by omega
    rw [e1,e2]
end
section
variable {α : Type} [Inhabited α]
theorem aB (l:List α) (n:Nat) (h:n<l.length):aH l (n:Int)=some l[n]!:=by
 show l[n]? =some l[n]!;rw [List.getElem?_eq_getElem h,getElem!_pos l n h]
theorem eI {l:List α} {i:Int} (h0:0<=i) (h:i<l.length):aH l i=some l[i.toNat]!:=by
 obtain ⟨n,rfl⟩:=Int.eq_ofNat_of_zero_le h0;exact aB l n (by omega)
theorem eO {β:Type} (l:List β) (n:Nat) (a:β):bN l (n:Int) a=l.set n a:=rfl
theorem bG (l:List α) (n m:Nat) (a:α):(l.set n a)[m]! =if m=n/\n<l.length then a else l[m]!:=by
 by_cases hm:m<l.length
 · rw [getElem!_pos (l.set n a) m (by simpa using hm),getElem!_pos l m hm,List.getElem_set]
   split
   · rw [if_pos (by omega)]
   · rw [if_neg (by omega)]
 · rw [getElem!_neg (l.set n a) m (by simpa using hm),getElem!_neg l m hm]
   split
   · omega
   · rfl
theorem aW {l:List α} {x:α}:x∈l↔ ∃i,i<l.length/\l[i]! =x:=by
 rw [List.mem_iff_getElem];constructor
 · rintro ⟨i,h,rfl⟩;exact ⟨i,h,getElem!_pos l i h⟩
 · rintro ⟨i,h,rfl⟩;exact ⟨i,h,(getElem!_pos l i h).symm⟩
theorem aQ {l:List α} {i:Nat} (h:i<l.length):l[i]!∈l:=aW.2 ⟨i,h,rfl⟩
theorem lK {l m:List α} {i:Nat} (h:i<l.length):(l++m)[i]! =l[i]!:=by
 rw [getElem!_pos (l++m) i (by simp;omega),getElem!_pos l i h,List.getElem_append_left h]
theorem mJ {l m:List α} {i:Nat} (h:l.length<=i):(l++m)[i]! =m[i-l.length]!:=by
 by_cases hi:i<l.length+m.length
 · rw [getElem!_pos (l++m) i (by simp;omega),getElem!_pos m (i-l.length) (by omega),List.getElem_append_right h]
 · rw [getElem!_neg (l++m) i (by simp;omega),getElem!_neg m (i-l.length) (by omega)]
theorem nZ {l:List α} {n i:Nat} (h:i<n):(l.take n)[i]! =l[i]!:=by
 by_cases hi:i<l.length
 · rw [getElem!_pos (l.take n) i (by simp;omega),getElem!_pos l i hi,List.getElem_take]
 · rw [getElem!_neg (l.take n) i (by simp;omega),getElem!_neg l i hi]
theorem xG {l:List α} {n i:Nat}:(l.drop n)[i]! =l[n+i]!:=by
 by_cases hi:n+i<l.length
 · rw [getElem!_pos (l.drop n) i (by simp;omega),getElem!_pos l (n+i) hi,List.getElem_drop]
 · rw [getElem!_neg (l.drop n) i (by simp;omega),getElem!_neg l (n+i) hi]
theorem IQ {l m:List α} (hl:l.length=m.length) (h: ∀i,i<l.length->l[i]! =m[i]!):l=m:=by
 apply List.ext_getElem hl;intro i h1 h2
 have:=h i h1
 rwa [getElem!_pos l i h1,getElem!_pos m i h2] at this
theorem VT {l:List α} {i:Nat} (h:i<l.length):l=l.take i++l[i]!::l.drop (i+1):=by
 rw [getElem!_pos l i h,List.getElem_cons_drop,List.take_append_drop]
end
theorem bE {α:Type} {l:List α} (h:l.length<=1048576):bX l=some l:=by unfold bX;rw [if_pos h]
theorem gG {α:Type} {l m:List α} (h:l.length+m.length<=1048576):cB l m=some (l++m):=by unfold cB;rw [if_pos h]
@[simp] theorem aD {α β:Type} (a:α) (f:α->Option β):(some a).bind f=f a:=rfl
end Go.Proofs.YtfejhjllooomlaaGreat
namespace Go.Proofs.YtfejhjllooomlaaGreat
open Go.Vm Classical
structure SOA {α:Type} (P:α->α->Prop) (S:α->Prop):Prop where
 irr: ∀a,S a-> ¬P a a
 tr: ∀a b c,S a->S b->S c->P a b->P b c->P a c
 ntr: ∀a b c,S a->S b->S c-> ¬P a b-> ¬P b c-> ¬P a c
theorem SOA.asym {α:Type} {P:α->α->Prop} {S:α->Prop} (o:SOA P S) {a b:α} (ha:S a) (hb:S b) (h:P a b): ¬P b a:=fun k=>o.irr a ha (o.tr a b a ha hb ha h k)
section
variable {α : Type} [Inhabited α] {P : α -> α -> Prop} {S : α -> Prop}
def IR (l:List α) (i j:Nat):List α:=(l.set i l[j]!).set j l[i]!
theorem J7 (l:List α) (i j:Nat):(IR l i j).length=l.length:=by
 unfold IR;rw [List.length_set,List.length_set]
theorem CC (l:List α) {i j:Nat} (hi:i<l.length) (hj:j<l.length) (k:Nat):(IR l i j)[k]! =if k=j then l[i]! else if k=i then l[j]! else l[k]!:=by
 unfold IR;rw [bG,List.length_set,bG]
 by_cases c:k=j
 · rw [if_pos ⟨c,hj⟩,if_pos c]
 · rw [if_neg (fun h=>c h.1),if_neg c]
   by_cases d:k=i
   · rw [if_pos ⟨d,hi⟩,if_pos d]
   · rw [if_neg (fun h=>d h.1),if_neg d]
theorem G0 {l:List α} {i j:Nat} (hi:i<l.length) (hj:j<l.length):(IR l i j).Perm l:=by
 unfold IR;rw [getElem!_pos l j hj,getElem!_pos l i hi];exact List.set_set_perm hi hj
noncomputable def PH (P:α->α->Prop):Nat->List α->List α
 |0,l=>l
 |j+1,l=>if P l[j+1]! l[j]! then PH P j (IR l (j+1) j) else l
theorem QN (P:α->α->Prop): ∀(j:Nat) (l:List α),j<l.length->(PH P j l).Perm l
 |0,l,_=>List.Perm.refl _
 |j+1,l,h=>by
  unfold PH;split
  · exact (QN P j _ (by rw [J7];omega)).trans (G0 h (by omega))
  · exact List.Perm.refl _
def J8 (P:α->α->Prop) (l:List α) (n:Nat):Prop:= ∀a b,a<b->b<n-> ¬P l[b]! l[a]!
structure aRh (P:α->α->Prop) (l:List α) (i j:Nat):Prop where
 lt:j<=i
 le:i<l.length
 el: ∀a b,a<b->b<=i->a≠j->b≠j-> ¬P l[b]! l[a]!
 up: ∀b,j<b->b<=i-> ¬P l[b]! l[j]!
theorem aDE (o:SOA P S): ∀(j i:Nat) (l:List α),(∀x∈l,S x)->aRh P l i j->J8 P (PH P j l) (i+1):=by
 intro j
 induction j with
 |zero=>
  intro i l _ v a b h1 h2
  by_cases c:a=0
  · subst c;exact v.up b h1 (by omega)
  · exact v.el a b h1 (by omega) c (by omega)
 |succ j ih=>
  intro i l hS v;have hi:=v.le;have hj:=v.lt;have sm: ∀k,k<l.length->S l[k]!:=fun k hk=>hS _ (aQ hk)
  have h1:j+1<l.length:=by omega
  have h0:j<l.length:=by omega
  unfold PH;split
  · rename_i hc
    refine ih i _ (fun x hx=>hS x ((G0 h1 h0).mem_iff.1 hx)) ⟨by omega,by rw [J7];exact hi,fun a b a1 a2 a3 a4=>?_,fun b b1 b2=>?_⟩
    · rw [CC l h1 h0,CC l h1 h0,if_neg a3,if_neg a4]
      by_cases c:a=j+1
      · subst c
        rw [if_pos rfl,if_neg (by omega)]
        exact v.el j b (by omega) a2 (by omega) (by omega)
      · rw [if_neg c]
        by_cases d:b=j+1
        · subst d
          rw [if_pos rfl];exact v.el a j (by omega) (by omega) (by omega) (by omega)
        · rw [if_neg d]
          exact v.el a b a1 a2 c d
    · rw [CC l h1 h0,CC l h1 h0,if_pos rfl,if_neg (by omega)]
      by_cases c:b=j+1
      · subst c
        rw [if_pos rfl];exact o.asym (sm _ h1) (sm _ h0) hc
      · rw [if_neg c]
        exact v.up b (by omega) b2
  · rename_i hc
    intro a b a1 a2
    by_cases c:a=j+1
    · subst c;exact v.up b a1 (by omega)
    · by_cases d:b=j+1
      · subst d
        by_cases e:a=j
        · subst e;exact hc
        · exact o.ntr _ _ _ (sm _ h1) (sm _ h0) (sm _ (by omega)) hc (v.el a j (by omega) (by omega) c (by omega))
      · exact v.el a b a1 (by omega) c d
noncomputable def D1 (P:α->α->Prop) (l:List α):Nat->List α
 |0=>l
 |i+1=>PH P i (D1 P l i)
theorem xY (P:α->α->Prop) (l:List α): ∀i,i<=l.length->(D1 P l i).Perm l
 |0,_=>List.Perm.refl _
 |i+1,h=>by
  have p:=xY P l i (by omega)
  exact (QN P i _ (by rw [p.length_eq];omega)).trans p
theorem N8 (o:SOA P S) {l:List α} (hS: ∀x∈l,S x): ∀i,i<=l.length->J8 P (D1 P l i) i
 |0,_=>fun a b _ h=>by omega
 |i+1,h=>by
  have p:=xY P l i (by omega)
  have s:=N8 o hS i (by omega)
  refine aDE o i i _ (fun x hx=>hS x (p.mem_iff.1 hx)) ⟨Nat.le_refl _,by rw [p.length_eq];omega,fun a b a1 a2 a3 a4=>s a b a1 (by omega),fun b b1 b2=>by omega⟩
end
theorem lL {n:Int} (h:CB n):iW n=some (n.natAbs:Int):=by
 unfold iW;simp only [wi,wu]
 by_cases hn:n<0
 · simp only [hn,decide_true,cond_true,Option.some.injEq];omega
 · simp only [hn,decide_false,cond_false,Option.some.injEq];omega
theorem sN {n:Int} (h:CB n):nX n=some (n.natAbs:Int):=by
 unfold nX;simp only [wu]
 by_cases hn:n<0
 · simp only [hn,decide_true,cond_true,Option.some.injEq];omega
 · simp only [hn,decide_false,cond_false,Option.some.injEq];omega
theorem tT (m n:Nat):rU m n=some (Nat.gcd m n:Int):=by
 unfold rU
 induction n using Nat.strongRecOn generalizing m with
 |ind n ih=>
  by_cases h0:n=0
  · subst h0
    rw [Nat.gcd_zero_right];exact aJ (by simp [qC])
  · have e:qC ((m:Int),(n:Int))=some (.next ((n:Int),((m%n:Nat):Int))):=by
     have h1:((n:Int) !=0)=true:=by simp;omega
     have h2:((n:Int)==0)=false:=by simp;omega
     simp only [qC,h1,h2,cond_true,cond_false,Int.ofNat_tmod]
    rw [aU e,ih (m%n) (Nat.mod_lt _ (by omega)) n,Nat.gcd_comm m n,Nat.gcd_rec n m,Nat.gcd_comm]
theorem FZ (m n:Nat):AY m n=some (Nat.gcd m n:Int):=by
 unfold AY
 induction n using Nat.strongRecOn generalizing m with
 |ind n ih=>
  by_cases h0:n=0
  · subst h0
    rw [Nat.gcd_zero_right];exact aJ (by simp [wT])
  · have e:wT ((m:Int),(n:Int))=some (.next ((n:Int),((m%n:Nat):Int))):=by
     have h1:decide (0<(n:Int))=true:=by simp;omega
     have h2:((n:Int)==0)=false:=by simp;omega
     simp only [wT,h1,h2,cond_true,cond_false,Int.ofNat_tmod]
    rw [aU e,ih (m%n) (Nat.mod_lt _ (by omega)) n,Nat.gcd_comm m n,Nat.gcd_rec n m,Nat.gcd_comm]
def cM (r:Int×Int):Prop:=1<=r.2/\r.1≠ -9223372036854775808/\Nat.gcd r.2.natAbs r.1.natAbs=1
abbrev sS (r:Int×Int):Prop:=CB r.1/\CB r.2
theorem gW {r:Int×Int} (h:sS r):hH r=some (if cM r then 0 else 8):=by
 obtain ⟨a,b⟩:=r;obtain ⟨ha,hb⟩:=h;unfold hH cM;dsimp only at ha hb ⊢
 by_cases h1:b<1
 · rw [if_neg (by omega)];simp [h1]
 · by_cases h2:a= -9223372036854775808
   · rw [if_neg (by omega)];simp [h1,h2]
   · have e2:(a== -9223372036854775808)=false:=by simpa using h2
     have e3:aA .u64 b=(b.natAbs:Int):=by rw [wu];omega
     simp only [h1,decide_false,cond_false,e2,sN ha,aD,e3,FZ];have hp:0<Nat.gcd b.natAbs a.natAbs:=Nat.gcd_pos_of_pos_left _ (by omega)
     by_cases h3:Nat.gcd b.natAbs a.natAbs=1
     · rw [if_pos ⟨by omega,h2,h3⟩,h3];rfl
     · rw [if_neg (fun h=>h3 h.2.2)]
       have:decide (1<(Nat.gcd b.natAbs a.natAbs:Int))=true:=by simp;omega
       rw [this];rfl
theorem D2 {r:Int×Int} (h:sS r):vO r=some (if cM r then 0 else 8):=by
 obtain ⟨a,b⟩:=r;obtain ⟨ha,hb⟩:=h;unfold vO cM;dsimp only at ha hb ⊢
 by_cases h1:b<1
 · rw [if_neg (by omega)];simp [h1]
 · by_cases h2:a= -9223372036854775808
   · rw [if_neg (by omega)];simp [h1,h2]
   · have e2:(a== -9223372036854775808)=false:=by simpa using h2
     have e3:aA .u64 b=(b.natAbs:Int):=by rw [wu];omega
     simp only [h1,decide_false,cond_false,e2,lL ha,aD,e3,tT];rw [Nat.gcd_comm]
     by_cases h3:Nat.gcd b.natAbs a.natAbs=1
     · rw [if_pos ⟨by omega,h2,h3⟩,h3];rfl
     · rw [if_neg (fun h=>h3 h.2.2)]
       have:((Nat.gcd b.natAbs a.natAbs:Int) !=1)=true:=by simp;omega
       rw [this];rfl
theorem aDF (x y:Int) (hx:U64 x) (hy:U64 y): ∃p q r s:Int,0<=p/\p<=18446744065119617025/\0<=q/\q<=18446744065119617025/\0<=r/\r<=18446744065119617025/\0<=s/\s<=18446744065119617025/\
 x / 4294967296*(y / 4294967296)=p/\x / 4294967296*(y%4294967296)=q/\x%4294967296*(y / 4294967296)=r/\x%4294967296*(y%4294967296)=s/\
 x*y=p*18446744073709551616+(q+r)*4294967296+s:=by
 have hx1:0<=x / 4294967296/\x / 4294967296<=4294967295:=by omega
 have hx0:0<=x%4294967296/\x%4294967296<=4294967295:=by omega
 have hy1:0<=y / 4294967296/\y / 4294967296<=4294967295:=by omega
 have hy0:0<=y%4294967296/\y%4294967296<=4294967295:=by omega
 have ex:x=x / 4294967296*4294967296+x%4294967296:=by omega
 have ey:y=y / 4294967296*4294967296+y%4294967296:=by omega
 generalize x / 4294967296=a at*;generalize x%4294967296=b at*;generalize y / 4294967296=c at*;generalize y%4294967296=d at*;have bd: ∀{u v:Int},0<=u/\u<=4294967295->0<=v/\v<=4294967295->0<=u*v/\u*v<=18446744065119617025:=by
  intro u v hu hv;refine ⟨Int.mul_nonneg hu.1 hv.1,?_⟩
  calc u*v<=4294967295*4294967295:=Int.mul_le_mul hu.2 hv.2 hv.1 (by decide)
   _=_:=by decide
 refine ⟨a*c,a*d,b*c,b*d,(bd hx1 hy1).1,(bd hx1 hy1).2,(bd hx1 hy0).1,(bd hx1 hy0).2,(bd hx0 hy1).1,(bd hx0 hy1).2,(bd hx0 hy0).1,(bd hx0 hy0).2,rfl,rfl,rfl,rfl,?_⟩;rw [ex,ey]
 grind
theorem N9 {x y:Int} (hx:U64 x) (hy:U64 y):kK x y=some (x*y / 18446744073709551616,x*y%18446744073709551616):=by
 unfold kK;obtain ⟨p,q,r,s,p0,p1,q0,q1,r0,r1,s0,s1,ep,eq,er,es,exy⟩:=aDF x y hx hy;have key: ∀z:Int,LL .u64 (z%18446744073709551616) 4294967295=z%18446744073709551616%4294967296:=fun z=>YI (by constructor<;>omega)
 simp only [aRg,YI hx,YI hy,wu,key,ep,eq,er,es,exy,Option.some.injEq,Prod.mk.injEq,and_true];clear ep eq er es exy key hx hy;have e1:s%18446744073709551616=s:=by omega
 have e2:(q+s / 4294967296)%18446744073709551616=q+s / 4294967296:=by omega
 have ep:p%18446744073709551616=p:=by omega
 have eq:q%18446744073709551616=q:=by omega
 have er:r%18446744073709551616=r:=by omega
 rw [e1,ep,eq,er,e2];have e3:s=s / 4294967296*4294967296+s%4294967296:=by omega
 have e4:q+s / 4294967296=(q+s / 4294967296) / 4294967296*4294967296+(q+s / 4294967296)%4294967296:=by omega
 have b1:0<=s%4294967296/\s%4294967296<4294967296:=by omega
 have b2:0<=(q+s / 4294967296)%4294967296/\(q+s / 4294967296)%4294967296<4294967296:=by omega
 have b3:0<=(q+s / 4294967296) / 4294967296/\(q+s / 4294967296) / 4294967296<=4294967295:=by omega
 have b4:0<=s / 4294967296/\s / 4294967296<=4294967295:=by omega
 generalize (q+s / 4294967296) / 4294967296=t1 at*;generalize (q+s / 4294967296)%4294967296=t0 at*;generalize s / 4294967296=c1 at*;generalize s%4294967296=c0 at*;clear e1 e2;have e5:(t0+r)%18446744073709551616=t0+r:=by omega
 rw [e5];have e6:t0+r=(t0+r) / 4294967296*4294967296+(t0+r)%4294967296:=by omega
 have b5:0<=(t0+r)%4294967296/\(t0+r)%4294967296<4294967296:=by omega
 have b6:0<=(t0+r) / 4294967296/\(t0+r) / 4294967296<=4294967295:=by omega
 generalize (t0+r) / 4294967296=u1 at*;generalize (t0+r)%4294967296=u0 at*;omega
theorem YJ {x y:Int} (hx:U64 x) (hy:U64 y):uC x y=some (false,x*y / 18446744073709551616,x*y%18446744073709551616):=by
 unfold uC;obtain ⟨p,q,r,s,p0,p1,q0,q1,r0,r1,s0,s1,ep,eq,er,es,exy⟩:=aDF x y hx hy;have t1: ∀a:Int,0<=a->Int.tdiv a 4294967296=a / 4294967296:=fun a h=>Int.tdiv_eq_ediv_of_nonneg h
 have t2: ∀a:Int,0<=a->Int.tmod a 4294967296=a%4294967296:=fun a h=>Int.tmod_eq_emod_of_nonneg h
 simp only [wu];rw [t1 x hx.1,t1 y hy.1,t2 x hx.1,t2 y hy.1];have f1:x / 4294967296%18446744073709551616=x / 4294967296:=by omega
 have f2:y / 4294967296%18446744073709551616=y / 4294967296:=by omega
 simp only [f1,f2,ep,eq,er,es];have g: ∀a:Int,Int.tdiv (a%18446744073709551616) 4294967296=a%18446744073709551616 / 4294967296:=fun a=>t1 _ (by omega)
 have g2: ∀a:Int,Int.tmod (a%18446744073709551616) 4294967296=a%18446744073709551616%4294967296:=fun a=>t2 _ (by omega)
 simp only [g,g2,exy,Option.some.injEq,Prod.mk.injEq,true_and];constructor<;>omega
abbrev B64 (a:Bool×Int×Int):Prop:=U64 a.2.1/\U64 a.2.2
theorem E2 {n:Int} (h:CB n):U64 (n.natAbs:Int):=by constructor<;>omega
theorem E3 {n:Int} (h:CB n):(n.natAbs:Int)<=9223372036854775808:=by omega
theorem IS (a b:Int):((a.natAbs:Int)*(b.natAbs:Int))=((a*b).natAbs:Int):=by rw [Int.natAbs_mul];rfl
theorem xZ {a b:Int} (ha:CB a) (hb:CB b):((a*b).natAbs:Int)<=85070591730234615865843651857942052864:=by
 rw [<- IS]
 calc (a.natAbs:Int)*(b.natAbs:Int)<=9223372036854775808*9223372036854775808:=Int.mul_le_mul (E3 ha) (E3 hb) (by omega) (by decide)
  _=_:=by decide
theorem CD {a b:Int} (ha:CB a) (hb:CB b):
 lD a b=some (decide (a*b<0),((a*b).natAbs:Int) / 18446744073709551616,((a*b).natAbs:Int)%18446744073709551616):=by
 unfold lD;simp only [lL ha,lL hb,aD,YJ (E2 ha) (E2 hb),IS];have hs:(a*b<0)↔((a<0/\0<b)\/(0<a/\b<0)):=by
  constructor
  · intro h
    rcases Int.lt_trichotomy a 0 with h1|h1|h1
    · rcases Int.lt_trichotomy b 0 with h2|h2|h2
      · have:=Int.mul_pos_of_neg_of_neg h1 h2;omega
      · subst h2;simp at h
      · exact .inl ⟨h1,h2⟩
    · subst h1;simp at h
    · rcases Int.lt_trichotomy b 0 with h2|h2|h2
      · exact .inr ⟨h1,h2⟩
      · subst h2;simp at h
      · have:=Int.mul_pos h1 h2;omega
  · rintro (⟨h1,h2⟩|⟨h1,h2⟩)
    · exact Int.mul_neg_of_neg_of_pos h1 h2
    · exact Int.mul_neg_of_pos_of_neg h1 h2
 have hd:decide (a*b<0)=decide ((a<0/\0<b)\/(0<a/\b<0)):=by simp only [hs]
 rw [hd];clear hd hs;generalize ((a*b).natAbs:Int)=z
 by_cases h1:a<0
 · have h1': ¬0<a:=by omega
   have h1'':(a !=0)=true:=fI (by omega)
   by_cases h2:b<0
   · have h2': ¬0<b:=by omega
     simp [h1,h2,h1',h2']
   · by_cases h3:b=0
     · simp [h1,h3,h1'']
     · have h3':0<b:=by omega
       simp [h1,h2,h3',h1'',fI h3]
 · by_cases h0:a=0
   · subst h0
     by_cases h2:b<0<;>simp [h2]
   · have h1':0<a:=by omega
     by_cases h2:b<0
     · have h2':(b !=0)=true:=fI (by omega)
       simp [h1,h2,h1',fI h0,h2']
     · simp [h1,h2,h1']
theorem VU {a b:Int} (ha:CB a) (hb:CB b):
 vI a b=some (!(decide (a<0)==decide (b<0)),((a*b).natAbs:Int) / 18446744073709551616,((a*b).natAbs:Int)%18446744073709551616):=by
 unfold vI;simp only [sN ha,sN hb,aD,N9 (E2 ha) (E2 hb),IS]
def lQ (a b:Int):Int:=if a<b then -1 else if b<a then 1 else 0
theorem F0 (a b:Int):kW a b=some (lQ a b):=by
 unfold kW qD lQ
 by_cases h1:a<b<;>by_cases h2:b<a<;>simp [h1,h2]
theorem PI (a b:Int):jV a b=some (lQ a b):=by
 unfold jV pH lQ
 by_cases h1:a<b<;>by_cases h2:b<a<;>simp [h1,h2]
theorem mK (a b:Int):gD a b=some (lQ a b):=by
 unfold gD uL lQ
 by_cases h1:a<b<;>by_cases h2:b<a<;>simp [h1,h2]
theorem gX (a b:Int):(a<b/\lQ a b= -1)\/(a=b/\lQ a b=0)\/(b<a/\lQ a b=1):=by
 unfold lQ
 by_cases h1:a<b
 · exact .inl ⟨h1,by rw [if_pos h1]⟩
 · by_cases h2:b<a
   · exact .inr (.inr ⟨h2,by rw [if_neg h1,if_pos h2]⟩)
   · exact .inr (.inl ⟨by omega,by rw [if_neg h1,if_neg h2]⟩)
theorem SZ (a b:Bool×Int×Int) (ha:B64 a) (hb:B64 b):tG a b=some (lQ (a.2.1*18446744073709551616+a.2.2) (b.2.1*18446744073709551616+b.2.2)):=by
 obtain ⟨s,ah,al⟩:=a;obtain ⟨t,bh,bl⟩:=b;obtain ⟨⟨a1,a2⟩,a3,a4⟩:=ha;obtain ⟨⟨b1,b2⟩,b3,b4⟩:=hb;dsimp only at*;unfold tG lQ;dsimp only
 by_cases h1:ah=bh
 · subst h1
   by_cases h2:al=bl
   · subst h2;simp
   · by_cases h3:al<bl
     · simp [fI h2,h3]
     · rw [if_neg (by omega),if_pos (by omega)];simp [fI h2,h3]
 · by_cases h3:ah<bh
   · rw [if_pos (by omega)];simp [fI h1,h3]
   · rw [if_neg (by omega),if_pos (by omega)];simp [fI h1,h3]
theorem YK (a b:Bool×Int×Int) (ha:B64 a) (hb:B64 b):uK a b=some (lQ (a.2.1*18446744073709551616+a.2.2) (b.2.1*18446744073709551616+b.2.2)):=by
 obtain ⟨s,ah,al⟩:=a;obtain ⟨t,bh,bl⟩:=b;obtain ⟨⟨a1,a2⟩,a3,a4⟩:=ha;obtain ⟨⟨b1,b2⟩,b3,b4⟩:=hb;dsimp only at*;unfold uK;simp only [PI,aD];unfold lQ
 by_cases h1:ah=bh
 · subst h1
   by_cases h3:al<bl
   · simp [h3]
   · by_cases h2:bl<al
     · rw [if_neg (show¬(ah*18446744073709551616+al<ah*18446744073709551616+bl) by omega),if_pos (show ah*18446744073709551616+bl<ah*18446744073709551616+al by omega)];simp [h2,h3]
     · have:al=bl:=by omega
       subst this;simp
 · by_cases h3:ah<bh
   · rw [if_pos (show ah*18446744073709551616+al<bh*18446744073709551616+bl by omega)];simp [h3]
   · rw [if_neg (show¬(ah*18446744073709551616+al<bh*18446744073709551616+bl) by omega),if_pos (show bh*18446744073709551616+bl<ah*18446744073709551616+al by omega)];simp [h3,show bh<ah by omega]
theorem zD (a:Bool) {n:Int} (h0:0<=n) (h:n<=85070591730234615865843651857942052864):B64 (a,n / 18446744073709551616,n%18446744073709551616):=by
 constructor<;>constructor<;>dsimp only<;>omega
theorem S0 {n:Int} (h:(n.natAbs:Int)<=85070591730234615865843651857942052864):nE (decide (n<0),(n.natAbs:Int) / 18446744073709551616,(n.natAbs:Int)%18446744073709551616)=some (lQ n 0):=by
 unfold nE lQ;dsimp only
 by_cases h0:n=0
 · subst h0;simp
 · by_cases h1:n<0
   · rw [if_pos h1]
     by_cases h2:(n.natAbs:Int) / 18446744073709551616=0
     · have h3: ¬((n.natAbs:Int)%18446744073709551616=0):=by omega
       simp [h1,h2,eM h3]
     · simp [h1,eM h2]
   · rw [if_neg h1,if_pos (by omega)]
     by_cases h2:(n.natAbs:Int) / 18446744073709551616=0
     · have h3: ¬((n.natAbs:Int)%18446744073709551616=0):=by omega
       simp [h1,h2,eM h3]
     · simp [h1,eM h2]
def G1 (a b:Int×Int):Int:=lQ (a.1*b.2) (b.1*a.2)
theorem OA {a b:Int×Int} (ha:sS a) (hb:sS b):pV a b=some (G1 a b):=by
 unfold pV G1;have n1:=xZ ha.1 hb.2;have n2:=xZ hb.1 ha.2;simp only [CD ha.1 hb.2,CD hb.1 ha.2,aD,S0 n1,S0 n2];generalize a.1*b.2=x at*;generalize b.1*a.2=y at*;rw [SZ _ _ (zD _ (by omega) n1) (zD _ (by omega) n2),SZ _ _ (zD _ (by omega) n2) (zD _ (by omega) n1)]
 have ex:((x.natAbs:Int) / 18446744073709551616)*18446744073709551616+(x.natAbs:Int)%18446744073709551616=(x.natAbs:Int):=by omega
 have ey:((y.natAbs:Int) / 18446744073709551616)*18446744073709551616+(y.natAbs:Int)%18446744073709551616=(y.natAbs:Int):=by omega
 simp only [ex,ey,aD];rcases gX x 0 with ⟨h1,e1⟩|⟨h1,e1⟩|⟨h1,e1⟩<;>rcases gX y 0 with ⟨h2,e2⟩|⟨h2,e2⟩|⟨h2,e2⟩<;>rw [e1,e2]<;>simp<;>
  unfold lQ<;>(repeat' split)<;>first|rfl|omega
theorem aKW {a b:Int×Int} (ha:sS a) (hb:sS b):B4 a b=some (if cM a/\cM b then 0 else 8):=by
 unfold B4;simp only [gW ha,gW hb,aD]
 by_cases h1:cM a<;>by_cases h2:cM b<;>simp [h1,h2]
theorem aDG {a b:Int×Int} (ha:sS a) (hb:sS b):EX a b=some (if cM a/\cM b then (G1 a b,0) else (0,8)):=by
 unfold EX;rw [aKW ha hb]
 by_cases h:cM a/\cM b
 · rw [if_pos h,if_pos h]
   obtain ⟨⟨a1,a2,a3⟩,b1,b2,b3⟩:=h;have n1:=xZ ha.1 hb.2;have n2:=xZ hb.1 ha.2;simp only [aD,F0,VU ha.1 hb.2,VU hb.1 ha.2];rw [YK _ _ (zD _ (by omega) n1) (zD _ (by omega) n2)]
   have ex:((a.1*b.2).natAbs:Int) / 18446744073709551616*18446744073709551616+((a.1*b.2).natAbs:Int)%18446744073709551616=((a.1*b.2).natAbs:Int):=by omega
   have ey:((b.1*a.2).natAbs:Int) / 18446744073709551616*18446744073709551616+((b.1*a.2).natAbs:Int)%18446744073709551616=((b.1*a.2).natAbs:Int):=by omega
   simp only [ex,ey,aD];unfold G1;have s1:(a.1<0↔a.1*b.2<0):=by
    constructor
    · intro h;exact Int.mul_neg_of_neg_of_pos h (by omega)
    · intro h;rcases lt_or_ge a.1 0 with h1|h1
      · exact h1
      · have:=Int.mul_nonneg h1 (show 0<=b.2 by omega);omega
   have s2:(b.1<0↔b.1*a.2<0):=by
    constructor
    · intro h;exact Int.mul_neg_of_neg_of_pos h (by omega)
    · intro h;rcases lt_or_ge b.1 0 with h1|h1
      · exact h1
      · have:=Int.mul_nonneg h1 (show 0<=a.2 by omega);omega
   generalize a.1*b.2=x at*;generalize b.1*a.2=y at*
   by_cases h1:a.1<0<;>by_cases h2:b.1<0
   · have h3:=s1.1 h1;have h4:=s2.1 h2
     have:aA .i64 (-lQ (x.natAbs:Int) (y.natAbs:Int))=lQ x y:=by
      rw [wi];unfold lQ;(repeat' split)<;>omega
     simp [h1,h2,this]
   · have h3:=s1.1 h1;have h4: ¬y<0:=fun h=>h2 (s2.2 h)
     have:lQ a.1 b.1=lQ x y:=by unfold lQ;(repeat' split)<;>omega
     simp [h1,h2,this]
   · have h3: ¬x<0:=fun h=>h1 (s1.2 h);have h4:=s2.1 h2
     have:lQ a.1 b.1=lQ x y:=by unfold lQ;(repeat' split)<;>omega
     simp [h1,h2,this]
   · have h3: ¬x<0:=fun h=>h1 (s1.2 h);have h4: ¬y<0:=fun h=>h2 (s2.2 h)
     have:lQ (x.natAbs:Int) (y.natAbs:Int)=lQ x y:=by unfold lQ;(repeat' split)<;>omega
     simp [h1,h2,this]
 · rw [if_neg h,if_neg h];rfl
abbrev Pt:=Int×Int×Int
def gY (p:Pt):Prop:=0<=p.1/\p.1<=65535/\ -1048576<=p.2.1/\p.2.1<=1048576/\ -1048576<=p.2.2/\p.2.2<=1048576
theorem kM (p:Pt):kV p=some (if gY p then 0 else 8):=by
 obtain ⟨i,a,b⟩:=p;unfold kV rZ gY;dsimp only
 by_cases h1:i<0
 · rw [if_neg (by omega)];simp [h1]
 by_cases h2:65535<i
 · rw [if_neg (by omega)];simp [h1,h2]
 by_cases h3:a< -1048576
 · rw [if_neg (by omega)];simp [h1,h2,h3]
 by_cases h4:1048576<a
 · rw [if_neg (by omega)];simp [h1,h2,h3,h4]
 by_cases h5:b< -1048576
 · rw [if_neg (by omega)];simp [h1,h2,h3,h4,h5]
 by_cases h6:1048576<b
 · rw [if_neg (by omega)];simp [h1,h2,h3,h4,h5,h6]
 rw [if_pos (by omega)];simp [h1,h2,h3,h4,h5,h6]
theorem mL (p:Pt):hJ p=some (if gY p then 0 else 8):=by
 obtain ⟨i,a,b⟩:=p;unfold hJ gY;dsimp only
 by_cases h1:i<0
 · rw [if_neg (by omega)];simp [h1]
 by_cases h2:65535<i
 · rw [if_neg (by omega)];simp [h1,h2]
 by_cases h3:a< -1048576
 · rw [if_neg (by omega)];simp [h1,h2,h3]
 by_cases h4:1048576<a
 · rw [if_neg (by omega)];simp [h1,h2,h3,h4]
 by_cases h5:b< -1048576
 · rw [if_neg (by omega)];simp [h1,h2,h3,h4,h5]
 by_cases h6:1048576<b
 · rw [if_neg (by omega)];simp [h1,h2,h3,h4,h5,h6]
 rw [if_pos (by omega)];simp [h1,h2,h3,h4,h5,h6]
theorem A3 {x y:Int} (hx:CB x) (hy:CB y): -85070591730234615865843651857942052864<=x*y/\x*y<=85070591730234615865843651857942052864:=by
 have:=xZ hx hy;omega
theorem aLL {x y:Int} (hx:CB x) (hy:CB y):(x%18446744073709551616)*(y%18446744073709551616)=x*y+(if x<0 then y else 0)*18446744073709551616+(if y<0 then x else 0)*18446744073709551616+(if x<0/\y<0 then 340282366920938463463374607431768211456 else 0):=by
 by_cases h1:x<0<;>by_cases h2:y<0
 · have e1:x%18446744073709551616=x+18446744073709551616:=by omega
   have e2:y%18446744073709551616=y+18446744073709551616:=by omega
   rw [e1,e2,if_pos h1,if_pos h2,if_pos ⟨h1,h2⟩];grind
 · have e1:x%18446744073709551616=x+18446744073709551616:=by omega
   have e2:y%18446744073709551616=y:=by omega
   rw [e1,e2,if_pos h1,if_neg h2,if_neg (fun h=>h2 h.2)];grind
 · have e1:x%18446744073709551616=x:=by omega
   have e2:y%18446744073709551616=y+18446744073709551616:=by omega
   rw [e1,e2,if_neg h1,if_pos h2,if_neg (fun h=>h1 h.1)];grind
 · have e1:x%18446744073709551616=x:=by omega
   have e2:y%18446744073709551616=y:=by omega
   rw [e1,e2,if_neg h1,if_neg h2,if_neg (fun h=>h1 h.1)];grind
theorem VV {a b:Int} (ha:0<=a) (hb:0<=b):tF a b 0=some ((a+b)%18446744073709551616,(a+b) / 18446744073709551616):=by
 unfold tF;simp [ha,hb]
theorem aDH {a b c d u v:Int} (ha:CB a) (hb:CB b):pW (a,b,c,d,0,u,v,0,0)=some (.next (a,b,c,d,1,u,v,a*b / 18446744073709551616,a*b%18446744073709551616)):=by
 unfold pW;have hm:=N9 (x:=aA .u64 a) (y:=aA .u64 b) (by rw [wu];constructor<;>omega) (by rw [wu];constructor<;>omega)
 have hb2:=A3 ha hb;have hu:=aLL ha hb;simp only [hm,aD];simp only [wu,hu];generalize a*b=x at*
 by_cases h1:a<0<;>by_cases h2:b<0
 all_goals
  simp only [h1,h2,decide_true,decide_false,cond_true,cond_false,if_true,if_false,and_self,and_false,false_and];rw [VV (by omega) (by omega)]
  simp only [wi,aD,show decide ((0:Int)<2)=true from rfl,cond_true,show ((0:Int)==0)=true from rfl,Option.some.injEq,cE.next.injEq,Prod.mk.injEq,true_and]
  refine ⟨by omega,?_,?_⟩<;>omega
theorem aDI {a b c d u v h l:Int} (hc:CB c) (hd:CB d) (hl:U64 l)
 (_hh: -9223372036854775808<=h/\h<9223372036854775808) (hs: -170141183460469231731687303715884105728<=h*18446744073709551616+l+c*d/\h*18446744073709551616+l+c*d<170141183460469231731687303715884105728):
 pW (a,b,c,d,1,u,v,h,l)=some (.next (a,b,c,d,2,u,v,(h*18446744073709551616+l+c*d) / 18446744073709551616,(h*18446744073709551616+l+c*d)%18446744073709551616)):=by
 unfold pW;have hm:=N9 (x:=aA .u64 c) (y:=aA .u64 d) (by rw [wu];constructor<;>omega) (by rw [wu];constructor<;>omega)
 have hb2:=A3 hc hd;have hu:=aLL hc hd;simp only [hm,aD];simp only [wu,hu];generalize c*d=x at*
 by_cases h1:c<0<;>by_cases h2:d<0
 all_goals
  simp only [h1,h2,decide_true,decide_false,cond_true,cond_false,if_true,if_false,and_self,and_false,false_and];rw [VV (by omega) (by omega)]
  simp only [wi,aD,show decide ((1:Int)<2)=true from rfl,cond_true,cond_false,show ((1:Int)==0)=false from rfl,show ((1:Int)==1)=true from rfl,Option.some.injEq,cE.next.injEq,Prod.mk.injEq,true_and]
  refine ⟨by omega,?_,?_⟩<;>omega
theorem PJ {a b c d:Int} (ha:CB a) (hb:CB b) (hc:CB c) (hd:CB d) (hs: -170141183460469231731687303715884105728<=a*b+c*d/\a*b+c*d<170141183460469231731687303715884105728):
 B5 (a,b,c,d)=some ((a*b+c*d) / 18446744073709551616,(a*b+c*d)%18446744073709551616):=by
 unfold B5;dsimp only;have hb2:=A3 ha hb;have e:a*b / 18446744073709551616*18446744073709551616+a*b%18446744073709551616+c*d=a*b+c*d:=by omega
 rw [aU (aDH ha hb),aU (aDI hc hd (by constructor<;>omega) (by constructor<;>omega) (by rw [e];exact hs)),e]
 exact aJ rfl
def QO (p q:Pt) (t:Int×Int):Int:=(p.2.1-q.2.1)*t.2+(p.2.2-q.2.2)*t.1
def bI (p q:Pt) (t:Int×Int):Prop:=0<QO p q t\/(QO p q t=0/\(q.2.2<p.2.2\/(p.2.2=q.2.2/\p.1<q.1)))
def YL (p q:Pt) (t:Int×Int):Int:=if QO p q t<0 then -1 else if 0<QO p q t then 1 else if p.2.2<q.2.2 then -1 else if q.2.2<p.2.2 then 1 else lQ q.1 p.1
theorem OB (p q:Pt) (t:Int×Int):0<YL p q t↔bI p q t:=by
 unfold YL bI
 by_cases h1:QO p q t<0
 · rw [if_pos h1];omega
 · by_cases h2:0<QO p q t
   · rw [if_neg h1,if_pos h2];simp [h2]
   · rw [if_neg h1,if_neg h2]
     by_cases h3:p.2.2<q.2.2
     · rw [if_pos h3];omega
     · by_cases h4:q.2.2<p.2.2
       · rw [if_neg h3,if_pos h4];omega
       · rw [if_neg h3,if_neg h4]
         rcases gX q.1 p.1 with ⟨h,e⟩|⟨h,e⟩|⟨h,e⟩<;>rw [e]<;>omega
theorem E4 (a b:Int):xT [a,b]=some (if a≠0 then a else b):=by
 unfold xT
 by_cases h1:a=0
 · subst h1
   rw [aU (y:=(0,[0,b],2,1)) (by rfl)]
   by_cases h2:b=0
   · subst h2
     rw [aU (y:=(0,[0,0],2,2)) (by rfl)]
     exact aJ rfl
   · refine (aJ (r:=b) ?_).trans (by simp)
     have e:zR (0,[0,b],2,1)=(bif b !=0 then some (.done b) else some (.next (0,[0,b],2,aA .i64 (1+1)))):=rfl
     rw [e,fI h2];rfl
 · refine (aJ (r:=a) ?_).trans (by simp [h1])
   have e:zR (0,[a,b],Int.ofNat [a,b].length,0)=(bif a !=0 then some (.done a) else some (.next (0,[a,b],Int.ofNat [a,b].length,aA .i64 (0+1)))):=rfl
   rw [e,fI h1];rfl
theorem aDJ {p q:Pt} {t:Int×Int} (hp:gY p) (hq:gY q) (ht:sS t):CB (p.2.1-q.2.1)/\CB (p.2.2-q.2.2)/\ -170141183460469231731687303715884105728<=QO p q t/\QO p q t<170141183460469231731687303715884105728:=by
 obtain ⟨a1,a2,a3,a4,a5,a6⟩:=hp;obtain ⟨b1,b2,b3,b4,b5,b6⟩:=hq;have h1:CB (p.2.1-q.2.1):=by constructor<;>omega
 have h2:CB (p.2.2-q.2.2):=by constructor<;>omega
 refine ⟨h1,h2,?_⟩;have k: ∀{x y:Int},-2097152<=x/\x<=2097152->CB y-> -19342813113834066795298816<=x*y/\x*y<=19342813113834066795298816:=by
  intro x y hx hy
  have:((x*y).natAbs:Int)<=2097152*9223372036854775808:=by
   rw [<- IS];exact Int.mul_le_mul (by omega) (E3 hy) (by omega) (by decide)
  omega
 have k1:=k (x:=p.2.1-q.2.1) (by omega) ht.2
 have k2:=k (x:=p.2.2-q.2.2) (by omega) ht.1
 unfold QO;omega
theorem zE {p q:Pt} {t:Int×Int} (hp:gY p) (hq:gY q) (ht:sS t):oQ p q t=some (YL p q t):=by
 obtain ⟨g1,g2,g3⟩:=aDJ hp hq ht;unfold oQ;rw [fT g1,fT g2,PJ g1 ht.2 g2 ht.1 g3];simp only [aD,F0,mK,E4];rw [show (p.2.1-q.2.1)*t.2+(p.2.2-q.2.2)*t.1=QO p q t from rfl];unfold YL;generalize QO p q t=n at*
 by_cases h1:n<0
 · have e1:(n / 18446744073709551616==0)=false:=by simp;omega
   have e2:decide (n / 18446744073709551616<0)=true:=by simp;omega
   rw [if_pos h1];simp [e1,e2]
 · by_cases h2:0<n
   · have e1:((n / 18446744073709551616==0)&&(n%18446744073709551616==0))=false:=by simp;omega
     have e2:decide (n / 18446744073709551616<0)=false:=by simp;omega
     rw [if_neg h1,if_pos h2];simp only [e1,e2,Bool.not_false,cond_true,cond_false]
   · have:n=0:=by omega
     subst this;rw [if_neg h1,if_neg h2];unfold lQ
     by_cases h3:p.2.2<q.2.2
     · simp [h3]
     · by_cases h4:q.2.2<p.2.2
       · simp [h3,h4]
       · simp [h3,h4]
theorem aKX {x y:Int} (hx: -85070591730234615865843651857942052864<=x/\x<=85070591730234615865843651857942052864) (hy: -85070591730234615865843651857942052864<=y/\y<=85070591730234615865843651857942052864):
 B0 (decide (x<0),(x.natAbs:Int) / 18446744073709551616,(x.natAbs:Int)%18446744073709551616) (decide (y<0),(y.natAbs:Int) / 18446744073709551616,(y.natAbs:Int)%18446744073709551616)=
  some (decide (x+y<0),((x+y).natAbs:Int) / 18446744073709551616,((x+y).natAbs:Int)%18446744073709551616):=by
 have n1:(x.natAbs:Int)<=85070591730234615865843651857942052864:=by omega
 have n2:(y.natAbs:Int)<=85070591730234615865843651857942052864:=by omega
 unfold B0;rw [SZ _ _ (zD _ (by omega) n1) (zD _ (by omega) n2)]
 have ex:((x.natAbs:Int) / 18446744073709551616)*18446744073709551616+(x.natAbs:Int)%18446744073709551616=(x.natAbs:Int):=by omega
 have ey:((y.natAbs:Int) / 18446744073709551616)*18446744073709551616+(y.natAbs:Int)%18446744073709551616=(y.natAbs:Int):=by omega
 simp only [ex,ey,aD];have same: ∀{X Y Z:Int},0<=X->0<=Y->X<=85070591730234615865843651857942052864->Y<=85070591730234615865843651857942052864->Z=X+Y-> ∀b:Bool,
  (bif decide (aA .u64 (X%18446744073709551616+Y%18446744073709551616)<X%18446744073709551616) then some (b,aA .u64 (aA .u64 (X / 18446744073709551616+Y / 18446744073709551616)+1),aA .u64 (X%18446744073709551616+Y%18446744073709551616))
   else some (b,aA .u64 (X / 18446744073709551616+Y / 18446744073709551616),aA .u64 (X%18446744073709551616+Y%18446744073709551616)))=some (b,Z / 18446744073709551616,Z%18446744073709551616):=by
  intro X Y Z h1 h2 h3 h4 h5 b;subst h5;simp only [wu]
  by_cases h:(X%18446744073709551616+Y%18446744073709551616)%18446744073709551616<X%18446744073709551616
  · simp only [h,decide_true,cond_true,Option.some.injEq,Prod.mk.injEq,true_and];constructor<;>omega
  · simp only [h,decide_false,cond_false,Option.some.injEq,Prod.mk.injEq,true_and];constructor<;>omega
 have minus: ∀{X Y Z:Int} (b c:Bool),0<=X->0<=Y->X<=85070591730234615865843651857942052864->Y<=X->Z=X-Y->vG (b,X / 18446744073709551616,X%18446744073709551616) (c,Y / 18446744073709551616,Y%18446744073709551616)=some (false,Z / 18446744073709551616,Z%18446744073709551616):=by
  intro X Y Z b c h1 h2 h3 h4 h5;subst h5;unfold vG;simp only [wu]
  by_cases h:X%18446744073709551616<Y%18446744073709551616
  · simp only [h,decide_true,cond_true,Option.some.injEq,Prod.mk.injEq,true_and];constructor<;>omega
  · simp only [h,decide_false,cond_false,Option.some.injEq,Prod.mk.injEq,true_and];constructor<;>omega
 by_cases h1:x<0<;>by_cases h2:y<0
 · have h3:x+y<0:=by omega
   simp only [h1,h2,h3,decide_true,beq_self_eq_true,cond_true];exact same (by omega) (by omega) n1 n2 (by omega) true
 · simp only [h1,h2,decide_true,decide_false,show (true==false)=false from rfl,cond_false,cond_true]
   by_cases h3:(y.natAbs:Int)<=(x.natAbs:Int)
   · have e:decide (0<=lQ (x.natAbs:Int) (y.natAbs:Int))=true:=by
      rcases gX (x.natAbs:Int) (y.natAbs:Int) with ⟨h,e⟩|⟨h,e⟩|⟨h,e⟩<;>rw [e]<;>first|rfl|omega
     rw [e,minus (Z:=((x+y).natAbs:Int)) _ _ (by omega) (by omega) n1 h3 (by omega)]
     simp only [cond_true,aD]
     by_cases h4:x+y=0
     · rw [h4];rfl
     · have h5:x+y<0:=by omega
       by_cases h6:0<((x+y).natAbs:Int) / 18446744073709551616
       · simp [h5,h6]
       · have h7:0<((x+y).natAbs:Int)%18446744073709551616:=by omega
         simp only [h5,h6,h7,decide_true,decide_false,cond_false]
   · have e:decide (0<=lQ (x.natAbs:Int) (y.natAbs:Int))=false:=by
      rcases gX (x.natAbs:Int) (y.natAbs:Int) with ⟨h,e⟩|⟨h,e⟩|⟨h,e⟩<;>rw [e]<;>first|rfl|omega
     rw [e,minus (Z:=((x+y).natAbs:Int)) _ _ (by omega) (by omega) n2 (by omega) (by omega)]
     have h5: ¬(x+y<0):=by omega
     simp [h5]
 · simp only [h1,h2,decide_true,decide_false,show (false==true)=false from rfl,cond_false]
   by_cases h3:(y.natAbs:Int)<=(x.natAbs:Int)
   · have e:decide (0<=lQ (x.natAbs:Int) (y.natAbs:Int))=true:=by
      rcases gX (x.natAbs:Int) (y.natAbs:Int) with ⟨h,e⟩|⟨h,e⟩|⟨h,e⟩<;>rw [e]<;>first|rfl|omega
     rw [e,minus (Z:=((x+y).natAbs:Int)) _ _ (by omega) (by omega) n1 h3 (by omega)]
     have h5: ¬(x+y<0):=by omega
     simp [h5]
   · have e:decide (0<=lQ (x.natAbs:Int) (y.natAbs:Int))=false:=by
      rcases gX (x.natAbs:Int) (y.natAbs:Int) with ⟨h,e⟩|⟨h,e⟩|⟨h,e⟩<;>rw [e]<;>first|rfl|omega
     rw [e,minus (Z:=((x+y).natAbs:Int)) _ _ (by omega) (by omega) n2 (by omega) (by omega)]
     have h5:x+y<0:=by omega
     simp [h5]
 · have h3: ¬(x+y<0):=by omega
   simp only [h1,h2,h3,decide_false,beq_self_eq_true,cond_true];exact same (by omega) (by omega) n1 n2 (by omega) false
theorem aRi {p q:Pt} {t:Int×Int} (hp:gY p) (hq:gY q) (ht:sS t):ET p q t=some (lQ (QO p q t) 0):=by
 obtain ⟨g1,g2,g3⟩:=aDJ hp hq ht;unfold ET;rw [fT g1,fT g2,CD g1 ht.2,CD g2 ht.1];simp only [aD];rw [aKX (A3 g1 ht.2) (A3 g2 ht.1)];simp only [aD];rw [show (p.2.1-q.2.1)*t.2+(p.2.2-q.2.2)*t.1=QO p q t from rfl];obtain ⟨a1,a2,a3,a4,a5,a6⟩:=hp;obtain ⟨b1,b2,b3,b4,b5,b6⟩:=hq
 have k: ∀{x y:Int},-2097152<=x/\x<=2097152->CB y-> -19342813113834066795298816<=x*y/\x*y<=19342813113834066795298816:=by
  intro x y hx hy
  have:((x*y).natAbs:Int)<=2097152*9223372036854775808:=by
   rw [<- IS];exact Int.mul_le_mul (by omega) (E3 hy) (by omega) (by decide)
  omega
 have k1:=k (x:=p.2.1-q.2.1) (by omega) ht.2
 have k2:=k (x:=p.2.2-q.2.2) (by omega) ht.1
 have:((QO p q t).natAbs:Int)<=85070591730234615865843651857942052864:=by unfold QO;omega
 rw [S0 this];rfl
theorem VW {p q:Pt} {t:Int×Int} (hp:gY p) (hq:gY q) (ht:sS t):rA p q t=some (decide (bI p q t)):=by
 unfold rA bI;rw [aRi hp hq ht];simp only [aD];rcases gX (QO p q t) 0 with ⟨h,e⟩|⟨h,e⟩|⟨h,e⟩<;>rw [e]
 · have h1: ¬(0<QO p q t):=by omega
   have h2: ¬(QO p q t=0):=by omega
   simp [h1,h2]
 · rw [h]
   by_cases h3:p.2.2=q.2.2
   · simp [h3]
   · simp [h3,fI h3]
 · simp [h]
theorem zW {p q:Pt} {t:Int×Int} (ht:sS t):tO p q t=some (if gY p/\gY q/\cM t then (if p.1=q.1 then 2 else 0) else 8):=by
 unfold tO;simp only [kM,gW ht,aD]
 by_cases h4:p.1=q.1
 · by_cases h1:gY p<;>by_cases h2:gY q<;>by_cases h3:cM t<;>simp [h1,h2,h3,h4]
 · have h5:=eM h4
   by_cases h1:gY p<;>by_cases h2:gY q<;>by_cases h3:cM t<;>simp [h1,h2,h3,h4,h5]
theorem aKY {n d:Int} (hn:CB n) (hd:CB d):B6 n d=oO n d:=by
 unfold B6 oO
 by_cases h0:d=0
 · subst h0;rfl
 · have e0:(d==0)=false:=by simpa using h0
   simp only [e0,cond_false,sN hn,sN hd,lL hn,lL hd,aD,FZ,tT];have hp:0<Nat.gcd n.natAbs d.natAbs:=Nat.gcd_pos_of_pos_right _ (by omega)
   have e1:((Nat.gcd n.natAbs d.natAbs:Int)==0)=false:=by simp;omega
   simp only [e1,cond_false];unfold DU tK;simp only [show decide ((0:Int)<0)=false from rfl,cond_false]
   by_cases h3:n=0
   · subst h3
     have z: ∀k:Int,aA .u64 (Int.tdiv (((0:Int).natAbs:Nat):Int) k)=0:=fun k=>by
      rw [show (((0:Int).natAbs:Nat):Int)=0 from rfl,Int.zero_tdiv];rfl
     have z2:aA .i64 0=0:=rfl;have z3:aA .i64 (0-0)=0:=rfl;simp only [z,z2,z3,show ((0:Int) !=0)=false from rfl,cond_false,show decide ((0:Int)<0)=false from rfl];cases (!(false==decide (d<0)))<;>simp
   · simp only [fI h3]
     cases (!(decide (n<0)==decide (d<0)))<;>rfl
noncomputable def met (p q:Pt):Int×Int:=((oO (p.2.1-q.2.1) (q.2.2-p.2.2)).getD ((0,0),0)).1
theorem YM {n d:Int} (hn: -2097152<=n/\n<=2097152) (hd: -2097152<=d/\d<=2097152) (h0:d≠0): ∃r,oO n d=some (r,0)/\cM r/\sS r/\r.1*d=n*r.2:=by
 have hn':CB n:=by constructor<;>omega
 have hd':CB d:=by constructor<;>omega
 unfold oO;have e0:(d==0)=false:=by simpa using h0
 have hp:0<Nat.gcd n.natAbs d.natAbs:=Nat.gcd_pos_of_pos_right _ (by omega)
 have e1:((Nat.gcd n.natAbs d.natAbs:Int)==0)=false:=by simp;omega
 simp only [e0,cond_false,lL hn',lL hd',aD,tT,e1];have q1:Int.tdiv (n.natAbs:Int) (Nat.gcd n.natAbs d.natAbs:Int)=((n.natAbs / Nat.gcd n.natAbs d.natAbs:Nat):Int):=by
  rw [Int.ofNat_tdiv]
 have q2:Int.tdiv (d.natAbs:Int) (Nat.gcd n.natAbs d.natAbs:Int)=((d.natAbs / Nat.gcd n.natAbs d.natAbs:Nat):Int):=by
  rw [Int.ofNat_tdiv]
 rw [q1,q2];have l1:n.natAbs / Nat.gcd n.natAbs d.natAbs<=2097152:=Nat.le_trans (Nat.div_le_self _ _) (by omega)
 have l2:d.natAbs / Nat.gcd n.natAbs d.natAbs<=2097152:=Nat.le_trans (Nat.div_le_self _ _) (by omega)
 have l3:1<=d.natAbs / Nat.gcd n.natAbs d.natAbs:=Nat.div_pos (Nat.le_of_dvd (by omega) (Nat.gcd_dvd_right _ _)) hp
 have co:Nat.gcd (d.natAbs / Nat.gcd n.natAbs d.natAbs) (n.natAbs / Nat.gcd n.natAbs d.natAbs)=1:=by
  rw [Nat.gcd_comm,Nat.gcd_div (Nat.gcd_dvd_left _ _) (Nat.gcd_dvd_right _ _)];exact Nat.div_self hp
 have v1:n.natAbs=Nat.gcd n.natAbs d.natAbs*(n.natAbs / Nat.gcd n.natAbs d.natAbs):=(Nat.mul_div_cancel' (Nat.gcd_dvd_left _ _)).symm;have v2:d.natAbs=Nat.gcd n.natAbs d.natAbs*(d.natAbs / Nat.gcd n.natAbs d.natAbs):=(Nat.mul_div_cancel' (Nat.gcd_dvd_right _ _)).symm
 have val:(n.natAbs:Int)*((d.natAbs / Nat.gcd n.natAbs d.natAbs:Nat):Int)=(d.natAbs:Int)*((n.natAbs / Nat.gcd n.natAbs d.natAbs:Nat):Int):=by
  generalize n.natAbs / Nat.gcd n.natAbs d.natAbs=a at*;generalize d.natAbs / Nat.gcd n.natAbs d.natAbs=b at*;generalize Nat.gcd n.natAbs d.natAbs=g at*;rw [v1,v2,Int.natCast_mul,Int.natCast_mul,Int.mul_assoc,Int.mul_assoc,Int.mul_comm (a:Int) (b:Int)]
 clear v1 v2;generalize n.natAbs / Nat.gcd n.natAbs d.natAbs=a at*;generalize d.natAbs / Nat.gcd n.natAbs d.natAbs=b at*;have w1:aA .u64 (a:Int)=a:=by rw [wu];omega
 have w2:aA .u64 (b:Int)=b:=by rw [wu];omega
 have made: ∀s:Bool,tK s (false,0,(a:Int)) (false,0,(b:Int))=some ((if s=true then -(a:Int) else a,(b:Int)),0):=by
  intro s;unfold tK;have d1:decide (9223372036854775807<(a:Int))=false:=by simp;omega
  have d2:decide (9223372036854775807<(b:Int))=false:=by simp;omega
  have v1:aA .i64 (a:Int)=a:=by rw [wi];omega
  have v2:aA .i64 (b:Int)=b:=by rw [wi];omega
  have v3:aA .i64 (0- (a:Int))= -(a:Int):=by rw [wi];omega
  simp only [show decide ((0:Int)<0)=false from rfl,cond_false,d1,d2,v1,v2,v3];cases s<;>simp
 have fin: ∀s:Bool,(if s=true then -(a:Int) else a)*d=n*b-> ∃r,(some ((if s=true then -(a:Int) else a,(b:Int)),(0:Int)):Option ((Int×Int)×Int))=some (r,0)/\cM r/\sS r/\r.1*d=n*r.2:=by
  intro s hv;refine ⟨_,rfl,?_,?_,hv⟩
  · unfold cM
    dsimp only;refine ⟨by omega,?_,?_⟩
    · cases s
      · simp only [Bool.false_eq_true,if_false];omega
      · simp only [if_true];omega
    · rw [show (if s=true then -(a:Int) else (a:Int)).natAbs=a by cases s<;>simp,show ((b:Int)).natAbs=b by omega];exact co
  · constructor
    · dsimp only;cases s
      · simp only [Bool.false_eq_true,if_false];constructor<;>omega
      · simp only [if_true];constructor<;>omega
    · dsimp only;constructor<;>omega
 simp only [w1,w2,made,aD]
 by_cases h1:(!(decide (n<0)==decide (d<0)))=true
 · rw [h1]
   refine fin (n !=0) ?_
   by_cases hn0:n=0
   · subst hn0
     have a0:(a:Int)=0:=by
      have:((d.natAbs:Nat):Int)*(a:Int)=0:=by rw [<- val];simp
      rcases Int.mul_eq_zero.1 this with h|h
      · omega
      · exact h
     simp [a0]
   · have e:(n !=0)=true:=by simpa using hn0
     rw [e,if_pos rfl]
     by_cases hneg:n<0
     · have hd0: ¬d<0:=fun k=>by simp [hneg,k] at h1
       have x1:(n.natAbs:Int)= -n:=by omega
       have x2:(d.natAbs:Int)=d:=by omega
       rw [x1,x2,Int.neg_mul] at val;rw [Int.neg_mul,Int.mul_comm];omega
     · have hd0:d<0:=by
        by_cases k:d<0
        · exact k
        · simp [hneg,k] at h1
       have x1:(n.natAbs:Int)=n:=by omega
       have x2:(d.natAbs:Int)= -d:=by omega
       rw [x1,x2,Int.neg_mul] at val;rw [Int.neg_mul,Int.mul_comm];omega
 · rw [Bool.not_eq_true] at h1;rw [h1]
   refine fin false ?_;rw [if_neg (by simp)]
   by_cases hneg:n<0
   · have hd0:d<0:=by
      by_cases k:d<0
      · exact k
      · simp [hneg,k] at h1
     have x1:(n.natAbs:Int)= -n:=by omega
     have x2:(d.natAbs:Int)= -d:=by omega
     rw [x1,x2,Int.neg_mul,Int.neg_mul] at val;rw [Int.mul_comm];omega
   · have hd0: ¬d<0:=fun k=>by simp [hneg,k] at h1
     have x1:(n.natAbs:Int)=n:=by omega
     have x2:(d.natAbs:Int)=d:=by omega
     rw [x1,x2] at val;rw [Int.mul_comm];omega
theorem YN {p q:Pt} (hp:gY p) (hq:gY q) (h:p.2.2≠q.2.2):oO (p.2.1-q.2.1) (q.2.2-p.2.2)=some (met p q,0)/\cM (met p q)/\sS (met p q)/\(met p q).1*(q.2.2-p.2.2)=(p.2.1-q.2.1)*(met p q).2:=by
 obtain ⟨a1,a2,a3,a4,a5,a6⟩:=hp;obtain ⟨b1,b2,b3,b4,b5,b6⟩:=hq;obtain ⟨r,h1,h2,h3⟩:=YM (n:=p.2.1-q.2.1) (d:=q.2.2-p.2.2) (by omega) (by omega) (by omega)
 have:met p q=r:=by unfold met;rw [h1];rfl
 rw [this];exact ⟨h1,h2,h3⟩
theorem QP {p q:Pt} (hp:gY p) (hq:gY q):aA .i64 (p.2.1-q.2.1)=p.2.1-q.2.1/\aA .i64 (q.2.2-p.2.2)=q.2.2-p.2.2/\CB (p.2.1-q.2.1)/\CB (q.2.2-p.2.2):=by
 obtain ⟨a1,a2,a3,a4,a5,a6⟩:=hp;obtain ⟨b1,b2,b3,b4,b5,b6⟩:=hq;have h1:CB (p.2.1-q.2.1):=by constructor<;>omega
 have h2:CB (q.2.2-p.2.2):=by constructor<;>omega
 exact ⟨fT h1,fT h2,h1,h2⟩
noncomputable def F1 (h l:Pt) (t:Int×Int):(Int×Int)×Bool:=if bI l h t then (t,true) else if h.2.2<l.2.2 then (met h l,true) else ((0,0),false)
theorem aRj {p q:Pt} (hp:gY p) (hq:gY q) (h:p.2.2≠q.2.2):EV p q=some (met p q):=by
 obtain ⟨w1,w2,_,_⟩:=QP hp hq;unfold EV;rw [w1,w2,(YN hp hq h).1];rfl
theorem YO {h l:Pt} {t:Int×Int} (hh:gY h) (hl:gY l) (ht:sS t):uF h l t=some (F1 h l t):=by
 unfold uF F1;rw [VW hl hh ht];simp only [aD]
 by_cases h1:bI l h t
 · simp [h1]
 · simp only [h1,decide_false,cond_false,if_false]
   by_cases h2:h.2.2<l.2.2
   · simp [h2,aRj hh hl (by omega)]
   · simp [h2]
theorem aDK:cM (0,1):=by unfold cM;decide
theorem LQ {h l:Pt} {t:Int×Int} (ht:sS t):
 wU h l t=some (if gY h/\gY l/\cM t/\h.1≠l.1 then ((F1 h l t).1,(F1 h l t).2,0) else ((0,0),false,if gY h/\gY l/\cM t then 2 else 8)):=by
 unfold wU;rw [zW ht]
 by_cases h1:gY h/\gY l/\cM t
 · rw [if_pos h1]
   by_cases h2:h.1=l.1
   · simp [h1,h2]
   · obtain ⟨hh,hl,hr⟩:=h1
     rw [if_neg h2,if_pos ⟨hh,hl,hr,h2⟩];simp only [aD,show ((0:Int) !=0)=false from rfl,cond_false,zE hl hh ht];unfold F1
     by_cases h3:bI l h t
     · have:decide (0<YL l h t)=true:=by simpa using (OB l h t).2 h3
       rw [this];simp [h3]
     · have:decide (0<YL l h t)=false:=decide_eq_false fun k=>h3 ((OB l h t).1 k)
       rw [this,if_neg h3];simp only [cond_false]
       by_cases h4:h.2.2<l.2.2
       · have e:decide (l.2.2<=h.2.2)=false:=by simp;omega
         rw [e,if_pos h4];unfold DV;obtain ⟨w1,w2,i1,i2⟩:=QP hh hl;have e2:(h.2.2==l.2.2)=false:=by simp;omega
         rw [zW (by constructor<;>constructor<;>decide),if_pos ⟨hh,hl,aDK⟩,if_neg h2]
         simp only [aD,show ((0:Int) !=0)=false from rfl,cond_false,e2,w1,w2,aKY i1 i2,(YN hh hl (by omega)).1]
         rfl
       · have e:decide (l.2.2<=h.2.2)=true:=by simp;omega
         rw [e,if_neg h4];rfl
 · rw [if_neg h1,if_neg (fun h=>h1 ⟨h.1,h.2.1,h.2.2.1⟩),if_neg h1];rfl
theorem OC {h l:Pt} {t:Int×Int} (hh:gY h) (hl:gY l) (ht:sS t) (hr:cM t) (h2:(F1 h l t).2=true):cM (F1 h l t).1/\sS (F1 h l t).1:=by
 unfold F1 at*
 by_cases h3:bI l h t
 · rw [if_pos h3];exact ⟨hr,ht⟩
 · rw [if_neg h3] at h2 ⊢
   by_cases h4:h.2.2<l.2.2
   · rw [if_pos h4];have:=(YN hh hl (by omega)).2;exact ⟨this.1,this.2.1⟩
   · rw [if_neg h4] at h2;cases h2
theorem YP: ∀(n:Nat) (l:List Nat),l.Nodup->(∀x∈l,x<n)->l.length<=n
 |0,l,_,h=>by
  cases l with
  |nil=>simp
  |cons a l=>exact absurd (h a (by simp)) (by omega)
 |n+1,l,hd,h=>by
  have h1:=YP n (l.filter (fun x=>x≠n)) (hd.filter _) (by
   intro x hx;rw [List.mem_filter] at hx
   have:=h x hx.1
   have h2:x≠n:=by simpa using hx.2
   omega)
  have h2:l.length<=(l.filter (fun x=>x≠n)).length+1:=by
   clear h1 h
   induction l with
   |nil=>simp
   |cons a l ih=>
    rw [List.nodup_cons] at hd
    have:=ih hd.2
    by_cases ha:a=n
    · subst ha
      have e:l.filter (fun x=>decide (x≠a))=l:=by
       rw [List.filter_eq_self];intro x hx;simp only [ne_eq,decide_eq_true_eq];rintro rfl;exact hd.1 hx
      rw [List.filter_cons_of_neg (by simp),e];simp
    · rw [List.filter_cons_of_pos (by simpa using ha)]
      simp only [List.length_cons];omega
  omega
theorem K3 {n:Nat} {l:List Nat} (hd:l.Nodup) (h: ∀x∈l,x<n) (hn:n<=l.length): ∀x,x<n->x∈l:=by
 intro x hx;refine Classical.byContradiction fun hc=>?_
 have:=YP n (x::l) (by rw [List.nodup_cons];exact ⟨hc,hd⟩) (by
  intro y hy;rcases List.mem_cons.1 hy with rfl|hy
  · exact hx
  · exact h y hy)
 simp only [List.length_cons] at this;omega
def gM (l:List Pt):Prop:= ∀i,i+1<l.length->(l[i]!).1<(l[i+1]!).1
def cC (l:List Pt):Prop:=l.length<=64/\(∀p∈l,gY p)/\gM l
noncomputable def yA (l:List Pt):Int:=if 64<l.length then 4 else if¬(∀p∈l,gY p) then 8 else if¬gM l then 32 else 0
theorem eV {l:List Pt}:yA l=0↔cC l:=by
 unfold yA cC
 by_cases h1:64<l.length
 · rw [if_pos h1];simp;omega
 · rw [if_neg h1]
   by_cases h2: ∀p∈l,gY p
   · rw [if_neg (Classical.not_not.2 h2)]
     by_cases h3:gM l
     · rw [if_neg (Classical.not_not.2 h3)]
       exact ⟨fun _=>⟨by omega,h2,h3⟩,fun _=>rfl⟩
     · rw [if_pos h3]
       exact ⟨fun h=>(by cases h),fun h=>absurd h.2.2 h3⟩
   · rw [if_pos h2]
     constructor
     · intro h;cases h
     · intro h;exact absurd h.2.1 h2
theorem bF {n:Nat} (h:n<1000000000):aA .i64 ((n:Int)+1)=((n+1:Nat):Int):=by rw [wi];omega
theorem wZ {n:Nat} (h:n<1000000000) (h1:1<=n):aA .i64 ((n:Int) -1)=((n-1:Nat):Int):=by rw [wi];omega
theorem aF (n:Nat):Int.ofNat n=(n:Int):=rfl
theorem VX (l:List Pt) (h:l.length<=64):aI jX (1,l)=some (.done (if gM l then 0 else 32)):=by
 by_cases hl:l.length<=1
 · have:gM l:=fun i hi=>by omega
   rw [if_pos this];refine aJ ?_;unfold jX;rw [aF]
   have:decide ((1:Int)<(l.length:Int))=false:=by simp;omega
   simp [this]
 · have key:=dP (body:=jX) (fun i=>(((i+1:Nat):Int),l)) (l.length-1) (fun i=>(l[i+1]!).1<=(l[i]!).1) (r:= .done 32) (e:= .done 0) (by
    intro i hi;have e1:decide (((i+1:Nat):Int)<(l.length:Int))=true:=by simp;omega
    have e2:aA .i64 (((i+1:Nat):Int) -1)=(i:Int):=by rw [wi];omega
    have hb:jX (((i+1:Nat):Int),l)=bif decide ((l[i+1]!).1<=(l[i]!).1) then some (.done (.done 32)) else some (.next (((i+1+1:Nat):Int),l)):=by
     unfold jX;simp only [aF,e1,cond_true,e2,aB l i (by omega),aB l (i+1) (by omega),aD,bF (show i+1<1000000000 by omega)]
    constructor
    · intro hc;rw [hb,decide_eq_true hc];rfl
    · intro hc;rw [hb,decide_eq_false hc];rfl) (by
    unfold jX
    have:decide (((l.length-1+1:Nat):Int)<Int.ofNat l.length)=false:=by rw [aF];simp;omega
    simp only [this,cond_false])
   by_cases hs:gM l
   · rw [if_pos hs]
     refine key.2 fun i hi=>?_
     have:=hs i (by omega)
     omega
   · rw [if_neg hs]
     refine key.1 ?_;unfold gM at hs;simp only [Classical.not_forall] at hs;obtain ⟨i,hi,h2⟩:=hs;exact ⟨i,by omega,by omega⟩
theorem oV (f:Field):jL f=some (yA f.points):=by
 unfold jL yA;rw [aF]
 by_cases h:64<f.points.length
 · have:decide ((64:Int)<(f.points.length:Int))=true:=by simp;omega
   rw [this,if_pos h];rfl
 · have:decide ((64:Int)<(f.points.length:Int))=false:=by simp;omega
   rw [this,if_neg h];simp only [cond_false];generalize f.points=l at*;have key:=dP (body:=oU) (fun i=>((i:Int),l)) l.length (fun i=> ¬gY l[i]!) (r:=8) (e:=if gM l then 0 else 32) (by
    intro i hi;have e1:decide ((i:Int)<(l.length:Int))=true:=by simp;omega
    have hb:oU ((i:Int),l)=bif (if gY l[i]! then (0:Int) else 8) !=0 then some (.done 8) else some (.next (((i+1:Nat):Int),l)):=by
     unfold oU;simp only [aF,e1,cond_true,aB l i (by omega),aD,mL,bF (show i<1000000000 by omega)]
    constructor
    · intro hc;rw [hb,if_neg hc];rfl
    · intro hc;rw [hb,if_pos (Classical.not_not.1 hc)];rfl) (by
    unfold oU
    have:decide ((l.length:Int)<Int.ofNat l.length)=false:=by rw [aF];simp
    simp only [this,cond_false];exact VX l (by omega))
   by_cases hp: ∀p∈l,gY p
   · rw [if_neg (Classical.not_not.2 hp)]
     refine (key.2 fun i hi=>?_).trans ?_
     · exact Classical.not_not.2 (hp _ (aQ hi))
     · by_cases hs:gM l
       · simp [hs]
       · simp [hs]
   · rw [if_pos hp]
     refine key.1 ?_;obtain ⟨p,hp⟩:=Classical.not_forall.1 hp;obtain ⟨hm,h2⟩:=Classical.not_imp.1 hp;obtain ⟨i,hi,rfl⟩:=aW.1 hm;exact ⟨i,hi,h2⟩
theorem VY (l:List Pt) (h:l.length<=64):aI jU (l,(l.length:Int),0,l)=some (.done (if gM l then 0 else 32)):=by
 have key:=dP (body:=jU) (fun i=>(l,(l.length:Int),(i:Int),l)) l.length (fun i=>0<i/\(l[i]!).1<=(l[i-1]!).1) (r:= .done 32) (e:= .done 0) (by
  intro i hi;have e1:decide ((i:Int)<(l.length:Int))=true:=by simp;omega
  by_cases h0:0<i
  · have e3:decide ((0:Int)<(i:Int))=true:=by simp;omega
    have hb:jU (l,(l.length:Int),(i:Int),l)=bif decide ((l[i]!).1<=(l[i-1]!).1) then some (.done (.done 32)) else some (.next (l,(l.length:Int),((i+1:Nat):Int),l)):=by
     unfold jU;simp only [e1,e3,cond_true,aB l i (by omega),wZ (show i<1000000000 by omega) h0,aB l (i-1) (by omega),aD,bF (show i<1000000000 by omega)]
    constructor
    · intro hc;rw [hb,decide_eq_true hc.2];rfl
    · intro hc
      have: ¬(l[i]!).1<=(l[i-1]!).1:=fun h=>hc ⟨h0,h⟩
      rw [hb,decide_eq_false this];rfl
  · have e3:decide ((0:Int)<(i:Int))=false:=by simp;omega
    constructor
    · intro hc;exact absurd hc.1 h0
    · intro _
      unfold jU;simp only [e1,e3,cond_true,cond_false,aB l i (by omega),aD,bF (show i<1000000000 by omega)]) (by
  unfold jU
  have:decide ((l.length:Int)<(l.length:Int))=false:=by simp
  simp only [this,cond_false])
 by_cases hs:gM l
 · rw [if_pos hs]
   refine key.2 fun i hi=>?_
   rintro ⟨h0,h1⟩
   have:=hs (i-1) (by omega)
   rw [show i-1+1=i by omega] at this
   omega
 · rw [if_neg hs]
   refine key.1 ?_;unfold gM at hs;simp only [Classical.not_forall] at hs;obtain ⟨i,hi,h2⟩:=hs;exact ⟨i+1,by omega,by omega,by rw [show i+1-1=i by omega];omega⟩
theorem gA (f:Field):dL f=some (yA f.points):=by
 unfold dL yA;rw [aF]
 by_cases h:64<f.points.length
 · have:decide ((64:Int)<(f.points.length:Int))=true:=by simp;omega
   rw [this,if_pos h];rfl
 · have:decide ((64:Int)<(f.points.length:Int))=false:=by simp;omega
   rw [this,if_neg h];simp only [cond_false];generalize f.points=l at*;have key:=dP (body:=oP) (fun i=>(l,(l.length:Int),(i:Int),l)) l.length (fun i=> ¬gY l[i]!) (r:=8) (e:=if gM l then 0 else 32) (by
    intro i hi;have e1:decide ((i:Int)<(l.length:Int))=true:=by simp;omega
    have hb:oP (l,(l.length:Int),(i:Int),l)=bif (if gY l[i]! then (0:Int) else 8) !=0 then some (.done (if gY l[i]! then (0:Int) else 8)) else some (.next (l,(l.length:Int),((i+1:Nat):Int),l)):=by
     unfold oP;simp only [e1,cond_true,aB l i (by omega),aD,kM,bF (show i<1000000000 by omega)]
    constructor
    · intro hc;rw [hb,if_neg hc];rfl
    · intro hc;rw [hb,if_pos (Classical.not_not.1 hc)];rfl) (by
    unfold oP
    have:decide ((l.length:Int)<(l.length:Int))=false:=by simp
    simp only [this,cond_false];exact VY l (by omega))
   by_cases hp: ∀p∈l,gY p
   · rw [if_neg (Classical.not_not.2 hp)]
     refine (key.2 fun i hi=>?_).trans ?_
     · exact Classical.not_not.2 (hp _ (aQ hi))
     · by_cases hs:gM l
       · simp [hs]
       · simp [hs]
   · rw [if_pos hp]
     refine key.1 ?_;obtain ⟨p,hp⟩:=Classical.not_forall.1 hp;obtain ⟨hm,h2⟩:=Classical.not_imp.1 hp;obtain ⟨i,hi,rfl⟩:=aW.1 hm;exact ⟨i,hi,h2⟩
theorem iS {l:List Pt} (h:gM l) {i j:Nat} (hij:i<j) (hj:j<l.length):(l[i]!).1<(l[j]!).1:=by
 induction j with
 |zero=>omega
 |succ j ih=>
  have h1:=h j hj
  by_cases he:i=j
  · subst he;exact h1
  · have:=ih (by omega) (by omega);omega
theorem CE {l:List Pt} (h:gM l) {i j:Nat} (hi:i<l.length) (hj:j<l.length) (he:(l[i]!).1=(l[j]!).1):i=j:=by
 rcases Nat.lt_trichotomy i j with h1|h1|h1
 · have:=iS h h1 hj;omega
 · exact h1
 · have:=iS h h1 hi;omega
theorem K4 (l:List Pt) (id:Int) (hl:l.length<=1000000):(∀k,k<l.length->(l[k]!).1=id->(∀j,j<k->(l[j]!).1≠id)->fO ⟨l⟩ id=some (k:Int))/\((∀k,k<l.length->(l[k]!).1≠id)->fO ⟨l⟩ id=some (-1)):=by
 unfold fO;refine mX (body:=vF) (fun i=>(id,(i:Int),l)) l.length (fun i=>(l[i]!).1=id) (fun i=>(i:Int)) (fun i hi=>?_) ?_
 · have e1:decide ((i:Int)<(l.length:Int))=true:=by simp;omega
   have hb:vF (id,(i:Int),l)=bif (l[i]!).1==id then some (.done (i:Int)) else some (.next (id,((i+1:Nat):Int),l)):=by
    unfold vF;simp only [aF,e1,cond_true,aB l i hi,aD,bF (show i<1000000000 by omega)]
   constructor
   · intro hc;rw [hb,eZ hc];rfl
   · intro hc;rw [hb,eM hc];rfl
 · unfold vF
   have:decide ((l.length:Int)<(l.length:Int))=false:=by simp
   simp only [aF,this,cond_false]
theorem A4 {l:List Pt} (hs:gM l) (hl:l.length<=1000000) {k:Nat} (hk:k<l.length) {id:Int} (he:(l[k]!).1=id):fO ⟨l⟩ id=some (k:Int):=by
 refine (K4 l id hl).1 k hk he fun j hj hc=>?_
 have:=iS hs hj hk
 omega
theorem aK0 {l:List Pt} (hl:l.length<=1000000) {id:Int} (h: ∀k,k<l.length->(l[k]!).1≠id):fO ⟨l⟩ id=some (-1):=(K4 l id hl).2 h
theorem VZ (f:Nat->Int) (id:Int): ∀(n:Nat),(∀i j,i<j->j<n->f i<f j)-> ∃m,m<=n/\(∀i,i<m->f i<id)/\(∀i,m<=i->i<n->id<=f i)
 |0,_=>⟨0,Nat.le_refl _,fun i h=>by omega,fun i _ h=>by omega⟩
 |n+1,h=>by
  obtain ⟨m,h1,h2,h3⟩:=VZ f id n fun i j a b=>h i j a (by omega)
  by_cases hm:m=n
  · by_cases hf:f n<id
    · refine ⟨n+1,Nat.le_refl _,fun i hi=>?_,fun i a b=>by omega⟩
      by_cases he:i=n
      · subst he;exact hf
      · exact h2 i (by omega)
    · refine ⟨n,by omega,fun i hi=>h2 i (by omega),fun i a b=>?_⟩
      have:i=n:=by omega
      subst this;omega
  · refine ⟨m,by omega,h2,fun i a b=>?_⟩
    by_cases he:i=n
    · subst he
      have:=h m i (by omega) (by omega)
      have:=h3 m (Nat.le_refl _) (by omega)
      omega
    · exact h3 i a (by omega)
theorem bR {α:Type} [Inhabited α] {l:List α}:l.Nodup↔ ∀i j,i<j->j<l.length->l[i]!≠l[j]!:=by
 unfold List.Nodup;rw [List.pairwise_iff_getElem];constructor
 · intro h i j hij hj
   rw [getElem!_pos l i (by omega),getElem!_pos l j hj]
   exact h i j (by omega) hj hij
 · intro h i j hi hj hij
   have:=h i j hij hj
   rwa [getElem!_pos l i hi,getElem!_pos l j hj] at this
theorem cU {α:Type} [Inhabited α] {l:List α} {k:Nat} {x:α}:x∈l.take k↔ ∃i,i<k/\i<l.length/\l[i]! =x:=by
 rw [aW];constructor
 · rintro ⟨i,hi,rfl⟩
   rw [List.length_take] at hi;exact ⟨i,by omega,by omega,(nZ (by omega)).symm⟩
 · rintro ⟨i,h1,h2,rfl⟩
   exact ⟨i,by rw [List.length_take];omega,nZ h1⟩
theorem iI {α:Type} [Inhabited α] {l:List α} {k:Nat} (h:k<l.length):l.take (k+1)=l.take k++[l[k]!]:=by
 rw [List.take_add_one,List.getElem?_eq_getElem h,getElem!_pos l k h];rfl
def gJ (l:List Bool):List Int->List Bool
 | []=>l
 |x::r=>gJ (bN l x true) r
theorem pI: ∀(r:List Int) (l:List Bool),(gJ l r).length=l.length
 | [],_=>rfl
 |x::r,l=>by rw [gJ,pI r,AR]
theorem G2: ∀(r:List Int) (l:List Bool) (x:Int),gJ l (r++[x])=bN (gJ l r) x true
 | [],_,_=>rfl
 |y::r,l,x=>by
  show gJ (bN l y true) (r++[x])=_;rw [G2 r];rfl
theorem rG : ∀ (r : List Int) (l : List Bool) (i : Nat), (∀ x ∈ r, 0 <= x) -> i < l.length -> (gJ l r)[i]! = (l[i]! || decide ((i : Int) ∈ r))
  | [], l, i, _, _ => by simp [gJ]
  | x :: r, l, i, h, hi => by
    rw [gJ, rG r _ i (fun y hy => h y (by simp [hy])) (by rw [AR]; exact hi)]
    obtain ⟨k, rfl⟩ := Int.eq_ofNat_of_zero_le (h x (by simp))
    rw [eO, bG]
    by_cases e : i = k
    · subst e; rw [if_pos ⟨rfl, hi⟩]; simp
    · rw [if_neg (fun h => e h.1)]
      have : ((i : Int) ∈ (k : Int) :: r) ↔ (i : Int) ∈ r := by
        rw [List.mem_cons]
        constructor
        · rintro (h | h)
          · omega
          · exact h
        · exact .inr
      simp only [this]
theorem OD (l:List Bool) (h:l.length<=1000000):fD l false=some (decide (false∈l)):=by
 unfold fD sC;have key:=mX (body:=iF) (fun i=>(l,false,(l.length:Int),(i:Int))) l.length (fun i=>l[i]! =false) (fun i=>(i:Int)) (e:= -1) (fun i hi=>by
  have e1:decide ((i:Int)<(l.length:Int))=true:=by simp;omega
  have hb:iF (l,false,(l.length:Int),(i:Int))=bif false==l[i]! then some (.done (i:Int)) else some (.next (l,false,(l.length:Int),((i+1:Nat):Int))):=by
   unfold iF;simp only [e1,cond_true,aB l i hi,aD,bF (show i<1000000000 by omega)]
  constructor
  · intro hc;rw [hb,hc];rfl
  · intro hc
    have:l[i]! =true:=by simpa using hc
    rw [hb,this];rfl) (by
  unfold iF
  have:decide ((l.length:Int)<(l.length:Int))=false:=by simp
  simp only [this,cond_false])
 rw [aF]
 by_cases hx:false∈l
 · obtain ⟨i,hi,he⟩:=aW.1 hx
   obtain ⟨k,h1,h2,h3⟩:=D0 (c:=fun i=>l[i]! =false) ⟨i,hi,he⟩
   have:=key.1 k h1 h2 h3
   rw [show ((0:Nat):Int)=0 from rfl] at this;rw [this];have e:decide ((0:Int)<=(k:Int))=true:=by simp
   simp [hx]
 · have:=key.2 fun i hi he=>hx (aW.2 ⟨i,hi,he⟩)
   rw [show ((0:Nat):Int)=0 from rfl] at this;rw [this];simp [hx]
structure fU (s:aY):Prop where
 n1:1<=s.uses.length
 n2:s.uses.length<=200
 ul:s.used.length=s.uses.length
 fr: ∀x∈s.free,0<=x/\x<s.uses.length
 fd:s.free.Nodup
 uf: ∀i,i<s.uses.length->(s.used[i]! =true↔(i:Int)∉s.free)
 us: ∀i,i<s.uses.length->0<=s.uses[i]!/\s.uses[i]!<=1000000/\(s.used[i]! =true->1<=s.uses[i]!)
theorem YQ (uses:List Int) (used:List Bool) (fr:List Int) (h1:uses.length<=200) (h2:used.length=uses.length):
 aI iE (uses,(uses.length:Int),0,uses,used,fr)=some (.done (if∀i,i<uses.length->0<=uses[i]!/\uses[i]!<=1000000/\(used[i]! =true->1<=uses[i]!) then 0 else 8)):=by
 have key:=dP (body:=iE) (fun i=>(uses,(uses.length:Int),(i:Int),uses,used,fr)) uses.length (fun i=> ¬(0<=uses[i]!/\uses[i]!<=1000000/\(used[i]! =true->1<=uses[i]!))) (r:= .done 8) (e:= .done 0) (fun i hi=>by
  have e1:decide ((i:Int)<(uses.length:Int))=true:=by simp;omega
  have hb:iE (uses,(uses.length:Int),(i:Int),uses,used,fr)=bif decide (uses[i]!<0) then some (.done (.done 8)) else bif decide (1000000<uses[i]!) then some (.done (.done 8)) else bif uses[i]! ==0 then (bif used[i]! then some (.done (.done 8)) else some (.next (uses,(uses.length:Int),((i+1:Nat):Int),uses,used,fr))) else some (.next (uses,(uses.length:Int),((i+1:Nat):Int),uses,used,fr)):=by
   unfold iE;simp only [e1,cond_true,aB uses i hi,aB used i (by omega),aD,bF (show i<1000000000 by omega)]
  rw [hb];generalize uses[i]! =u at*
  by_cases a1:u<0
  · simp [a1];omega
  · by_cases a2:1000000<u
    · simp [a1,a2];omega
    · by_cases a3:u=0
      · subst a3
        cases used[i]!<;>simp
      · have a4:1<=u:=by omega
        have a5:0<=u:=by omega
        have a6:u<=1000000:=by omega
        simp [a1,a2,eM a3,a4,a5,a6]) (by
  unfold iE
  have:decide ((uses.length:Int)<(uses.length:Int))=false:=by simp
  simp only [this,cond_false])
 by_cases hc: ∀i,i<uses.length->0<=uses[i]!/\uses[i]!<=1000000/\(used[i]! =true->1<=uses[i]!)
 · rw [if_pos hc]
   exact key.2 fun i hi=>Classical.not_not.2 (hc i hi)
 · rw [if_neg hc]
   simp only [Classical.not_forall] at hc;obtain ⟨i,hi,hx⟩:=hc;exact key.1 ⟨i,hi,by simpa only [Classical.not_forall] using hx⟩
theorem zX (s:aY) (hf:s.free.length<=1000000):tN s=some (if fU s then 0 else 8):=by
 obtain ⟨uses,used,fr⟩:=s;dsimp only at hf;unfold tN;simp only [aF]
 by_cases a1:uses.length<1
 · have e:decide ((uses.length:Int)<1)=true:=by simp;omega
   rw [e,if_neg (fun h=>by have:=h.n1;dsimp only at this;omega)];rfl
 have e1:decide ((uses.length:Int)<1)=false:=by simp;omega
 by_cases a2:200<uses.length
 · have e:decide (200<(uses.length:Int))=true:=by simp;omega
   rw [e1,e,if_neg (fun h=>by have:=h.n2;dsimp only at this;omega)];rfl
 have e2:decide (200<(uses.length:Int))=false:=by simp;omega
 by_cases a3:used.length=uses.length
 case neg=>
  have e:((used.length:Int) !=(uses.length:Int))=true:=by simp;omega
  rw [e1,e2,e,if_neg (fun h=>a3 h.ul)];rfl
 have e3:((used.length:Int) !=(uses.length:Int))=false:=by simp;omega
 simp only [e1,e2,e3,cond_false,bE (show used.length<=1048576 by omega),aD]
 have inner:=YQ uses used fr (by omega) a3
 have key:=dP (body:=uI used) (fun k=>(fr,(fr.length:Int),(k:Int),uses,used,fr,(uses.length:Int),gJ used (fr.take k))) fr.length
  (fun k=>fr[k]!<0\/(uses.length:Int)<=fr[k]!\/(gJ used (fr.take k))[(fr[k]!).toNat]! =true) (r:=8)
  (e:=if false∈gJ used fr then 8 else if∀i,i<uses.length->0<=uses[i]!/\uses[i]!<=1000000/\(used[i]! =true->1<=uses[i]!) then 0 else 8) (fun k hk=>by
   have f1:decide ((k:Int)<(fr.length:Int))=true:=by simp;omega
   have f2:((gJ used (fr.take k)).length==used.length)=true:=by rw [pI];simp
   have f3:decide ((0:Int)<=(k:Int))=true:=by simp
   have f4: ∀x:Int,((bN (gJ used (fr.take k)) x true).length==(gJ used (fr.take k)).length)=true:=by intro x;rw [AR];simp
   have f5:gJ used (fr.take (k+1))=bN (gJ used (fr.take k)) fr[k]! true:=by rw [iI hk,G2]
   unfold uI;simp only [f1,f2,f3,f4,cond_true,beq_self_eq_true,aB fr k hk,aD,bF (show k<1000000000 by omega),f5]
   clear f5;generalize fr[k]! =x
   by_cases b1:x<0
   · simp [b1]
   · by_cases b2:(uses.length:Int)<=x
     · simp [b1,b2]
     · simp only [b1,b2,decide_false,cond_false,false_or]
       rw [eI (l:=gJ used (fr.take k)) (i:=x) (by omega) (by rw [pI];omega)]
       simp only [aD];cases (gJ used (fr.take k))[x.toNat]!<;>simp) (by
   have f1:decide ((fr.length:Int)<(fr.length:Int))=false:=by simp
   unfold uI;simp only [f1,cond_false,List.take_length];rw [OD _ (by rw [pI];omega)]
   have f2:((gJ used fr).length==used.length)=true:=by rw [pI];simp
   simp only [f2,cond_true,aD,aF,inner]
   by_cases hx:false∈gJ used fr
   · simp [hx]
   · simp [hx])
 have h0:gJ used (fr.take 0)=used:=rfl;rw [show ((0:Nat):Int)=0 from rfl,h0] at key
 by_cases bad: ∃k,k<fr.length/\(fr[k]!<0\/(uses.length:Int)<=fr[k]!\/(gJ used (fr.take k))[(fr[k]!).toNat]! =true)
 · rw [key.1 bad,if_neg]
   intro ok;obtain ⟨k,hk,hb⟩:=bad;have hr:=ok.fr fr[k]! (aQ hk);dsimp only at hr;rcases hb with hb|hb|hb
   · omega
   · omega
   · rw [rG _ _ _ (fun x hx=>(ok.fr x (List.mem_of_mem_take hx)).1) (by omega)] at hb
     have hi:((fr[k]!).toNat:Int)=fr[k]!:=by omega
     rw [hi,Bool.or_eq_true] at hb;rcases hb with hb|hb
     · have:=(ok.uf (fr[k]!).toNat (by show _<uses.length;omega)).1 hb
       rw [hi] at this;exact this (aQ hk)
     · have hm:fr[k]!∈fr.take k:=by simpa using hb
       obtain ⟨j,h1,h2,h3⟩:=cU.1 hm;exact bR.1 ok.fd j k h1 hk h3
 · have good: ∀k,k<fr.length->0<=fr[k]!/\fr[k]!<uses.length/\(gJ used (fr.take k))[(fr[k]!).toNat]! =false:=by
    intro k hk;refine ⟨?_,?_,?_⟩
    · exact Int.not_lt.1 fun h=>bad ⟨k,hk,.inl h⟩
    · exact Int.not_le.1 fun h=>bad ⟨k,hk,.inr (.inl h)⟩
    · exact Bool.not_eq_true _▸fun h=>bad ⟨k,hk,.inr (.inr h)⟩
   rw [key.2 fun k hk hb=>bad ⟨k,hk,hb⟩]
   have rng: ∀x∈fr,0<=x/\x<(uses.length:Int):=by
    intro x hx;obtain ⟨k,hk,rfl⟩:=aW.1 hx;exact ⟨(good k hk).1,(good k hk).2.1⟩
   have g2: ∀k,k<fr.length->used[(fr[k]!).toNat]! =false/\fr[k]!∉fr.take k:=by
    intro k hk;obtain ⟨c1,c2,c3⟩:=good k hk;rw [rG _ _ _ (fun x hx=>(rng x (List.mem_of_mem_take hx)).1) (by omega),show ((fr[k]!).toNat:Int)=fr[k]! by omega,Bool.or_eq_false_iff] at c3
    exact ⟨c3.1,by simpa using c3.2⟩
   have nd:fr.Nodup:=bR.2 fun i j hij hj he=>(g2 j hj).2 (cU.2 ⟨i,hij,by omega,he⟩)
   by_cases hx:false∈gJ used fr
   · rw [if_pos hx,if_neg]
     intro ok;obtain ⟨i,hi,he⟩:=aW.1 hx;rw [pI] at hi;rw [rG _ _ _ (fun x hx=>(rng x hx).1) hi,Bool.or_eq_false_iff] at he
     have h3:(i:Int)∉fr:=by simpa using he.2
     have:=(ok.uf i (by show _<uses.length;omega)).2 h3
     rw [show used[i]! =false from he.1] at this;cases this
   · rw [if_neg hx]
     by_cases hu: ∀i,i<uses.length->0<=uses[i]!/\uses[i]!<=1000000/\(used[i]! =true->1<=uses[i]!)
     · rw [if_pos hu,if_pos]
       refine ⟨by show 1<=uses.length;omega,by show uses.length<=200;omega,a3,rng,nd,fun i hi=>?_,hu⟩
       dsimp only at hi ⊢;constructor
       · intro h1 h2
         obtain ⟨k,hk,he⟩:=aW.1 h2
         have:=(g2 k hk).1
         rw [he,show ((i:Int)).toNat=i by omega,h1] at this
         cases this
       · intro h1
         refine Classical.byContradiction fun h2=>hx ?_
         refine aW.2 ⟨i,by rw [pI];omega,?_⟩
         rw [rG _ _ _ (fun x hx=>(rng x hx).1) (by omega)]
         have:used[i]! =false:=by simpa using h2
         rw [this];simpa using h1
     · rw [if_neg hu,if_neg]
       intro ok;exact hu ok.us
theorem fU.fl {s:aY} (ok:fU s):s.free.length<=s.uses.length:=by
 have h:=YP s.uses.length (s.free.map Int.toNat) (by
  rw [bR];intro i j hij hj he;rw [List.length_map] at hj;have e: ∀k,k<s.free.length->(s.free.map Int.toNat)[k]! =(s.free[k]!).toNat:=by
   intro k hk;rw [getElem!_pos _ k (by simpa using hk),List.getElem_map,getElem!_pos s.free k hk]
  rw [e i (by omega),e j hj] at he
  have h1:=(ok.fr _ (aQ (show i<s.free.length by omega))).1
  have h2:=(ok.fr _ (aQ hj)).1;exact bR.1 ok.fd i j hij hj (by omega)) (by
  intro x hx;obtain ⟨y,hy,rfl⟩:=List.mem_map.1 hx
  have:=ok.fr y hy
  omega)
 rwa [List.length_map] at h
def zF (s:aY) (h:Int×Int):Prop:=0<=h.1/\h.1<s.uses.length/\s.used[h.1.toNat]! =true/\s.uses[h.1.toNat]! =h.2
def gN (s:aY) (h:Int×Int):aY:=⟨s.uses,s.used.set h.1.toNat false,s.free++[h.1]⟩
def dI (s:aY):Nat:=(s.free[s.free.length-1]!).toNat
def C2 (s:aY):Prop:=0<s.free.length/\s.uses[dI s]!<1000000
def iJ (s:aY):aY:=⟨s.uses.set (dI s) (s.uses[dI s]!+1),s.used.set (dI s) true,s.free.take (s.free.length-1)⟩
def nK (s:aY):Int×Int:=((dI s:Int),s.uses[dI s]!+1)
theorem K5 {s:aY} (ok:fU s) (h:Int×Int):DW s h=some (decide (zF s h),0):=by
 have hl:=ok.fl;have hn:=ok.n2;have hu:=ok.ul;unfold DW zF;rw [zX s (by omega),if_pos ok]
 simp only [aD,show ((0:Int) !=0)=false from rfl,cond_false,aF]
 by_cases a1:0<=h.1
 · by_cases a2:h.1<s.uses.length
   · have e2:decide (h.1<(s.used.length:Int))=true:=by simp;omega
     simp only [a1,a2,e2,decide_true,cond_true,eI (l:=s.used) a1 (by omega),eI (l:=s.uses) a1 a2,aD,true_and]
     generalize s.uses[h.1.toNat]! =u;cases s.used[h.1.toNat]!<;>simp [aAv]
   · have e2:decide (h.1<(s.used.length:Int))=false:=by simp;omega
     simp [a1,a2,e2]
 · simp [a1]
theorem S1 {s:aY} (ok:fU s) {h:Int×Int} (lv:zF s h):E0 s h=some (gN s h,0):=by
 have hl:=ok.fl;have hn:=ok.n2;have hu:=ok.ul;unfold E0;rw [K5 ok,decide_eq_true lv];unfold vX;obtain ⟨l1,l2,l3,l4⟩:=lv;have e1:bN s.used h.1 false=s.used.set h.1.toNat false:=rfl
 simp only [aD,show ((0:Int) !=0)=false from rfl,cond_false,Bool.not_true,bE (show s.uses.length<=1048576 by omega),bE (show s.used.length<=1048576 by omega),bE (show s.free.length<=1048576 by omega),
  gG (show s.free.length+[h.1].length<=1048576 by simp;omega),eI (l:=s.used) l1 (by omega),e1,gN]
theorem zY {s:aY} (ok:fU s):qM s=some s:=by
 have hl:=ok.fl;have hn:=ok.n2;have hu:=ok.ul;unfold qM;simp only [aD,bE (show s.uses.length<=1048576 by omega),bE (show s.used.length<=1048576 by omega),bE (show s.free.length<=1048576 by omega)]
theorem OE {s:aY} (ok:fU s) {h:Int×Int} (lv:zF s h):rC s h=some (gN s h):=by
 have hl:=ok.fl;have hn:=ok.n2;have hu:=ok.ul;obtain ⟨l1,l2,l3,l4⟩:=lv;unfold rC;rw [zY ok];have e1:bN s.used h.1 false=s.used.set h.1.toNat false:=rfl;simp only [aD,gG (show s.free.length+[h.1].length<=1048576 by simp;omega),eI (l:=s.used) l1 (by omega),e1,gN]
theorem aDL {s:aY} (ok:fU s) {h:Int×Int} (lv:zF s h):fU (gN s h):=by
 have hl:=ok.fl;have hn:=ok.n2;have hu:=ok.ul;obtain ⟨l1,l2,l3,l4⟩:=lv;have nf:h.1∉s.free:=by
  have:=(ok.uf h.1.toNat (by omega)).1 l3
  rwa [show (h.1.toNat:Int)=h.1 by omega] at this
 refine ⟨ok.n1,ok.n2,?_,?_,?_,?_,?_⟩
 · show (s.used.set _ _).length=_;rw [List.length_set];exact hu
 · intro x hx
   rcases List.mem_append.1 hx with hx|hx
   · exact ok.fr x hx
   · rw [List.mem_singleton] at hx;subst hx;exact ⟨l1,l2⟩
 · show (s.free++[h.1]).Nodup
   rw [List.nodup_append];refine ⟨ok.fd,by simp,?_⟩
   intro x hx y hy he;rw [List.mem_singleton] at hy;subst hy;subst he;exact nf hx
 · intro i hi
   change i<s.uses.length at hi;show (s.used.set h.1.toNat false)[i]! =true↔(i:Int)∉s.free++[h.1];rw [bG,List.mem_append,List.mem_singleton]
   by_cases e:i=h.1.toNat
   · rw [if_pos ⟨e,by omega⟩]
     have:(i:Int)=h.1:=by omega
     simp [this]
   · rw [if_neg (fun k=>e k.1),ok.uf i hi]
     have: ¬(i:Int)=h.1:=by omega
     simp [this]
 · intro i hi
   change i<s.uses.length at hi;obtain ⟨u1,u2,u3⟩:=ok.us i hi;refine ⟨u1,u2,?_⟩;show (s.used.set h.1.toNat false)[i]! =true->_;rw [bG];split
   · intro h;cases h
   · exact u3
theorem E5 {s:aY} (ok:fU s) (h:0<s.free.length):dI s<s.uses.length/\(dI s:Int)=s.free[s.free.length-1]!/\(dI s:Int)∈s.free:=by
 have hm:=aQ (l:=s.free) (i:=s.free.length-1) (by omega)
 have:=ok.fr _ hm
 have e:(dI s:Int)=s.free[s.free.length-1]!:=by unfold dI;omega
 refine ⟨by omega,e,by rw [e];exact hm⟩
theorem oC {α:Type} (l:List α) (n:Nat) (h:n<=l.length):jR l 0 (n:Int)=some (l.take n):=by
 unfold jR;rw [if_pos ⟨by omega,by omega,by omega⟩]
 simp
theorem IT {s:aY} (ok:fU s):E1 s=some (if C2 s then (iJ s,nK s,0) else (⟨[],[],[]⟩,(0,0),18)):=by
 have hl:=ok.fl;have hn:=ok.n2;have hu:=ok.ul;unfold E1 C2;rw [zX s (by omega),if_pos ok]
 simp only [aD,show ((0:Int) !=0)=false from rfl,cond_false,aF]
 by_cases a1:0<s.free.length
 · obtain ⟨n1,n2,n3⟩:=E5 ok a1
   have e1:((s.free.length:Int)==0)=false:=eM (by omega)
   have e2:aA .i64 ((s.free.length:Int) -1)=((s.free.length-1:Nat):Int):=wZ (by omega) (by omega)
   unfold xV;simp only [e1,cond_false,aF,e2,oC s.free (s.free.length-1) (by omega),aD,bE (show (s.free.take (s.free.length-1)).length<=1048576 by rw [List.length_take];omega),
    aB s.free (s.free.length-1) (by omega),<- n2,aB s.uses (dI s) n1]
   obtain ⟨u1,u2,u3⟩:=ok.us (dI s) n1
   by_cases a2:s.uses[dI s]! =1000000
   · have e3:(s.uses[dI s]! ==1000000)=true:=by simpa using a2
     rw [e3,if_neg (by omega)];rfl
   · have e3:(s.uses[dI s]! ==1000000)=false:=by simpa using a2
     have e4:aA .i64 (s.uses[dI s]!+1)=s.uses[dI s]!+1:=by rw [wi];omega
     rw [e3,if_pos (by omega)]
     simp only [cond_false,bE (show s.uses.length<=1048576 by omega),bE (show s.used.length<=1048576 by omega),aD,aB s.used (dI s) (by omega),aB s.uses (dI s) n1,e4,eO,
      aB (s.uses.set (dI s) (s.uses[dI s]!+1)) (dI s) (by rw [List.length_set];exact n1),bG,n1,and_self,if_true,iJ,nK]
 · have e1:((s.free.length:Int)==0)=true:=eZ (by omega)
   rw [e1,if_neg (fun h=>a1 h.1)];rfl
theorem uR {s:aY} (ok:fU s):hY s=some (decide (C2 s)):=by
 have hl:=ok.fl;have hn:=ok.n2;have hu:=ok.ul;unfold hY C2;simp only [aF]
 by_cases a1:0<s.free.length
 · obtain ⟨n1,n2,n3⟩:=E5 ok a1
   have e1:decide ((0:Int)<(s.free.length:Int))=true:=by simp;omega
   have e2:aA .i64 ((s.free.length:Int) -1)=((s.free.length-1:Nat):Int):=wZ (by omega) (by omega)
   simp only [e1,e2,cond_true,aB s.free (s.free.length-1) (by omega),aD,<- n2,aB s.uses (dI s) n1,a1,true_and]
 · have e1:decide ((0:Int)<(s.free.length:Int))=false:=decide_eq_false (by omega)
   rw [e1];simp [a1]
theorem OF {s:aY} (ok:fU s) (h:C2 s):yU s=some (iJ s,nK s):=by
 have hl:=ok.fl;have hn:=ok.n2;have hu:=ok.ul;obtain ⟨a1,a2⟩:=h;obtain ⟨n1,n2,n3⟩:=E5 ok a1;obtain ⟨u1,u2,u3⟩:=ok.us (dI s) n1;unfold yU;rw [zY ok];have e2:aA .i64 ((s.free.length:Int) -1)=((s.free.length-1:Nat):Int):=wZ (by omega) (by omega)
 have e4:aA .i64 (s.uses[dI s]!+1)=s.uses[dI s]!+1:=by rw [wi];omega
 simp only [aD,aF,e2,aB s.free (s.free.length-1) (by omega),oC s.free (s.free.length-1) (by omega),<- n2,aB s.uses (dI s) n1,aB s.used (dI s) (by omega),e4,eO,
  aB (s.uses.set (dI s) (s.uses[dI s]!+1)) (dI s) (by rw [List.length_set];exact n1),bG,n1,and_self,if_true,iJ,nK,Int.toNat_natCast]
theorem aDM {s:aY} (ok:fU s) (h:C2 s):fU (iJ s):=by
 have hl:=ok.fl;have hn:=ok.n2;have hu:=ok.ul;obtain ⟨a1,a2⟩:=h;obtain ⟨n1,n2,n3⟩:=E5 ok a1;have mt: ∀x:Int,x∈s.free.take (s.free.length-1)↔(x∈s.free/\x≠(dI s:Int)):=by
  intro x;rw [cU];constructor
  · rintro ⟨i,h1,h2,rfl⟩
    refine ⟨aQ h2,?_⟩;rw [n2];exact bR.1 ok.fd i (s.free.length-1) h1 (by omega)
  · rintro ⟨h1,h2⟩
    obtain ⟨i,hi,rfl⟩:=aW.1 h1;refine ⟨i,?_,hi,rfl⟩;refine Classical.byContradiction fun hc=>h2 ?_
    rw [n2,show i=s.free.length-1 by omega]
 refine ⟨?_,?_,?_,?_,?_,?_,?_⟩
 · show 1<=(s.uses.set _ _).length;rw [List.length_set];exact ok.n1
 · show (s.uses.set _ _).length<=200;rw [List.length_set];exact ok.n2
 · show (s.used.set _ _).length=(s.uses.set _ _).length;rw [List.length_set,List.length_set];exact hu
 · intro x hx
   show 0<=x/\x<((s.uses.set _ _).length:Int);rw [List.length_set];exact ok.fr x ((mt x).1 hx).1
 · exact ok.fd.sublist (List.take_sublist _ _)
 · intro i hi
   change i<(s.uses.set _ _).length at hi;rw [List.length_set] at hi;show (s.used.set (dI s) true)[i]! =true↔(i:Int)∉s.free.take (s.free.length-1);rw [bG,mt]
   by_cases e:i=dI s
   · rw [if_pos ⟨e,by omega⟩]
     simp [e]
   · rw [if_neg (fun k=>e k.1),ok.uf i hi]
     have:(i:Int)≠(dI s:Int):=by omega
     simp [this]
 · intro i hi
   change i<(s.uses.set _ _).length at hi;rw [List.length_set] at hi;obtain ⟨u1,u2,u3⟩:=ok.us i hi;show 0<=(s.uses.set (dI s) (s.uses[dI s]!+1))[i]!/\(s.uses.set (dI s) (s.uses[dI s]!+1))[i]!<=1000000/\((s.used.set (dI s) true)[i]! =true->1<=(s.uses.set (dI s) (s.uses[dI s]!+1))[i]!);rw [bG,bG]
   by_cases e:i=dI s
   · subst e
     rw [if_pos ⟨rfl,n1⟩];refine ⟨by omega,by omega,fun _=>by omega⟩
   · rw [if_neg (fun k=>e k.1),if_neg (fun k=>e k.1)]
     exact ⟨u1,u2,u3⟩
abbrev Ev:=Int×Int×Int×Int×Int
abbrev Ev.at (x:Ev):Int×Int:=(x.1,x.2.1)
abbrev Ev.num (x:Ev):Int:=x.2.2.1
abbrev Ev.ix (x:Ev):Int:=x.2.2.2.1
abbrev Ev.n (x:Ev):Nat:=x.2.2.2.1.toNat
theorem aTZ {x:Ev} {k:Nat} (h:x.ix<(k:Int)) (h0:0<=x.ix):x.n<k:=by
 show x.ix.toNat<k;omega
theorem aT0 {x y:Ev} (h0:0<=x.ix) (h1:0<=y.ix) (h:x.ix≠y.ix):x.n≠y.n:=by
 show x.ix.toNat≠y.ix.toNat
 omega
def eH (x y:Ev):Prop:=G1 (x.1,x.2.1) (y.1,y.2.1)<0\/(G1 (x.1,x.2.1) (y.1,y.2.1)=0/\x.2.2.1<y.2.2.1)
theorem aAw {a b:Int×Int}:G1 a b<0↔a.1*b.2<b.1*a.2:=by
 unfold G1;rcases gX (a.1*b.2) (b.1*a.2) with ⟨h,e⟩|⟨h,e⟩|⟨h,e⟩<;>rw [e]<;>constructor<;>intro<;>omega
theorem aAx {a b:Int×Int}:G1 a b=0↔a.1*b.2=b.1*a.2:=by
 unfold G1;rcases gX (a.1*b.2) (b.1*a.2) with ⟨h,e⟩|⟨h,e⟩|⟨h,e⟩<;>rw [e]<;>constructor<;>intro<;>omega
theorem tU {x y:Ev} (h:eH x y): ¬eH y x:=by
 unfold eH at*;rw [aAw,aAx] at*;dsimp only at*;rintro (k|k)<;>rcases h with h|h<;>omega
theorem YR {a1 a2 b1 b2 c1 c2:Int} (ha:1<=a2) (hb:1<=b2) (hc:1<=c2) (h1:a1*b2<=b1*a2) (h2:b1*c2<=c1*b2):a1*c2<=c1*a2:=by
 have e1:a1*b2*c2<=b1*a2*c2:=Int.mul_le_mul_of_nonneg_right h1 (by omega)
 have e2:b1*c2*a2<=c1*b2*a2:=Int.mul_le_mul_of_nonneg_right h2 (by omega)
 have e3:(a1*c2)*b2<=(c1*a2)*b2:=by
  have r1:(a1*c2)*b2=a1*b2*c2:=by grind
  have r2:b1*a2*c2=b1*c2*a2:=by grind
  have r3:c1*b2*a2=(c1*a2)*b2:=by grind
  omega
 exact Int.le_of_mul_le_mul_right e3 (by omega)
theorem PK {a1 a2 b1 b2 c1 c2:Int} (ha:1<=a2) (hb:1<=b2) (hc:1<=c2) (h1:a1*b2<b1*a2) (h2:b1*c2<=c1*b2):a1*c2<c1*a2:=by
 have e1:a1*b2*c2<b1*a2*c2:=Int.mul_lt_mul_of_pos_right h1 (by omega)
 have e2:b1*c2*a2<=c1*b2*a2:=Int.mul_le_mul_of_nonneg_right h2 (by omega)
 have e3:(a1*c2)*b2<(c1*a2)*b2:=by
  have r1:(a1*c2)*b2=a1*b2*c2:=by grind
  have r2:b1*a2*c2=b1*c2*a2:=by grind
  have r3:c1*b2*a2=(c1*a2)*b2:=by grind
  omega
 exact Int.lt_of_mul_lt_mul_right e3 (by omega)
theorem OG {a1 a2 b1 b2 c1 c2:Int} (ha:1<=a2) (hb:1<=b2) (hc:1<=c2) (h1:a1*b2<=b1*a2) (h2:b1*c2<c1*b2):a1*c2<c1*a2:=by
 have e1:a1*b2*c2<=b1*a2*c2:=Int.mul_le_mul_of_nonneg_right h1 (by omega)
 have e2:b1*c2*a2<c1*b2*a2:=Int.mul_lt_mul_of_pos_right h2 (by omega)
 have e3:(a1*c2)*b2<(c1*a2)*b2:=by
  have r1:(a1*c2)*b2=a1*b2*c2:=by grind
  have r2:b1*a2*c2=b1*c2*a2:=by grind
  have r3:c1*b2*a2=(c1*a2)*b2:=by grind
  omega
 exact Int.lt_of_mul_lt_mul_right e3 (by omega)
theorem E6 {x y z:Ev} (hx:1<=x.2.1) (hy:1<=y.2.1) (hz:1<=z.2.1) (h1: ¬eH y x) (h2: ¬eH z y): ¬eH z x:=by
 unfold eH at*;rw [aAw,aAx] at*;dsimp only at*;have t1:= @YR x.1 x.2.1 y.1 y.2.1 z.1 z.2.1 hx hy hz;have t2:= @PK x.1 x.2.1 y.1 y.2.1 z.1 z.2.1 hx hy hz;have t3:= @OG x.1 x.2.1 y.1 y.2.1 z.1 z.2.1 hx hy hz;generalize x.1*y.2.1=p at*;generalize y.1*x.2.1=q at*;generalize y.1*z.2.1=r at*;generalize z.1*y.2.1=s at*;generalize x.1*z.2.1=u at*
 generalize z.1*x.2.1=v at*;have a1:p<=q:=by omega
 have a2:r<=s:=by omega
 have a3:=t1 a1 a2;rintro (k|k)
 · omega
 · by_cases b1:p<q
   · have:=t2 b1 a2;omega
   · by_cases b2:r<s
     · have:=t3 a1 b2;omega
     · omega
structure G3 (n:Nat) (x:Ev) (M:Ev->Prop) (H:List Ev) (W:List Int) (i:Nat):Prop where
 lt:i<n
 hn:n<=H.length
 ix: ∀w,w<n->w≠i->0<=(H[w]!).ix/\(H[w]!).ix<W.length/\W[(H[w]!).n]! =(w:Int)/\(H[w]!).ix≠x.ix
 x0:0<=x.ix
 x1:x.ix<W.length
 mem: ∀e,(∃w,w<n/\w≠i/\H[w]! =e)↔M e
theorem G3.move {n:Nat} {x:Ev} {M:Ev->Prop} {H:List Ev} {W:List Int} {i j:Nat} (h:G3 n x M H W i) (hj:j<n) (hij:j≠i):G3 n x M (H.set i H[j]!) (W.set (H[j]!).n (i:Int)) j:=by
 have hn:=h.hn;have hi:=h.lt;obtain ⟨j1,j2,j3,j4⟩:=h.ix j hj hij;have cell: ∀w,(H.set i H[j]!)[w]! =if w=i then H[j]! else H[w]!:=by
  intro w;rw [bG]
  by_cases e:w=i
  · rw [if_pos ⟨e,by omega⟩,if_pos e]
  · rw [if_neg (fun k=>e k.1),if_neg e]
 refine ⟨hj,by rw [List.length_set];exact hn,?_,h.x0,by rw [List.length_set];exact h.x1,?_⟩
 · intro w hw hwj
   rw [cell,List.length_set]
   by_cases e:w=i
   · rw [if_pos e,bG,if_pos ⟨rfl,aTZ j2 j1⟩]
     exact ⟨j1,j2,by rw [e],j4⟩
   · rw [if_neg e,bG]
     obtain ⟨k1,k2,k3,k4⟩:=h.ix w hw e;refine ⟨k1,k2,?_,k4⟩;rw [if_neg,k3];rintro ⟨c,_⟩;rw [c,j3] at k3;omega
 · intro e
   rw [<- h.mem e];constructor
   · rintro ⟨w,hw,hwj,he⟩
     rw [cell] at he
     by_cases c:w=i
     · rw [if_pos c] at he;exact ⟨j,hj,hij,he⟩
     · rw [if_neg c] at he;exact ⟨w,hw,c,he⟩
   · rintro ⟨w,hw,hwi,he⟩
     by_cases c:w=j
     · refine ⟨i,hi,fun h=>hij h.symm,?_⟩
       rw [cell,if_pos rfl,<- c];exact he
     · exact ⟨w,hw,c,by rw [cell,if_neg hwi];exact he⟩
theorem G3.fill {n:Nat} {x:Ev} {M:Ev->Prop} {H:List Ev} {W:List Int} {i:Nat} (h:G3 n x M H W i):
 (∀w,w<n->0<=((H.set i x)[w]!).ix/\((H.set i x)[w]!).ix<W.length/\(W.set x.n (i:Int))[((H.set i x)[w]!).n]! =(w:Int))/\
  (∀e,(∃w,w<n/\(H.set i x)[w]! =e)↔(e=x\/M e)):=by
 have hn:=h.hn;have hi:=h.lt;have x0:=h.x0;have x1:=h.x1;have cell: ∀w,(H.set i x)[w]! =if w=i then x else H[w]!:=by
  intro w;rw [bG]
  by_cases e:w=i
  · rw [if_pos ⟨e,by omega⟩,if_pos e]
  · rw [if_neg (fun k=>e k.1),if_neg e]
 constructor
 · intro w hw
   rw [cell]
   by_cases e:w=i
   · rw [if_pos e,bG,if_pos ⟨rfl,aTZ x1 x0⟩]
     exact ⟨x0,x1,by rw [e]⟩
   · rw [if_neg e,bG]
     obtain ⟨k1,k2,k3,k4⟩:=h.ix w hw e;exact ⟨k1,k2,by rw [if_neg (fun c=>aT0 k1 x0 k4 c.1),k3]⟩
 · intro e
   rw [<- h.mem e];constructor
   · rintro ⟨w,hw,he⟩
     rw [cell] at he
     by_cases c:w=i
     · rw [if_pos c] at he;exact .inl he.symm
     · rw [if_neg c] at he;exact .inr ⟨w,hw,c,he⟩
   · rintro (he|⟨w,hw,hwi,he⟩)
     · exact ⟨i,hi,by rw [cell,if_pos rfl,he]⟩
     · exact ⟨w,hw,by rw [cell,if_neg hwi];exact he⟩
noncomputable def jZ (x:Ev):Nat->List Ev->List Int->Nat×List Ev×List Int
 |0,H,W=>(0,H,W)
 |i+1,H,W=>if eH x H[i / 2]! then jZ x (i / 2) (H.set (i+1) H[i / 2]!) (W.set (H[i / 2]!).n ((i+1:Nat):Int)) else (i+1,H,W)
termination_by i=>i
decreasing_by omega
noncomputable def iZ (n:Nat) (H:List Ev) (i:Nat):Nat:=if 2*i+2<n/\eH H[2*i+2]! H[2*i+1]! then 2*i+2 else 2*i+1
theorem rH (n:Nat) (H:List Ev) (i:Nat):iZ n H i=2*i+1\/(iZ n H i=2*i+2/\2*i+2<n):=by
 unfold iZ;split
 · rename_i h;exact .inr ⟨rfl,h.1⟩
 · exact .inl rfl
noncomputable def eQ (n:Nat) (x:Ev) (i:Nat) (H:List Ev) (W:List Int):Nat×List Ev×List Int:=
 if _h:2*i+1<n then
  if eH H[iZ n H i]! x then eQ n x (iZ n H i) (H.set i H[iZ n H i]!) (W.set (H[iZ n H i]!).n (i:Int)) else (i,H,W)
 else (i,H,W)
termination_by n-i
decreasing_by
 rcases rH n H i with h|h<;>omega
structure G8 (n:Nat) (H:List Ev) (i:Nat):Prop where
 den: ∀w,w<n->1<=(H[w]!).2.1
 ord: ∀k,0<k->k<n->k≠i->(k-1) / 2≠i-> ¬eH H[k]! H[(k-1) / 2]!
 grand:0<i-> ∀k,0<k->k<n->(k-1) / 2=i-> ¬eH H[k]! H[(i-1) / 2]!
theorem L5 {n : Nat} {x : Ev} {M : Ev -> Prop} (dx : 1 <= x.2.1) : ∀ (i : Nat) (H : List Ev) (W : List Int), G3 n x M H W i -> G8 n H i ->
    ∃ j H1 W1, jZ x i H W = (j, H1, W1) /\ G3 n x M H1 W1 j /\ G8 n H1 j /\ H1.length = H.length /\ W1.length = W.length /\ (0 < j -> ¬ eH x H1[(j - 1) / 2]!) /\
      (∀ k, n <= k -> H1[k]! = H[k]!) /\ (∀ k, (∀ w, w < n -> w ≠ i -> (H[w]!).n ≠ k) -> W1[k]! = W[k]!) /\
      ((∀ k, 0 < k -> k < n -> (k - 1) / 2 = i -> ¬ eH H[k]! x) -> ∀ k, 0 < k -> k < n -> (k - 1) / 2 = j -> ¬ eH H1[k]! x)
  | 0, H, W, h, o => ⟨0, H, W, by rw [jZ], h, o, rfl, rfl, fun h => by omega, fun _ _ => rfl, fun _ _ => rfl, fun h => h⟩
  | i + 1, H, W, h, o => by
    rw [jZ]
    by_cases hl : eH x H[i / 2]!
    · rw [if_pos hl]
      have hi := h.lt
      have hn := h.hn
      have hp : i / 2 < n := by omega
      have hne : i / 2 ≠ i + 1 := by omega
      have hm := h.move hp hne
      have cell : ∀ w, (H.set (i + 1) H[i / 2]!)[w]! = if w = i + 1 then H[i / 2]! else H[w]! := by
        intro w
        rw [bG]
        by_cases e : w = i + 1
        · rw [if_pos ⟨e, by omega⟩, if_pos e]
        · rw [if_neg (fun k => e k.1), if_neg e]
      have o' : G8 n (H.set (i + 1) H[i / 2]!) (i / 2) := by
        refine ⟨?_, ?_, ?_⟩
        · intro w hw
          rw [cell]
          split
          · exact o.den _ hp
          · exact o.den _ hw
        · intro k k0 kn k1 k2
          rw [cell, cell]
          by_cases e : k = i + 1
          · subst e; exact absurd (by omega) k2
          · rw [if_neg e]
            by_cases e2 : (k - 1) / 2 = i + 1
            · rw [if_pos e2]
              have := o.grand (by omega) k k0 kn e2
              rwa [show (i + 1 - 1) / 2 = i / 2 by omega] at this
            · rw [if_neg e2]
              exact o.ord k k0 kn e e2
        · intro p0 k k0 kn k1
          rw [cell, cell, if_neg (show (i / 2 - 1) / 2 ≠ i + 1 by omega)]
          have up1 : ¬ eH H[i / 2]! H[(i / 2 - 1) / 2]! := o.ord (i / 2) p0 hp hne (by omega)
          by_cases e : k = i + 1
          · rw [if_pos e]; exact up1
          · rw [if_neg e]
            have up2 : ¬ eH H[k]! H[i / 2]! := by
              have := o.ord k k0 kn e (by omega)
              rwa [k1] at this
            exact E6 (o.den _ (by omega)) (o.den _ hp) (o.den _ kn) up1 up2
      obtain ⟨j, H1, W1, e1, e3, e4, e5, e6, e7, e8, e9, e10⟩ := L5 dx (i / 2) _ _ hm o'
      rw [List.length_set] at e5 e6
      refine ⟨j, H1, W1, e1, e3, e4, e5, e6, e7, ?_, ?_, ?_⟩
      · intro k hk
        rw [e8 k hk, cell, if_neg (by omega)]
      · intro k hk
        rw [e9 k ?_, bG, if_neg (fun c => hk (i / 2) hp hne c.1.symm)]
        intro w hw hwp
        rw [cell]
        split
        · exact hk (i / 2) hp hne
        · rename_i e; exact hk w hw e
      · intro _
        refine e10 fun k k0 kn k1 => ?_
        rw [cell]
        by_cases e : k = i + 1
        · rw [if_pos e]; exact tU hl
        · rw [if_neg e]
          have up2 : ¬ eH H[k]! H[i / 2]! := by
            have := o.ord k k0 kn e (by omega)
            rwa [k1] at this
          exact E6 dx (o.den _ hp) (o.den _ kn) (tU hl) up2
    · rw [if_neg hl]
      refine ⟨i + 1, H, W, rfl, h, o, rfl, rfl, fun _ => ?_, fun _ _ => rfl, fun _ _ => rfl, fun h => h⟩
      rwa [show (i + 1 - 1) / 2 = i / 2 by omega]
termination_by i=>i
decreasing_by omega
theorem aBI {n:Nat} {x:Ev} {i:Nat} {H:List Ev} {W:List Int} (h: ∀k,0<k->k<n->(k-1) / 2=i-> ¬eH H[k]! x):eQ n x i H W=(i,H,W):=by
 rw [eQ];split
 · rename_i hk
   rw [if_neg];rcases rH n H i with e|⟨e,e2⟩
   · rw [e];exact h _ (by omega) hk (by omega)
   · rw [e];exact h _ (by omega) e2 (by omega)
 · rfl
theorem QQ {n : Nat} {x : Ev} {M : Ev -> Prop} (dx : 1 <= x.2.1) : ∀ (d i : Nat) (H : List Ev) (W : List Int), n - i <= d -> G3 n x M H W i -> G8 n H i -> (0 < i -> ¬ eH x H[(i - 1) / 2]!) ->
    ∃ j H1 W1, eQ n x i H W = (j, H1, W1) /\ G3 n x M H1 W1 j /\ G8 n H1 j /\ H1.length = H.length /\ W1.length = W.length /\ (0 < j -> ¬ eH x H1[(j - 1) / 2]!) /\
      (∀ k, n <= k -> H1[k]! = H[k]!) /\ (∀ k, (∀ w, w < n -> w ≠ i -> (H[w]!).n ≠ k) -> W1[k]! = W[k]!) /\ (∀ k, 0 < k -> k < n -> (k - 1) / 2 = j -> ¬ eH H1[k]! x)
  | 0, i, H, W, hd, h, o, u => by have := h.lt; omega
  | d + 1, i, H, W, hd, h, o, u => by
    have hi := h.lt
    have hn := h.hn
    rw [eQ]
    by_cases hk : 2 * i + 1 < n
    · rw [dif_pos hk]
      have kc := rH n H i
      have kn : iZ n H i < n := by omega
      have kne : iZ n H i ≠ i := by omega
      have kp : (iZ n H i - 1) / 2 = i := by omega
      have kb : ∀ k, 0 < k -> k < n -> (k - 1) / 2 = i -> ¬ eH H[k]! H[iZ n H i]! := by
        intro k k0 k1 k2
        have kk : k = 2 * i + 1 \/ k = 2 * i + 2 := by omega
        unfold iZ
        split
        · rename_i hc
          rcases kk with e | e
          · rw [e]; exact tU hc.2
          · rw [e]; exact fun h => tU h h
        · rename_i hc
          rcases kk with e | e
          · rw [e]; exact fun h => tU h h
          · rw [e] at k1 ⊢; exact fun h => hc ⟨k1, h⟩
      by_cases hl : eH H[iZ n H i]! x
      · rw [if_pos hl]
        have hm := h.move kn kne
        have cell : ∀ w, (H.set i H[iZ n H i]!)[w]! = if w = i then H[iZ n H i]! else H[w]! := by
          intro w
          rw [bG]
          by_cases e : w = i
          · rw [if_pos ⟨e, by omega⟩, if_pos e]
          · rw [if_neg (fun k => e k.1), if_neg e]
        have o' : G8 n (H.set i H[iZ n H i]!) (iZ n H i) := by
          refine ⟨?_, ?_, ?_⟩
          · intro w hw
            rw [cell]
            split
            · exact o.den _ kn
            · exact o.den _ hw
          · intro k k0 k1 k2 k3
            rw [cell, cell]
            by_cases e : k = i
            · rw [if_pos e, if_neg (by omega)]
              have := o.grand (by omega) (iZ n H i) (by omega) kn kp
              rwa [e]
            · rw [if_neg e]
              by_cases e2 : (k - 1) / 2 = i
              · rw [if_pos e2]; exact kb k k0 k1 e2
              · rw [if_neg e2]; exact o.ord k k0 k1 e e2
          · intro _ k k0 k1 k2
            rw [cell, cell, if_pos kp, if_neg (by omega)]
            have := o.ord k k0 k1 (by omega) (by omega)
            rwa [k2] at this
        obtain ⟨j, H1, W1, e1, e3, e4, e5, e6, e7, e8, e9, e10⟩ := QQ dx d (iZ n H i) _ _ (by omega) hm o' (by
          intro _
          rw [cell, if_pos kp]
          exact tU hl)
        rw [List.length_set] at e5 e6
        refine ⟨j, H1, W1, e1, e3, e4, e5, e6, e7, ?_, ?_, e10⟩
        · intro k hk
          rw [e8 k hk, cell, if_neg (by omega)]
        · intro k hk
          rw [e9 k ?_, bG, if_neg (fun c => hk (iZ n H i) kn kne c.1.symm)]
          intro w hw hwp
          rw [cell]
          split
          · exact hk (iZ n H i) kn kne
          · rename_i e; exact hk w hw e
      · rw [if_neg hl]
        refine ⟨i, H, W, rfl, h, o, rfl, rfl, u, fun _ _ => rfl, fun _ _ => rfl, ?_⟩
        intro k k0 k1 k2
        exact E6 dx (o.den _ kn) (o.den _ k1) hl (kb k k0 k1 k2)
    · rw [dif_neg hk]
      refine ⟨i, H, W, rfl, h, o, rfl, rfl, u, fun _ _ => rfl, fun _ _ => rfl, ?_⟩
      intro k k0 k1 k2
      omega
structure E7 (n:Nat) (x:Ev) (M:Ev->Prop) (K:Nat->Prop) (H:List Ev) (W:List Int) (H1:List Ev) (W1:List Int):Prop where
 hl:H1.length=H.length
 wl:W1.length=W.length
 ix: ∀w,w<n->0<=(H1[w]!).ix/\(H1[w]!).ix<W.length/\W1[(H1[w]!).n]! =(w:Int)
 mem: ∀e,(∃w,w<n/\H1[w]! =e)↔(e=x\/M e)
 ord: ∀k,0<k->k<n-> ¬eH H1[k]! H1[(k-1) / 2]!
 out: ∀k,K k->W1[k]! =W[k]!
theorem S2 {n:Nat} {x:Ev} {M:Ev->Prop} {H H1:List Ev} {W W1:List Int} {i j:Nat} (h1:G3 n x M H1 W1 j) (o1:G8 n H1 j) (hl:H1.length=H.length) (wl:W1.length=W.length)
 (u:0<j-> ¬eH x H1[(j-1) / 2]!) (kd: ∀k,0<k->k<n->(k-1) / 2=j-> ¬eH H1[k]! x) (out: ∀k,(∀w,w<n->w≠i->(H[w]!).n≠k)->W1[k]! =W[k]!):
 E7 n x M (fun k=>k≠x.n/\ ∀w,w<n->w≠i->(H[w]!).n≠k) H W (H1.set j x) (W1.set x.n (j:Int)):=by
 have hn:=h1.hn;have hj:=h1.lt;have f:=h1.fill;have cell: ∀w,(H1.set j x)[w]! =if w=j then x else H1[w]!:=by
  intro w;rw [bG]
  by_cases e:w=j
  · rw [if_pos ⟨e,by omega⟩,if_pos e]
  · rw [if_neg (fun k=>e k.1),if_neg e]
 refine ⟨by rw [List.length_set];exact hl,by rw [List.length_set];exact wl,?_,f.2,?_,?_⟩
 · rw [<- wl];exact f.1
 · intro k k0 kn
   rw [cell,cell]
   by_cases e:k=j
   · rw [if_pos e,if_neg (by omega),e];exact u (by omega)
   · rw [if_neg e]
     by_cases e2:(k-1) / 2=j
     · rw [if_pos e2];exact kd k k0 kn e2
     · rw [if_neg e2];exact o1.ord k k0 kn e e2
 · rintro k ⟨k1,k2⟩
   rw [bG,if_neg (fun c=>k1 c.1)]
   exact out k k2
noncomputable def cT (n:Nat) (x:Ev) (i:Nat) (H:List Ev) (W:List Int):List Ev×List Int:=
 let u:=jZ x i H W
 let d:=eQ n x u.1 u.2.1 u.2.2
 (d.2.1.set d.1 x,d.2.2.set x.n (d.1:Int))
theorem D3 {n:Nat} {x:Ev} {M:Ev->Prop} (dx:1<=x.2.1) {i:Nat} {H:List Ev} {W:List Int} (h:G3 n x M H W i) (o:G8 n H i):
 E7 n x M (fun k=>k≠x.n/\ ∀w,w<n->w≠i->(H[w]!).n≠k) H W (cT n x i H W).1 (cT n x i H W).2:=by
 obtain ⟨j,H1,W1,e1,e3,e4,e5,e6,e7,e8,e9,e10⟩:=L5 dx i H W h o;obtain ⟨k,H2,W2,f1,f3,f4,f5,f6,f7,f8,f9,f10⟩:=QQ dx n j H1 W1 (by omega) e3 e4 e7
 have e:cT n x i H W=(H2.set k x,W2.set x.n (k:Int)):=by
  unfold cT;rw [e1];dsimp only;rw [f1]
 rw [e];refine S2 f3 f4 (by omega) (by omega) f7 f10 ?_
 intro c hc;rw [f9 c ?_,e9 c hc];intro w hw hwj hcw;have hm:M H1[w]!:=(e3.mem _).1 ⟨w,hw,hwj,rfl⟩;obtain ⟨v,v1,v2,v3⟩:=(h.mem _).2 hm;exact hc v v1 v2 (by rw [v3];exact hcw)
theorem V0 {n:Nat} {x:Ev} {M:Ev->Prop} (dx:1<=x.2.1) {i:Nat} {H:List Ev} {W:List Int} (h:G3 n x M H W i) (o:G8 n H i) (hk: ∀k,0<k->k<n->(k-1) / 2=i-> ¬eH H[k]! x):
 cT n x i H W=((jZ x i H W).2.1.set (jZ x i H W).1 x,(jZ x i H W).2.2.set x.n ((jZ x i H W).1:Int)):=by
 obtain ⟨j,H1,W1,e1,e3,e4,e5,e6,e7,e8,e9,e10⟩:=L5 dx i H W h o;unfold cT;rw [e1];dsimp only;rw [aBI (e10 hk)]
def tV (x:Ev):Prop:=cM (x.1,x.2.1)/\sS (x.1,x.2.1)/\0<=x.2.2.1/\x.2.2.1<=1000000
theorem tV.den {x:Ev} (h:tV x):1<=x.2.1:=h.1.1
noncomputable def OH (x y:Ev):Int:=if G1 (x.1,x.2.1) (y.1,y.2.1)≠0 then G1 (x.1,x.2.1) (y.1,y.2.1) else lQ x.2.2.1 y.2.2.1
theorem IU (x y:Ev):OH x y<0↔eH x y:=by
 unfold OH eH
 by_cases h:G1 (x.1,x.2.1) (y.1,y.2.1)=0
 · rw [if_neg (by simpa using h),h]
   rcases gX x.2.2.1 y.2.2.1 with ⟨h1,e⟩|⟨h1,e⟩|⟨h1,e⟩<;>rw [e]<;>constructor<;>intro<;>omega
 · rw [if_pos h];constructor<;>intro<;>omega
theorem eE {x y:Ev} (hx:tV x) (hy:tV y):cQ x y=some (OH x y):=by
 unfold cQ OH;rw [aDG hx.2.1 hy.2.1,if_pos ⟨hx.1,hy.1⟩];simp only [aD,mK,E4]
theorem qH {x y:Ev} (hx:tV x) (hy:tV y):fC x y=some (decide (eH x y)):=by
 unfold fC eH;rw [OA hx.2.1 hy.2.1];simp only [aD];generalize G1 (x.1,x.2.1) (y.1,y.2.1)=c
 by_cases h1:c<0
 · simp [h1]
 · by_cases h2:c=0
   · subst h2;simp
   · simp only [h1,eM h2,h2,decide_false,cond_false,false_or,false_and]
theorem J9 {x y:Ev}:decide (OH x y<0)=decide (eH x y):=by simp only [IU]
theorem S3 {x y:Ev}:decide (0<=OH x y)=!decide (eH x y):=by
 have:=IU x y
 by_cases h:eH x y
 · have h2:=this.2 h
   have: ¬0<=OH x y:=by omega
   simp [h,this]
 · have h2: ¬OH x y<0:=fun k=>h (this.1 k)
   have:0<=OH x y:=by omega
   simp [h,this]
structure oW (n:Nat) (H:List Ev) (W:List Int):Prop where
 hn:n<=H.length
 hb:H.length<=1000000
 ev: ∀w,w<n->tV H[w]!/\0<=(H[w]!).ix/\(H[w]!).ix<W.length
theorem oW.move {n:Nat} {H:List Ev} {W:List Int} (c:oW n H W) {i j:Nat} (_hi:i<n) (hj:j<n) (k:Nat) (v:Int):oW n (H.set i H[j]!) (W.set k v):=by
 have hn:=c.hn;refine ⟨by rw [List.length_set];exact hn,by rw [List.length_set];exact c.hb,?_⟩
 intro w hw;rw [bG,List.length_set];split
 · exact c.ev j hj
 · exact c.ev w hw
theorem L6 {H:List Ev} {W:List Int} {x:Ev} {u fr:List Int} {us:List Bool} {i:Nat} (hi:i<H.length) (h0:0<=x.ix) (h1:x.ix<W.length):
 cI (u,us,fr,(i:Int),x.1,x.2.1,x.2.2.1,x.2.2.2.1,x.2.2.2.2,H,W)=some (H.set i x,W.set x.n (i:Int)):=by
 unfold cI;have e1:=aB H i hi;have e2:=eI (l:=W) h0 h1;simp only [e1,e2,aD,AR,beq_self_eq_true,cond_true];rfl
theorem L7 {n cap:Nat} {H:List Ev} {W:List Int} {x:Ev} {u fr:List Int} {us:List Bool} {i:Nat} (hi:i<n) (hn:n<=H.length) (h0:0<=x.ix) (h1:x.ix<W.length):
 cH (u,us,fr,n,cap,(i:Int),x.1,x.2.1,x.2.2.1,x.2.2.2.1,x.2.2.2.2,H,W)=some (H.set i x,W.set x.n (i:Int)):=by
 unfold cH;have e1:=aB (H.take n) i (by rw [List.length_take];omega)
 have e2:=eI (l:=W) h0 h1;simp only [e1,e2,aD,AR,beq_self_eq_true,cond_true];rfl
theorem wB {i:Nat} (h:i<1000000000):aA .i64 (Int.tdiv (aA .i64 (((i+1:Nat):Int) -1)) 2)=((i / 2:Nat):Int):=by
 have e:aA .i64 (((i+1:Nat):Int) -1)=(i:Int):=by rw [wi];omega
 rw [e,Int.tdiv_eq_ediv_of_nonneg (by omega),wi];omega
theorem zZ {i:Nat} (h:i<1000000000):aA .i64 ((aA .i64 (2*(i:Int)))+1)=((2*i+1:Nat):Int):=by
 have e:aA .i64 (2*(i:Int))=((2*i:Nat):Int):=by rw [wi];omega
 rw [e,wi];omega
theorem D4 {n:Nat} {x:Ev}: ∀{i:Nat} {H:List Ev} {W:List Int} {j:Nat} {H1:List Ev} {W1:List Int},oW n H W->i<n->jZ x i H W=(j,H1,W1)-> ∀w,w<n->tV H1[w]!/\0<=(H1[w]!).ix/\(H1[w]!).ix<W.length
 |0,H,W,j,H1,W1,c,hi,e=>by
  rw [jZ] at e;injection e with e1 e;injection e with e2 e3;subst e2;exact c.ev
 |i+1,H,W,j,H1,W1,c,hi,e=>by
  rw [jZ] at e;split at e
  · have:=D4 (c.move hi (show i / 2<n by omega) (H[i / 2]!).n ((i+1:Nat):Int)) (by omega) e
    rw [List.length_set] at this;exact this
  · injection e with e1 e;injection e with e2 e3
    subst e2;exact c.ev
termination_by i=>i
decreasing_by omega
theorem YS {c0:List Int×List Bool×List Int×Int×Int×Int×Int×Int×Int×List Ev×List Int} {n i:Nat} {H:List Ev} {W:List Int} {u fr:List Int} {us:List Bool} {x:Ev}
 (c:oW n H W) (hn:H.length=n) (hi:i<n) (hx:tV x) (x0:0<=x.ix) (x1:x.ix<W.length) (l1:c0.2.2.2.2.2.2.2.2.2.1.length=n) (l2:c0.2.2.2.2.2.2.2.2.2.2.length=W.length):
 gU c0 ((i:Int),((2*i+1:Nat):Int),H,W,u,us,fr,x)=
  some (if 2*i+1<n/\eH H[iZ n H i]! x then .next (((iZ n H i:Nat):Int),((2*iZ n H i+1:Nat):Int),H.set i H[iZ n H i]!,W.set (H[iZ n H i]!).n (i:Int),u,us,fr,x)
   else .done (.done (H.set i x,W.set x.n (i:Int)))):=by
 have hb:=c.hb;have fin:(cI (u,us,fr,(i:Int),x.1,x.2.1,x.2.2.1,x.2.2.2.1,x.2.2.2.2,H,W))=some (H.set i x,W.set x.n (i:Int)):=L6 (by omega) x0 x1
 have ln1:(H.set i x).length=c0.2.2.2.2.2.2.2.2.2.1.length:=by rw [List.length_set];omega
 have ln2:(W.set x.n (i:Int)).length=c0.2.2.2.2.2.2.2.2.2.2.length:=by rw [List.length_set];omega
 unfold gU;simp only [aF,hn,fin,aD,ln1,ln2,beq_self_eq_true,cond_true]
 by_cases h1:2*i+1<n
 · have e1:decide (((2*i+1:Nat):Int)<(n:Int))=true:=by simp;omega
   have e2:aA .i64 (((2*i+1:Nat):Int)+1)=((2*i+2:Nat):Int):=bF (by omega)
   obtain ⟨ok1,a1,a2⟩:=c.ev (2*i+1) h1;have g1:=aB H (2*i+1) (by omega)
   have s1:(cI (u,us,fr,(i:Int),(H[2*i+1]!).1,(H[2*i+1]!).2.1,(H[2*i+1]!).2.2.1,(H[2*i+1]!).2.2.2.1,(H[2*i+1]!).2.2.2.2,H,W))=some (H.set i H[2*i+1]!,W.set (H[2*i+1]!).n (i:Int)):=L6 (by omega) a1 a2
   simp only [e1,e2,cond_true,g1,aD,s1,eE ok1 hx,S3,zZ (show 2*i+1<1000000000 by omega)]
   by_cases h2:2*i+2<n
   · have e3:decide (((2*i+2:Nat):Int)<(n:Int))=true:=by simp;omega
     obtain ⟨ok2,b1,b2⟩:=c.ev (2*i+2) h2;have g2:=aB H (2*i+2) (by omega)
     have s2:(cI (u,us,fr,(i:Int),(H[2*i+2]!).1,(H[2*i+2]!).2.1,(H[2*i+2]!).2.2.1,(H[2*i+2]!).2.2.2.1,(H[2*i+2]!).2.2.2.2,H,W))=some (H.set i H[2*i+2]!,W.set (H[2*i+2]!).n (i:Int)):=L6 (by omega) b1 b2
     simp only [e3,cond_true,g2,aD,s2,eE ok2 hx,eE ok2 ok1,J9,S3,zZ (show 2*i+2<1000000000 by omega)]
     by_cases h3:eH H[2*i+2]! H[2*i+1]!
     · have k:iZ n H i=2*i+2:=by unfold iZ;rw [if_pos ⟨h2,h3⟩]
       rw [k]
       by_cases h4:eH H[2*i+2]! x
       · simp only [h1,h3,h4,decide_true,cond_true,cond_false,Bool.not_true,and_self,if_true]
       · simp only [h1,h3,h4,decide_true,decide_false,cond_true,Bool.not_false,and_false,if_false]
     · have k:iZ n H i=2*i+1:=by unfold iZ;rw [if_neg (fun h=>h3 h.2)]
       rw [k]
       by_cases h4:eH H[2*i+1]! x
       · simp only [h1,h3,h4,decide_true,decide_false,cond_false,Bool.not_true,and_self,if_true]
       · simp only [h1,h3,h4,decide_false,cond_true,cond_false,Bool.not_false,and_false,if_false]
   · have e3:decide (((2*i+2:Nat):Int)<(n:Int))=false:=by simp;omega
     have k:iZ n H i=2*i+1:=by unfold iZ;rw [if_neg (fun h=>h2 h.1)]
     rw [k];simp only [e3,cond_false]
     by_cases h4:eH H[2*i+1]! x
     · simp only [h1,h4,decide_true,cond_false,Bool.not_true,and_self,if_true]
     · simp only [h1,h4,decide_false,cond_true,Bool.not_false,and_false,if_false]
 · have e1:decide (((2*i+1:Nat):Int)<(n:Int))=false:=by simp;omega
   rw [if_neg (fun h=>h1 h.1),e1];rfl
theorem CF {c0 : List Int × List Bool × List Int × Int × Int × Int × Int × Int × Int × List Ev × List Int} {n : Nat} {u fr : List Int} {us : List Bool} {x : Ev} (hx : tV x) (x0 : 0 <= x.ix) (l1 : c0.2.2.2.2.2.2.2.2.2.1.length = n) :
    ∀ (d i : Nat) (H : List Ev) (W : List Int), n - i <= d -> oW n H W -> H.length = n -> i < n -> x.ix < W.length -> c0.2.2.2.2.2.2.2.2.2.2.length = W.length ->
      aI (gU c0) ((i : Int), ((2 * i + 1 : Nat) : Int), H, W, u, us, fr, x) = some (.done ((eQ n x i H W).2.1.set (eQ n x i H W).1 x, (eQ n x i H W).2.2.set x.n ((eQ n x i H W).1 : Int)))
  | 0, i, H, W, hd, c, hn, hi, x1, l2 => by omega
  | d + 1, i, H, W, hd, c, hn, hi, x1, l2 => by
    have r := YS (u := u) (us := us) (fr := fr) c hn hi hx x0 x1 l1 l2
    by_cases h : 2 * i + 1 < n /\ eH H[iZ n H i]! x
    · rw [if_pos h] at r
      have kc := rH n H i
      have kn : iZ n H i < n := by omega
      rw [aU r, CF hx x0 l1 d (iZ n H i) _ _ (by omega) (c.move hi kn _ _) (by rw [List.length_set]; exact hn) kn (by rw [List.length_set]; exact x1) (by rw [List.length_set]; exact l2)]
      have e : eQ n x i H W = eQ n x (iZ n H i) (H.set i H[iZ n H i]!) (W.set (H[iZ n H i]!).n (i : Int)) := by
        rw [eQ, dif_pos h.1, if_pos h.2]
      rw [e]
    · rw [if_neg h] at r
      rw [aJ r]
      have e : eQ n x i H W = (i, H, W) := by
        rw [eQ]
        split
        · rename_i h1; rw [if_neg (fun k => h ⟨h1, k⟩)]
        · rfl
      rw [e]
theorem OI {c0 : List Int × List Bool × List Int × Int × Int × Int × Int × Int × Int × List Ev × List Int} {n : Nat} {u fr : List Int} {us : List Bool} {x : Ev} (hx : tV x) (x0 : 0 <= x.ix) (l1 : c0.2.2.2.2.2.2.2.2.2.1.length = n) :
    ∀ (i : Nat) (H : List Ev) (W : List Int), oW n H W -> H.length = n -> i < n -> x.ix < W.length -> c0.2.2.2.2.2.2.2.2.2.2.length = W.length ->
      aI (fL c0) ((i : Int), H, W, u, us, fr, x) = some (cT n x i H W)
  | 0, H, W, c, hn, hi, x1, l2 => by
    have hb := c.hb
    have dn := CF (u := u) (us := us) (fr := fr) hx x0 l1 n 0 H W (by omega) c hn hi x1 l2
    refine (aJ (r := cT n x 0 H W) ?_)
    unfold fL
    have e1 : decide ((0 : Int) < ((0 : Nat) : Int)) = false := by simp
    simp only [e1, cond_false, zZ (show 0 < 1000000000 by omega)]
    rw [dn]
    unfold cT
    rw [jZ]
  | i + 1, H, W, c, hn, hi, x1, l2 => by
    have hb := c.hb
    have e1 : decide ((0 : Int) < ((i + 1 : Nat) : Int)) = true := decide_eq_true (by omega)
    have hp : i / 2 < n := by omega
    obtain ⟨ok1, a1, a2⟩ := c.ev (i / 2) hp
    have g1 := aB H (i / 2) (by omega)
    have s1 : (cI (u, us, fr, ((i + 1 : Nat) : Int), (H[i / 2]!).1, (H[i / 2]!).2.1, (H[i / 2]!).2.2.1, (H[i / 2]!).2.2.2.1, (H[i / 2]!).2.2.2.2, H, W)) = some (H.set (i + 1) H[i / 2]!, W.set (H[i / 2]!).n ((i + 1 : Nat) : Int)) := L6 (by omega) a1 a2
    by_cases h : eH x H[i / 2]!
    · have r : fL c0 (((i + 1 : Nat) : Int), H, W, u, us, fr, x) = some (.next (((i / 2 : Nat) : Int), H.set (i + 1) H[i / 2]!, W.set (H[i / 2]!).n ((i + 1 : Nat) : Int), u, us, fr, x)) := by
        unfold fL
        simp only [e1, cond_true, wB (show i < 1000000000 by omega), g1, aD, eE hx ok1, J9, h, decide_true, s1]
      rw [aU r, OI hx x0 l1 (i / 2) _ _ (c.move hi hp _ _) (by rw [List.length_set]; exact hn) hp (by rw [List.length_set]; exact x1) (by rw [List.length_set]; exact l2)]
      have e : jZ x (i + 1) H W = jZ x (i / 2) (H.set (i + 1) H[i / 2]!) (W.set (H[i / 2]!).n ((i + 1 : Nat) : Int)) := by
        rw [jZ, if_pos h]
      unfold cT
      rw [e]
    · have dn := CF (u := u) (us := us) (fr := fr) hx x0 l1 n (i + 1) H W (by omega) c hn hi x1 l2
      refine (aJ (r := cT n x (i + 1) H W) ?_)
      unfold fL
      simp only [e1, cond_true, wB (show i < 1000000000 by omega), g1, aD, eE hx ok1, J9, h, decide_false, cond_false, zZ (show i + 1 < 1000000000 by omega)]
      rw [dn]
      unfold cT
      rw [jZ, if_neg h]
termination_by i=>i
decreasing_by omega
theorem OJ {n:Nat} {u fr:List Int} {us:List Bool} {x:Ev} (hx:tV x) (x0:0<=x.ix) {i:Nat} {H:List Ev} {W:List Int} (c:oW n H W) (hn:H.length=n) (hi:i<n) (x1:x.ix<W.length):
 fR (u,us,fr,(i:Int),x.1,x.2.1,x.2.2.1,x.2.2.2.1,x.2.2.2.2,H,W)=some (cT n x i H W):=by
 unfold fR;exact OI hx x0 hn i H W c hn hi x1 rfl
theorem hO {l:List Ev} {n i:Nat} (h:i<n) (hn:n<=l.length):aH (l.take n) (i:Int)=some l[i]!:=by
 rw [aB (l.take n) i (by rw [List.length_take];omega),nZ h]
theorem YT {c0:List Int×List Bool×List Int×Nat×Nat×Int×Int×Int×Int×Int×Int×List Ev×List Int} {n cap i:Nat} {H:List Ev} {W:List Int} {u fr:List Int} {us:List Bool} {x:Ev}
 (c:oW n H W) (hi:i<n) (hx:tV x) (x0:0<=x.ix) (x1:x.ix<W.length) (l1:c0.2.2.2.2.2.2.2.2.2.2.2.1.length=H.length) (l2:c0.2.2.2.2.2.2.2.2.2.2.2.2.length=W.length):
 gT c0 ((i:Int),((2*i+1:Nat):Int),H,W,u,us,fr,n,cap,x)=
  some (if 2*i+1<n/\eH H[iZ n H i]! x then .next (((iZ n H i:Nat):Int),((2*iZ n H i+1:Nat):Int),H.set i H[iZ n H i]!,W.set (H[iZ n H i]!).n (i:Int),u,us,fr,n,cap,x)
   else .done (.done (H.set i x,W.set x.n (i:Int)))):=by
 have hb:=c.hb;have hnn:=c.hn;have fin:(cH (u,us,fr,n,cap,(i:Int),x.1,x.2.1,x.2.2.1,x.2.2.2.1,x.2.2.2.2,H,W))=some (H.set i x,W.set x.n (i:Int)):=L7 (cap:=cap) (by omega) c.hn x0 x1
 have ln1:(H.set i x).length=c0.2.2.2.2.2.2.2.2.2.2.2.1.length:=by rw [List.length_set];omega
 have ln2:(W.set x.n (i:Int)).length=c0.2.2.2.2.2.2.2.2.2.2.2.2.length:=by rw [List.length_set];omega
 unfold gT;simp only [aF,fin,aD,ln1,ln2,beq_self_eq_true,cond_true]
 by_cases h1:2*i+1<n
 · have e1:decide (((2*i+1:Nat):Int)<(n:Int))=true:=by simp;omega
   have e2:aA .i64 (((2*i+1:Nat):Int)+1)=((2*i+2:Nat):Int):=bF (by omega)
   obtain ⟨ok1,a1,a2⟩:=c.ev (2*i+1) h1;have g1:=hO (l:=H) (n:=n) (i:=2*i+1) (by omega) c.hn
   have s1:(cH (u,us,fr,n,cap,(i:Int),(H[2*i+1]!).1,(H[2*i+1]!).2.1,(H[2*i+1]!).2.2.1,(H[2*i+1]!).2.2.2.1,(H[2*i+1]!).2.2.2.2,H,W))=some (H.set i H[2*i+1]!,W.set (H[2*i+1]!).n (i:Int)):=L7 (cap:=cap) (by omega) c.hn a1 a2
   simp only [e1,e2,cond_true,g1,aD,s1,eE ok1 hx,S3,zZ (show 2*i+1<1000000000 by omega)]
   by_cases h2:2*i+2<n
   · have e3:decide (((2*i+2:Nat):Int)<(n:Int))=true:=by simp;omega
     obtain ⟨ok2,b1,b2⟩:=c.ev (2*i+2) h2;have g2:=hO (l:=H) (n:=n) (i:=2*i+2) (by omega) c.hn
     have s2:(cH (u,us,fr,n,cap,(i:Int),(H[2*i+2]!).1,(H[2*i+2]!).2.1,(H[2*i+2]!).2.2.1,(H[2*i+2]!).2.2.2.1,(H[2*i+2]!).2.2.2.2,H,W))=some (H.set i H[2*i+2]!,W.set (H[2*i+2]!).n (i:Int)):=L7 (cap:=cap) (by omega) c.hn b1 b2
     simp only [e3,cond_true,g2,aD,s2,eE ok2 hx,eE ok2 ok1,J9,S3,zZ (show 2*i+2<1000000000 by omega)]
     by_cases h3:eH H[2*i+2]! H[2*i+1]!
     · have k:iZ n H i=2*i+2:=by unfold iZ;rw [if_pos ⟨h2,h3⟩]
       rw [k]
       by_cases h4:eH H[2*i+2]! x
       · simp only [h1,h3,h4,decide_true,cond_true,cond_false,Bool.not_true,and_self,if_true]
       · simp only [h1,h3,h4,decide_true,decide_false,cond_true,Bool.not_false,and_false,if_false]
     · have k:iZ n H i=2*i+1:=by unfold iZ;rw [if_neg (fun h=>h3 h.2)]
       rw [k]
       by_cases h4:eH H[2*i+1]! x
       · simp only [h1,h3,h4,decide_true,decide_false,cond_false,Bool.not_true,and_self,if_true]
       · simp only [h1,h3,h4,decide_false,cond_true,cond_false,Bool.not_false,and_false,if_false]
   · have e3:decide (((2*i+2:Nat):Int)<(n:Int))=false:=by simp;omega
     have k:iZ n H i=2*i+1:=by unfold iZ;rw [if_neg (fun h=>h2 h.1)]
     rw [k];simp only [e3,cond_false]
     by_cases h4:eH H[2*i+1]! x
     · simp only [h1,h4,decide_true,cond_false,Bool.not_true,and_self,if_true]
     · simp only [h1,h4,decide_false,cond_true,Bool.not_false,and_false,if_false]
 · have e1:decide (((2*i+1:Nat):Int)<(n:Int))=false:=by simp;omega
   rw [if_neg (fun h=>h1 h.1),e1];rfl
theorem CG {c0 : List Int × List Bool × List Int × Nat × Nat × Int × Int × Int × Int × Int × Int × List Ev × List Int} {n cap : Nat} {u fr : List Int} {us : List Bool} {x : Ev} (hx : tV x) (x0 : 0 <= x.ix) :
    ∀ (d i : Nat) (H : List Ev) (W : List Int), n - i <= d -> oW n H W -> c0.2.2.2.2.2.2.2.2.2.2.2.1.length = H.length -> i < n -> x.ix < W.length -> c0.2.2.2.2.2.2.2.2.2.2.2.2.length = W.length ->
      aI (gT c0) ((i : Int), ((2 * i + 1 : Nat) : Int), H, W, u, us, fr, n, cap, x) = some (.done ((eQ n x i H W).2.1.set (eQ n x i H W).1 x, (eQ n x i H W).2.2.set x.n ((eQ n x i H W).1 : Int)))
  | 0, i, H, W, hd, c, hn, hi, x1, l2 => by omega
  | d + 1, i, H, W, hd, c, hn, hi, x1, l2 => by
    have r := YT (u := u) (us := us) (fr := fr) (cap := cap) c hi hx x0 x1 hn l2
    by_cases h : 2 * i + 1 < n /\ eH H[iZ n H i]! x
    · rw [if_pos h] at r
      have kc := rH n H i
      have kn : iZ n H i < n := by omega
      rw [aU r, CG hx x0 d (iZ n H i) _ _ (by omega) (c.move hi kn _ _) (by rw [List.length_set]; exact hn) kn (by rw [List.length_set]; exact x1) (by rw [List.length_set]; exact l2)]
      have e : eQ n x i H W = eQ n x (iZ n H i) (H.set i H[iZ n H i]!) (W.set (H[iZ n H i]!).n (i : Int)) := by
        rw [eQ, dif_pos h.1, if_pos h.2]
      rw [e]
    · rw [if_neg h] at r
      rw [aJ r]
      have e : eQ n x i H W = (i, H, W) := by
        rw [eQ]
        split
        · rename_i h1; rw [if_neg (fun k => h ⟨h1, k⟩)]
        · rfl
      rw [e]
theorem OK {c0 : List Int × List Bool × List Int × Nat × Nat × Int × Int × Int × Int × Int × Int × List Ev × List Int} {n cap : Nat} {u fr : List Int} {us : List Bool} {x : Ev} (hx : tV x) (x0 : 0 <= x.ix) :
    ∀ (i : Nat) (H : List Ev) (W : List Int), oW n H W -> c0.2.2.2.2.2.2.2.2.2.2.2.1.length = H.length -> i < n -> x.ix < W.length -> c0.2.2.2.2.2.2.2.2.2.2.2.2.length = W.length ->
      aI (fK c0) ((i : Int), H, W, u, us, fr, n, cap, x) = some (cT n x i H W)
  | 0, H, W, c, hn, hi, x1, l2 => by
    have hb := c.hb
    have hnn := c.hn
    have dn := CG (u := u) (us := us) (fr := fr) (cap := cap) hx x0 n 0 H W (by omega) c hn hi x1 l2
    refine (aJ (r := cT n x 0 H W) ?_)
    unfold fK
    have e1 : decide ((0 : Int) < ((0 : Nat) : Int)) = false := by simp
    simp only [e1, cond_false, zZ (show 0 < 1000000000 by omega)]
    rw [dn]
    unfold cT
    rw [jZ]
  | i + 1, H, W, c, hn, hi, x1, l2 => by
    have hb := c.hb
    have hnn := c.hn
    have e1 : decide ((0 : Int) < ((i + 1 : Nat) : Int)) = true := decide_eq_true (by omega)
    have hp : i / 2 < n := by omega
    obtain ⟨ok1, a1, a2⟩ := c.ev (i / 2) hp
    have g1 := hO (l := H) (n := n) (i := i / 2) (by omega) c.hn
    have s1 : (cH (u, us, fr, n, cap, ((i + 1 : Nat) : Int), (H[i / 2]!).1, (H[i / 2]!).2.1, (H[i / 2]!).2.2.1, (H[i / 2]!).2.2.2.1, (H[i / 2]!).2.2.2.2, H, W)) = some (H.set (i + 1) H[i / 2]!, W.set (H[i / 2]!).n ((i + 1 : Nat) : Int)) := L7 (cap := cap) (by omega) c.hn a1 a2
    by_cases h : eH x H[i / 2]!
    · have r : fK c0 (((i + 1 : Nat) : Int), H, W, u, us, fr, n, cap, x) = some (.next (((i / 2 : Nat) : Int), H.set (i + 1) H[i / 2]!, W.set (H[i / 2]!).n ((i + 1 : Nat) : Int), u, us, fr, n, cap, x)) := by
        unfold fK
        simp only [e1, cond_true, wB (show i < 1000000000 by omega), g1, aD, eE hx ok1, J9, h, decide_true, s1]
      rw [aU r, OK hx x0 (i / 2) _ _ (c.move hi hp _ _) (by rw [List.length_set]; exact hn) hp (by rw [List.length_set]; exact x1) (by rw [List.length_set]; exact l2)]
      have e : jZ x (i + 1) H W = jZ x (i / 2) (H.set (i + 1) H[i / 2]!) (W.set (H[i / 2]!).n ((i + 1 : Nat) : Int)) := by
        rw [jZ, if_pos h]
      unfold cT
      rw [e]
    · have dn := CG (u := u) (us := us) (fr := fr) (cap := cap) hx x0 n (i + 1) H W (by omega) c hn hi x1 l2
      refine (aJ (r := cT n x (i + 1) H W) ?_)
      unfold fK
      simp only [e1, cond_true, wB (show i < 1000000000 by omega), g1, aD, eE hx ok1, J9, h, decide_false, cond_false, zZ (show i + 1 < 1000000000 by omega)]
      rw [dn]
      unfold cT
      rw [jZ, if_neg h]
termination_by i=>i
decreasing_by omega
theorem YU {n cap:Nat} {u fr:List Int} {us:List Bool} {x:Ev} (hx:tV x) (x0:0<=x.ix) {i:Nat} {H:List Ev} {W:List Int} (c:oW n H W) (hi:i<n) (x1:x.ix<W.length):
 lV (u,us,fr,n,cap,(i:Int),x.1,x.2.1,x.2.2.1,x.2.2.2.1,x.2.2.2.2,H,W)=some (cT n x i H W):=by
 unfold lV;exact OK hx x0 i H W c rfl hi x1 rfl
theorem OL {n cap:Nat} {H:List Ev} {W:List Int} {x:Ev} {u fr:List Int} {us:List Bool} {i k:Nat} (hi:i<n) (hk:k<n) (hik:k≠i) (hn:n<=H.length) (x0:0<=x.ix) (x1:x.ix<W.length) (k0:0<=(H[k]!).ix) (k1:(H[k]!).ix<W.length):
 hU (u,us,fr,n,cap,(i:Int),(k:Int),H.set i x,W.set x.n (i:Int))=some ((H.set i H[k]!).set k x,(W.set (H[k]!).n (i:Int)).set x.n (k:Int)):=by
 have cell: ∀w,(H.set i x)[w]! =if w=i then x else H[w]!:=by
  intro w;rw [bG]
  by_cases e:w=i
  · rw [if_pos ⟨e,by omega⟩,if_pos e]
  · rw [if_neg (fun k=>e k.1),if_neg e]
 have sh:((H.set i x).set i H[k]!).set k x=(H.set i H[k]!).set k x:=by rw [List.set_set]
 have sw:((W.set x.n (i:Int)).set (H[k]!).n (i:Int)).set x.n (k:Int)=(W.set (H[k]!).n (i:Int)).set x.n (k:Int):=by
  by_cases e:x.n=(H[k]!).n
  · simp only [e,List.set_set]
  · rw [List.set_comm _ _ (fun h=>e h),List.set_set]
 have g1:aH ((H.set i x).take n) (k:Int)=some H[k]!:=by rw [hO (by omega) (by rw [List.length_set];omega),cell,if_neg hik]
 have g2:aH ((H.set i x).take n) (i:Int)=some x:=by rw [hO (by omega) (by rw [List.length_set];omega),cell,if_pos rfl]
 have g3:aH (((H.set i x).set i H[k]!).take n) (k:Int)=some H[k]!:=by rw [hO (by omega) (by rw [List.length_set,List.length_set];omega),bG,if_neg (fun h=>hik h.1),cell,if_neg hik]
 have g4:aH (((H.set i H[k]!).set k x).take n) (i:Int)=some H[k]!:=by rw [hO (by omega) (by rw [List.length_set,List.length_set];omega),bG,if_neg (fun h=>hik h.1.symm),bG,if_pos ⟨rfl,by omega⟩]
 have g5:aH (((H.set i H[k]!).set k x).take n) (k:Int)=some x:=by rw [hO (by omega) (by rw [List.length_set,List.length_set];omega),bG,if_pos ⟨rfl,by rw [List.length_set];omega⟩]
 have w6:=eI (l:=W.set x.n (i:Int)) k0 (by rw [List.length_set];exact k1)
 have w7:=eI (l:=(W.set x.n (i:Int)).set (H[k]!).n (i:Int)) x0 (by rw [List.length_set,List.length_set];exact x1)
 have q1: ∀(l:List Int) (a:Int) (y:Ev),bN l y.2.2.2.1 a=l.set y.n a:=fun _ _ _=>rfl
 unfold hU;simp only [eO,g1,g2,g3,aD,sh,g4,g5,q1,w6,w7,sw,List.length_set,beq_self_eq_true,cond_true]
theorem aDN {c0:List Int×List Bool×List Int×Nat×Nat×Int×List Ev×List Int} {n cap:Nat} {u fr:List Int} {us:List Bool} {x:Ev} (hx:tV x) (x0:0<=x.ix):
 ∀(i:Nat) (H:List Ev) (W:List Int),oW n H W->i<n->x.ix<W.length->c0.2.2.2.2.2.2.1.length=H.length->c0.2.2.2.2.2.2.2.length=W.length->
  aI (iP c0) ((i:Int),H.set i x,W.set x.n (i:Int),u,us,fr,n,cap)=some (((jZ x i H W).1:Int),(jZ x i H W).2.1.set (jZ x i H W).1 x,(jZ x i H W).2.2.set x.n ((jZ x i H W).1:Int))
 |0,H,W,c,hi,x1,l1,l2=>by
  have hnn:=c.hn;refine aJ ?_;unfold iP;have e1:decide ((0:Int)<((0:Nat):Int))=false:=by simp
  rw [jZ];simp only [e1,cond_false,List.length_set,l1,l2,beq_self_eq_true,cond_true]
 |i+1,H,W,c,hi,x1,l1,l2=>by
  have hb:=c.hb;have hnn:=c.hn;have e1:decide ((0:Int)<((i+1:Nat):Int))=true:=decide_eq_true (by omega)
  have hp:i / 2<n:=by omega
  have hne:i / 2≠i+1:=by omega
  obtain ⟨ok1,a1,a2⟩:=c.ev (i / 2) hp;have cell: ∀w,(H.set (i+1) x)[w]! =if w=i+1 then x else H[w]!:=by
   intro w;rw [bG]
   by_cases e:w=i+1
   · rw [if_pos ⟨e,by omega⟩,if_pos e]
   · rw [if_neg (fun k=>e k.1),if_neg e]
  have g0:aH ((H.set (i+1) x).take n) ((i+1:Nat):Int)=some x:=by rw [hO (by omega) (by rw [List.length_set];omega),cell,if_pos rfl]
  have g1:aH ((H.set (i+1) x).take n) ((i / 2:Nat):Int)=some H[i / 2]!:=by rw [hO (by omega) (by rw [List.length_set];omega),cell,if_neg hne]
  by_cases h:eH x H[i / 2]!
  · have sw:=OL (cap:=cap) (u:=u) (us:=us) (fr:=fr) (x:=x) hi hp hne hnn x0 x1 a1 a2
    have r:iP c0 (((i+1:Nat):Int),H.set (i+1) x,W.set x.n ((i+1:Nat):Int),u,us,fr,n,cap)=some (.next (((i / 2:Nat):Int),(H.set (i+1) H[i / 2]!).set (i / 2) x,(W.set (H[i / 2]!).n ((i+1:Nat):Int)).set x.n ((i / 2:Nat):Int),u,us,fr,n,cap)):=by
     unfold iP;simp only [e1,cond_true,wB (show i<1000000000 by omega),g0,g1,aD,qH hx ok1,h,decide_true,sw]
    rw [aU r,aDN hx x0 (i / 2) _ _ (c.move hi hp _ _) hp (by rw [List.length_set];exact x1) (by rw [List.length_set];exact l1) (by rw [List.length_set];exact l2)]
    have e:jZ x (i+1) H W=jZ x (i / 2) (H.set (i+1) H[i / 2]!) (W.set (H[i / 2]!).n ((i+1:Nat):Int)):=by
     rw [jZ,if_pos h]
    rw [e]
  · refine aJ ?_
    unfold iP;have e:jZ x (i+1) H W=(i+1,H,W):=by rw [jZ,if_neg h]
    rw [e];simp only [e1,cond_true,wB (show i<1000000000 by omega),g0,g1,aD,qH hx ok1,h,decide_false,cond_false,List.length_set,l1,l2,beq_self_eq_true]
termination_by i=>i
decreasing_by omega
theorem V1 {c0:List Int×List Bool×List Int×Nat×Nat×Int×List Ev×List Int} {n cap:Nat} {u fr:List Int} {us:List Bool} {x:Ev} (hx:tV x) (x0:0<=x.ix):
 ∀(d i:Nat) (H:List Ev) (W:List Int),n-i<=d->oW n H W->i<n->x.ix<W.length->c0.2.2.2.2.2.2.1.length=H.length->c0.2.2.2.2.2.2.2.length=W.length->
  aI (lR c0) ((i:Int),H.set i x,W.set x.n (i:Int),u,us,fr,n,cap)=some (((eQ n x i H W).2.1.set (eQ n x i H W).1 x,(eQ n x i H W).2.2.set x.n ((eQ n x i H W).1:Int)))
 |0,i,H,W,hd,c,hi,x1,l1,l2=>by omega
 |d+1,i,H,W,hd,c,hi,x1,l1,l2=>by
  have hb:=c.hb;have hnn:=c.hn;have cell: ∀w,(H.set i x)[w]! =if w=i then x else H[w]!:=by
   intro w;rw [bG]
   by_cases e:w=i
   · rw [if_pos ⟨e,by omega⟩,if_pos e]
   · rw [if_neg (fun k=>e k.1),if_neg e]
  have len0:(H.set i x).length=H.length:=List.length_set;have body:lR c0 ((i:Int),H.set i x,W.set x.n (i:Int),u,us,fr,n,cap)=some (if 2*i+1<n/\eH H[iZ n H i]! x then .next (((iZ n H i:Nat):Int),(H.set i H[iZ n H i]!).set (iZ n H i) x,(W.set (H[iZ n H i]!).n (i:Int)).set x.n ((iZ n H i:Nat):Int),u,us,fr,n,cap) else .done ((H.set i x,W.set x.n (i:Int)))):=by
   have k1:=zZ (show i<1000000000 by omega)
   unfold lR
   by_cases h1:2*i+1<n
   · have e1:decide ((n:Int)<=((2*i+1:Nat):Int))=false:=decide_eq_false (by omega)
     have e2:aA .i64 (((2*i+1:Nat):Int)+1)=((2*i+2:Nat):Int):=bF (by omega)
     obtain ⟨ok1,a1,a2⟩:=c.ev (2*i+1) h1;have g0:aH ((H.set i x).take n) (i:Int)=some x:=by rw [hO (by omega) (by rw [List.length_set];omega),cell,if_pos rfl]
     have g1:aH ((H.set i x).take n) ((2*i+1:Nat):Int)=some H[2*i+1]!:=by rw [hO (by omega) (by rw [List.length_set];omega),cell,if_neg (by omega)]
     have s1:=OL (cap:=cap) (u:=u) (us:=us) (fr:=fr) (x:=x) hi h1 (by omega) hnn x0 x1 a1 a2
     simp only [aF,k1,len0,e1,e2,cond_false,g0,g1,aD,qH ok1 hx,s1,List.length_set,l1,l2,beq_self_eq_true,cond_true]
     by_cases h2:2*i+2<n
     · have e3:decide (((2*i+2:Nat):Int)<(n:Int))=true:=decide_eq_true (by omega)
       obtain ⟨ok2,b1,b2⟩:=c.ev (2*i+2) h2;have g2:aH ((H.set i x).take n) ((2*i+2:Nat):Int)=some H[2*i+2]!:=by rw [hO (by omega) (by rw [List.length_set];omega),cell,if_neg (by omega)]
       have s2:=OL (cap:=cap) (u:=u) (us:=us) (fr:=fr) (x:=x) hi h2 (by omega) hnn x0 x1 b1 b2
       simp only [e3,cond_true,g2,aD,s2,qH ok2 hx,qH ok2 ok1]
       by_cases h3:eH H[2*i+2]! H[2*i+1]!
       · have k:iZ n H i=2*i+2:=by unfold iZ;rw [if_pos ⟨h2,h3⟩]
         rw [k]
         by_cases h4:eH H[2*i+2]! x
         · simp only [h1,h3,h4,decide_true,cond_true,cond_false,Bool.not_true,and_self,if_true]
         · simp only [h1,h3,h4,decide_true,decide_false,cond_true,Bool.not_false,and_false,if_false]
       · have k:iZ n H i=2*i+1:=by unfold iZ;rw [if_neg (fun h=>h3 h.2)]
         rw [k]
         by_cases h4:eH H[2*i+1]! x
         · simp only [h1,h3,h4,decide_true,decide_false,cond_false,Bool.not_true,and_self,if_true]
         · simp only [h1,h3,h4,decide_false,cond_true,cond_false,Bool.not_false,and_false,if_false]
     · have e3:decide (((2*i+2:Nat):Int)<(n:Int))=false:=decide_eq_false (by omega)
       have k:iZ n H i=2*i+1:=by unfold iZ;rw [if_neg (fun h=>h2 h.1)]
       rw [k];simp only [e3,cond_false]
       by_cases h4:eH H[2*i+1]! x
       · simp only [h1,h4,decide_true,cond_false,Bool.not_true,and_self,if_true]
       · simp only [h1,h4,decide_false,cond_true,Bool.not_false,and_false,if_false]
   · have e1:decide ((n:Int)<=((2*i+1:Nat):Int))=true:=decide_eq_true (by omega)
     rw [if_neg (fun h=>h1 h.1)]
     simp only [aF,k1,len0,e1,cond_true,List.length_set,l1,l2,beq_self_eq_true]
  by_cases h:2*i+1<n/\eH H[iZ n H i]! x
  · rw [if_pos h] at body
    have kc:=rH n H i;have kn:iZ n H i<n:=by omega
    rw [aU body,V1 hx x0 d (iZ n H i) _ _ (by omega) (c.move hi kn _ _) kn (by rw [List.length_set];exact x1) (by rw [List.length_set];exact l1) (by rw [List.length_set];exact l2)]
    have e:eQ n x i H W=eQ n x (iZ n H i) (H.set i H[iZ n H i]!) (W.set (H[iZ n H i]!).n (i:Int)):=by
     rw [eQ,dif_pos h.1,if_pos h.2]
    rw [e]
  · rw [if_neg h] at body
    rw [aJ body];have e:eQ n x i H W=(i,H,W):=by
     rw [eQ];split
     · rename_i h1;rw [if_neg (fun k=>h ⟨h1,k⟩)]
     · rfl
    rw [e]
theorem IV {n:Nat} {H:List Ev} {W:List Int} {x:Ev} {u fr:List Int} {us:List Bool} {i k:Nat} (hi:i<n) (hk:k<n) (hik:k≠i) (hn:n=H.length) (x0:0<=x.ix) (x1:x.ix<W.length) (k0:0<=(H[k]!).ix) (k1:(H[k]!).ix<W.length):
 gH ((i:Int),(k:Int),u,us,fr,H.set i x,W.set x.n (i:Int))=some (u,us,fr,(H.set i H[k]!).set k x,(W.set (H[k]!).n (i:Int)).set x.n (k:Int)):=by
 have cell: ∀w,(H.set i x)[w]! =if w=i then x else H[w]!:=by
  intro w;rw [bG]
  by_cases e:w=i
  · rw [if_pos ⟨e,by omega⟩,if_pos e]
  · rw [if_neg (fun k=>e k.1),if_neg e]
 have sh:((H.set i x).set i H[k]!).set k x=(H.set i H[k]!).set k x:=by rw [List.set_set]
 have sw:((W.set x.n (i:Int)).set (H[k]!).n (i:Int)).set x.n (k:Int)=(W.set (H[k]!).n (i:Int)).set x.n (k:Int):=by
  by_cases e:x.n=(H[k]!).n
  · simp only [e,List.set_set]
  · rw [List.set_comm _ _ (fun h=>e h),List.set_set]
 have g1:aH ((H.set i x)) (k:Int)=some H[k]!:=by rw [aB _ _ (by rw [List.length_set];omega),cell,if_neg hik]
 have g2:aH ((H.set i x)) (i:Int)=some x:=by rw [aB _ _ (by rw [List.length_set];omega),cell,if_pos rfl]
 have g3:aH (((H.set i x).set i H[k]!)) (k:Int)=some H[k]!:=by rw [aB _ _ (by rw [List.length_set,List.length_set];omega),bG,if_neg (fun h=>hik h.1),cell,if_neg hik]
 have g4:aH (((H.set i H[k]!).set k x)) (i:Int)=some H[k]!:=by rw [aB _ _ (by rw [List.length_set,List.length_set];omega),bG,if_neg (fun h=>hik h.1.symm),bG,if_pos ⟨rfl,by omega⟩]
 have g5:aH (((H.set i H[k]!).set k x)) (k:Int)=some x:=by rw [aB _ _ (by rw [List.length_set,List.length_set];omega),bG,if_pos ⟨rfl,by rw [List.length_set];omega⟩]
 have w6:=eI (l:=W.set x.n (i:Int)) k0 (by rw [List.length_set];exact k1)
 have w7:=eI (l:=(W.set x.n (i:Int)).set (H[k]!).n (i:Int)) x0 (by rw [List.length_set,List.length_set];exact x1)
 have q1: ∀(l:List Int) (a:Int) (y:Ev),bN l y.2.2.2.1 a=l.set y.n a:=fun _ _ _=>rfl
 unfold gH;simp only [eO,g1,g2,g3,aD,sh,g4,g5,q1,w6,w7,sw,List.length_set,beq_self_eq_true,cond_true]
theorem aDO {c0:Int×List Int×List Bool×List Int×List Ev×List Int} {n:Nat} {u fr:List Int} {us:List Bool} {x:Ev} (hx:tV x) (x0:0<=x.ix) (l3:c0.2.1.length=u.length) (l4:c0.2.2.1.length=us.length) (l5:c0.2.2.2.1.length=fr.length):
 ∀(i:Nat) (H:List Ev) (W:List Int),oW n H W->i<n->H.length=n->x.ix<W.length->c0.2.2.2.2.1.length=H.length->c0.2.2.2.2.2.length=W.length->
  aI (iQ c0) ((i:Int),u,us,fr,H.set i x,W.set x.n (i:Int))=some (((jZ x i H W).1:Int),u,us,fr,(jZ x i H W).2.1.set (jZ x i H W).1 x,(jZ x i H W).2.2.set x.n ((jZ x i H W).1:Int))
 |0,H,W,c,hi,hln,x1,l1,l2=>by
  have hnn:=c.hn;refine aJ ?_;unfold iQ;have e1:decide ((0:Int)<((0:Nat):Int))=false:=by simp
  rw [jZ];simp only [e1,cond_false,List.length_set,l1,l2,l3,l4,l5,beq_self_eq_true,cond_true]
 |i+1,H,W,c,hi,hln,x1,l1,l2=>by
  have hb:=c.hb;have hnn:=c.hn;have e1:decide ((0:Int)<((i+1:Nat):Int))=true:=decide_eq_true (by omega)
  have hp:i / 2<n:=by omega
  have hne:i / 2≠i+1:=by omega
  obtain ⟨ok1,a1,a2⟩:=c.ev (i / 2) hp;have cell: ∀w,(H.set (i+1) x)[w]! =if w=i+1 then x else H[w]!:=by
   intro w;rw [bG]
   by_cases e:w=i+1
   · rw [if_pos ⟨e,by omega⟩,if_pos e]
   · rw [if_neg (fun k=>e k.1),if_neg e]
  have g0:aH ((H.set (i+1) x)) ((i+1:Nat):Int)=some x:=by rw [aB _ _ (by rw [List.length_set];omega),cell,if_pos rfl]
  have g1:aH ((H.set (i+1) x)) ((i / 2:Nat):Int)=some H[i / 2]!:=by rw [aB _ _ (by rw [List.length_set];omega),cell,if_neg hne]
  by_cases h:eH x H[i / 2]!
  · have sw:=IV (u:=u) (us:=us) (fr:=fr) (x:=x) hi hp hne hln.symm x0 x1 a1 a2
    have r:iQ c0 (((i+1:Nat):Int),u,us,fr,H.set (i+1) x,W.set x.n ((i+1:Nat):Int))=some (.next (((i / 2:Nat):Int),u,us,fr,(H.set (i+1) H[i / 2]!).set (i / 2) x,(W.set (H[i / 2]!).n ((i+1:Nat):Int)).set x.n ((i / 2:Nat):Int))):=by
     unfold iQ;simp only [e1,cond_true,wB (show i<1000000000 by omega),g0,g1,aD,qH hx ok1,h,decide_true,sw]
    rw [aU r,aDO hx x0 l3 l4 l5 (i / 2) _ _ (c.move hi hp _ _) hp (by rw [List.length_set];exact hln) (by rw [List.length_set];exact x1) (by rw [List.length_set];exact l1) (by rw [List.length_set];exact l2)]
    have e:jZ x (i+1) H W=jZ x (i / 2) (H.set (i+1) H[i / 2]!) (W.set (H[i / 2]!).n ((i+1:Nat):Int)):=by
     rw [jZ,if_pos h]
    rw [e]
  · refine aJ ?_
    unfold iQ;have e:jZ x (i+1) H W=(i+1,H,W):=by rw [jZ,if_neg h]
    rw [e];simp only [e1,cond_true,wB (show i<1000000000 by omega),g0,g1,aD,qH hx ok1,h,decide_false,cond_false,List.length_set,l1,l2,l3,l4,l5,beq_self_eq_true]
termination_by i=>i
decreasing_by omega
theorem V2 {c0:Int×List Int×List Bool×List Int×List Ev×List Int} {n:Nat} {u fr:List Int} {us:List Bool} {x:Ev} (hx:tV x) (x0:0<=x.ix) (l3:c0.2.1.length=u.length) (l4:c0.2.2.1.length=us.length) (l5:c0.2.2.2.1.length=fr.length):
 ∀(d i:Nat) (H:List Ev) (W:List Int),n-i<=d->oW n H W->i<n->H.length=n->x.ix<W.length->c0.2.2.2.2.1.length=H.length->c0.2.2.2.2.2.length=W.length->
  aI (lS c0) ((i:Int),u,us,fr,H.set i x,W.set x.n (i:Int))=some ((u,us,fr,(eQ n x i H W).2.1.set (eQ n x i H W).1 x,(eQ n x i H W).2.2.set x.n ((eQ n x i H W).1:Int)))
 |0,i,H,W,hd,c,hi,hln,x1,l1,l2=>by omega
 |d+1,i,H,W,hd,c,hi,hln,x1,l1,l2=>by
  have hb:=c.hb;have hnn:=c.hn;have cell: ∀w,(H.set i x)[w]! =if w=i then x else H[w]!:=by
   intro w;rw [bG]
   by_cases e:w=i
   · rw [if_pos ⟨e,by omega⟩,if_pos e]
   · rw [if_neg (fun k=>e k.1),if_neg e]
  have len0:(H.set i x).length=H.length:=List.length_set;have body:lS c0 ((i:Int),u,us,fr,H.set i x,W.set x.n (i:Int))=some (if 2*i+1<n/\eH H[iZ n H i]! x then .next (((iZ n H i:Nat):Int),u,us,fr,(H.set i H[iZ n H i]!).set (iZ n H i) x,(W.set (H[iZ n H i]!).n (i:Int)).set x.n ((iZ n H i:Nat):Int)) else .done ((u,us,fr,H.set i x,W.set x.n (i:Int)))):=by
   have k1:=zZ (show i<1000000000 by omega)
   unfold lS
   by_cases h1:2*i+1<n
   · have e1:decide ((n:Int)<=((2*i+1:Nat):Int))=false:=decide_eq_false (by omega)
     have e2:aA .i64 (((2*i+1:Nat):Int)+1)=((2*i+2:Nat):Int):=bF (by omega)
     obtain ⟨ok1,a1,a2⟩:=c.ev (2*i+1) h1;have g0:aH ((H.set i x)) (i:Int)=some x:=by rw [aB _ _ (by rw [List.length_set];omega),cell,if_pos rfl]
     have g1:aH ((H.set i x)) ((2*i+1:Nat):Int)=some H[2*i+1]!:=by rw [aB _ _ (by rw [List.length_set];omega),cell,if_neg (by omega)]
     have s1:=IV (u:=u) (us:=us) (fr:=fr) (x:=x) hi h1 (by omega) hln.symm x0 x1 a1 a2
     simp only [aF,k1,len0,hln,e1,e2,cond_false,g0,g1,aD,qH ok1 hx,s1,List.length_set,l1,l2,l3,l4,l5,beq_self_eq_true,cond_true]
     by_cases h2:2*i+2<n
     · have e3:decide (((2*i+2:Nat):Int)<(n:Int))=true:=decide_eq_true (by omega)
       obtain ⟨ok2,b1,b2⟩:=c.ev (2*i+2) h2;have g2:aH ((H.set i x)) ((2*i+2:Nat):Int)=some H[2*i+2]!:=by rw [aB _ _ (by rw [List.length_set];omega),cell,if_neg (by omega)]
       have s2:=IV (u:=u) (us:=us) (fr:=fr) (x:=x) hi h2 (by omega) hln.symm x0 x1 b1 b2
       simp only [e3,cond_true,g2,aD,s2,qH ok2 hx,qH ok2 ok1]
       by_cases h3:eH H[2*i+2]! H[2*i+1]!
       · have k:iZ n H i=2*i+2:=by unfold iZ;rw [if_pos ⟨h2,h3⟩]
         rw [k]
         by_cases h4:eH H[2*i+2]! x
         · simp only [h1,h3,h4,decide_true,cond_true,cond_false,Bool.not_true,and_self,if_true]
         · simp only [h1,h3,h4,decide_true,decide_false,cond_true,Bool.not_false,and_false,if_false]
       · have k:iZ n H i=2*i+1:=by unfold iZ;rw [if_neg (fun h=>h3 h.2)]
         rw [k]
         by_cases h4:eH H[2*i+1]! x
         · simp only [h1,h3,h4,decide_true,decide_false,cond_false,Bool.not_true,and_self,if_true]
         · simp only [h1,h3,h4,decide_false,cond_true,cond_false,Bool.not_false,and_false,if_false]
     · have e3:decide (((2*i+2:Nat):Int)<(n:Int))=false:=decide_eq_false (by omega)
       have k:iZ n H i=2*i+1:=by unfold iZ;rw [if_neg (fun h=>h2 h.1)]
       rw [k];simp only [e3,cond_false]
       by_cases h4:eH H[2*i+1]! x
       · simp only [h1,h4,decide_true,cond_false,Bool.not_true,and_self,if_true]
       · simp only [h1,h4,decide_false,cond_true,Bool.not_false,and_false,if_false]
   · have e1:decide ((n:Int)<=((2*i+1:Nat):Int))=true:=decide_eq_true (by omega)
     rw [if_neg (fun h=>h1 h.1)]
     simp only [aF,k1,len0,hln,e1,cond_true,List.length_set,l1,l2,l3,l4,l5,beq_self_eq_true]
  by_cases h:2*i+1<n/\eH H[iZ n H i]! x
  · rw [if_pos h] at body
    have kc:=rH n H i;have kn:iZ n H i<n:=by omega
    rw [aU body,V2 hx x0 l3 l4 l5 d (iZ n H i) _ _ (by omega) (c.move hi kn _ _) kn (by rw [List.length_set];exact hln) (by rw [List.length_set];exact x1) (by rw [List.length_set];exact l1) (by rw [List.length_set];exact l2)]
    have e:eQ n x i H W=eQ n x (iZ n H i) (H.set i H[iZ n H i]!) (W.set (H[iZ n H i]!).n (i:Int)):=by
     rw [eQ,dif_pos h.1,if_pos h.2]
    rw [e]
  · rw [if_neg h] at body
    rw [aJ body];have e:eQ n x i H W=(i,H,W):=by
     rw [eQ];split
     · rename_i h1;rw [if_neg (fun k=>h ⟨h1,k⟩)]
     · rfl
    rw [e]
theorem aDP {n:Nat} {H:List Ev} {W:List Int} {x:Ev} {u fr:List Int} {us:List Bool} {i k:Nat} (hi:i<n) (hk:k<n) (hik:k≠i) (hn:n=H.length) (x0:0<=x.ix) (x1:x.ix<W.length) (k0:0<=(H[k]!).ix) (k1:(H[k]!).ix<W.length):
 pG (u,us,fr,(i:Int),(k:Int),H.set i x,W.set x.n (i:Int))=some ((H.set i H[k]!).set k x,(W.set (H[k]!).n (i:Int)).set x.n (k:Int)):=by
 have cell: ∀w,(H.set i x)[w]! =if w=i then x else H[w]!:=by
  intro w;rw [bG]
  by_cases e:w=i
  · rw [if_pos ⟨e,by omega⟩,if_pos e]
  · rw [if_neg (fun k=>e k.1),if_neg e]
 have sh:((H.set i x).set i H[k]!).set k x=(H.set i H[k]!).set k x:=by rw [List.set_set]
 have sw:((W.set x.n (i:Int)).set (H[k]!).n (i:Int)).set x.n (k:Int)=(W.set (H[k]!).n (i:Int)).set x.n (k:Int):=by
  by_cases e:x.n=(H[k]!).n
  · simp only [e,List.set_set]
  · rw [List.set_comm _ _ (fun h=>e h),List.set_set]
 have g1:aH ((H.set i x)) (k:Int)=some H[k]!:=by rw [aB _ _ (by rw [List.length_set];omega),cell,if_neg hik]
 have g2:aH ((H.set i x)) (i:Int)=some x:=by rw [aB _ _ (by rw [List.length_set];omega),cell,if_pos rfl]
 have g3:aH (((H.set i x).set i H[k]!)) (k:Int)=some H[k]!:=by rw [aB _ _ (by rw [List.length_set,List.length_set];omega),bG,if_neg (fun h=>hik h.1),cell,if_neg hik]
 have g4:aH (((H.set i H[k]!).set k x)) (i:Int)=some H[k]!:=by rw [aB _ _ (by rw [List.length_set,List.length_set];omega),bG,if_neg (fun h=>hik h.1.symm),bG,if_pos ⟨rfl,by omega⟩]
 have g5:aH (((H.set i H[k]!).set k x)) (k:Int)=some x:=by rw [aB _ _ (by rw [List.length_set,List.length_set];omega),bG,if_pos ⟨rfl,by rw [List.length_set];omega⟩]
 have w6:=eI (l:=W.set x.n (i:Int)) k0 (by rw [List.length_set];exact k1)
 have w7:=eI (l:=(W.set x.n (i:Int)).set (H[k]!).n (i:Int)) x0 (by rw [List.length_set,List.length_set];exact x1)
 have q1: ∀(l:List Int) (a:Int) (y:Ev),bN l y.2.2.2.1 a=l.set y.n a:=fun _ _ _=>rfl
 unfold pG;simp only [eO,g1,g2,g3,aD,sh,g4,g5,q1,w6,w7,sw,List.length_set,beq_self_eq_true,cond_true]
theorem aDQ {c0:List Int×List Bool×List Int×Int×List Ev×List Int} {n:Nat} {u fr:List Int} {us:List Bool} {x:Ev} (hx:tV x) (x0:0<=x.ix):
 ∀(i:Nat) (H:List Ev) (W:List Int),oW n H W->i<n->H.length=n->x.ix<W.length->c0.2.2.2.2.1.length=H.length->c0.2.2.2.2.2.length=W.length->
  aI (iR c0) ((i:Int),H.set i x,W.set x.n (i:Int),u,us,fr)=some (((jZ x i H W).1:Int),(jZ x i H W).2.1.set (jZ x i H W).1 x,(jZ x i H W).2.2.set x.n ((jZ x i H W).1:Int))
 |0,H,W,c,hi,hln,x1,l1,l2=>by
  have hnn:=c.hn;refine aJ ?_;unfold iR;have e1:decide ((0:Int)<((0:Nat):Int))=false:=by simp
  rw [jZ];simp only [e1,cond_false,List.length_set,l1,l2,beq_self_eq_true,cond_true]
 |i+1,H,W,c,hi,hln,x1,l1,l2=>by
  have hb:=c.hb;have hnn:=c.hn;have e1:decide ((0:Int)<((i+1:Nat):Int))=true:=decide_eq_true (by omega)
  have hp:i / 2<n:=by omega
  have hne:i / 2≠i+1:=by omega
  obtain ⟨ok1,a1,a2⟩:=c.ev (i / 2) hp;have cell: ∀w,(H.set (i+1) x)[w]! =if w=i+1 then x else H[w]!:=by
   intro w;rw [bG]
   by_cases e:w=i+1
   · rw [if_pos ⟨e,by omega⟩,if_pos e]
   · rw [if_neg (fun k=>e k.1),if_neg e]
  have g0:aH ((H.set (i+1) x)) ((i+1:Nat):Int)=some x:=by rw [aB _ _ (by rw [List.length_set];omega),cell,if_pos rfl]
  have g1:aH ((H.set (i+1) x)) ((i / 2:Nat):Int)=some H[i / 2]!:=by rw [aB _ _ (by rw [List.length_set];omega),cell,if_neg hne]
  by_cases h:eH x H[i / 2]!
  · have sw:=aDP (u:=u) (us:=us) (fr:=fr) (x:=x) hi hp hne hln.symm x0 x1 a1 a2
    have r:iR c0 (((i+1:Nat):Int),H.set (i+1) x,W.set x.n ((i+1:Nat):Int),u,us,fr)=some (.next (((i / 2:Nat):Int),(H.set (i+1) H[i / 2]!).set (i / 2) x,(W.set (H[i / 2]!).n ((i+1:Nat):Int)).set x.n ((i / 2:Nat):Int),u,us,fr)):=by
     unfold iR;simp only [e1,cond_true,wB (show i<1000000000 by omega),g0,g1,aD,qH hx ok1,h,decide_true,sw]
    rw [aU r,aDQ hx x0 (i / 2) _ _ (c.move hi hp _ _) hp (by rw [List.length_set];exact hln) (by rw [List.length_set];exact x1) (by rw [List.length_set];exact l1) (by rw [List.length_set];exact l2)]
    have e:jZ x (i+1) H W=jZ x (i / 2) (H.set (i+1) H[i / 2]!) (W.set (H[i / 2]!).n ((i+1:Nat):Int)):=by
     rw [jZ,if_pos h]
    rw [e]
  · refine aJ ?_
    unfold iR;have e:jZ x (i+1) H W=(i+1,H,W):=by rw [jZ,if_neg h]
    rw [e];simp only [e1,cond_true,wB (show i<1000000000 by omega),g0,g1,aD,qH hx ok1,h,decide_false,cond_false,List.length_set,l1,l2,beq_self_eq_true]
termination_by i=>i
decreasing_by omega
theorem aL {p:Prop} [Decidable p] (h: ¬p):decide p=false:=decide_eq_false h
theorem aP {p:Prop} [Decidable p] (h:p):decide p=true:=decide_eq_true h
theorem V3 (uses:List Int) (used:List Bool) (fr:List Int) (fl:List Bool) (h1:uses.length<=200) (h2:used.length=uses.length) (h3:fl.length=uses.length):
 ((∀i,i<uses.length->0<=uses[i]!/\uses[i]!<=1000000/\used[i]!≠fl[i]!/\(used[i]! =true->1<=uses[i]!))->aI mG ((uses.length:Int),0,uses,used,fr,fl)=some (.done 0))/\
 (¬(∀i,i<uses.length->0<=uses[i]!/\uses[i]!<=1000000/\used[i]!≠fl[i]!/\(used[i]! =true->1<=uses[i]!))->aI mG ((uses.length:Int),0,uses,used,fr,fl)=some (.done 8)):=by
 have key:=dP (body:=mG) (fun i=>((uses.length:Int),(i:Int),uses,used,fr,fl)) uses.length (fun i=> ¬(0<=uses[i]!/\uses[i]!<=1000000/\used[i]!≠fl[i]!/\(used[i]! =true->1<=uses[i]!))) (r:= .done 8) (e:= .done 0) (fun i hi=>by
  have e1:decide ((i:Int)<(uses.length:Int))=true:=aP (by omega)
  unfold mG;simp only [e1,cond_true,aB uses i hi,aB used i (by omega),aB fl i (by omega),aD,bF (show i<1000000000 by omega)]
  generalize uses[i]! =u;generalize used[i]! =a;generalize fl[i]! =b
  by_cases a1:u<0
  · simp only [a1,decide_true,cond_true];exact ⟨fun _=>trivial,fun h=>absurd (Classical.not_not.1 h).1 (by omega)⟩
  · by_cases a2:1000000<u
    · simp only [a1,a2,decide_true,decide_false,cond_true,cond_false];exact ⟨fun _=>trivial,fun h=>absurd (Classical.not_not.1 h).2.1 (by omega)⟩
    · simp only [a1,a2,decide_false,cond_false]
      by_cases a3:u<1
      · cases a<;>cases b<;>simp [a3]<;>omega
      · cases a<;>cases b<;>simp [a3]<;>omega) (by
  unfold mG
  have:decide ((uses.length:Int)<(uses.length:Int))=false:=aL (by omega)
  simp only [this,cond_false])
 constructor
 · intro h
   exact key.2 fun i hi=>Classical.not_not.2 (h i hi)
 · intro h
   obtain ⟨i,h⟩:=Classical.not_forall.1 h;obtain ⟨hi,hx⟩:=Classical.not_imp.1 h;exact key.1 ⟨i,hi,hx⟩
theorem aDR {α:Type} {n:Nat} (z:α) (h:n<=1048576):FP (n:Int) z=some (List.replicate n z):=by
 unfold FP;rw [if_pos ⟨by omega,by omega⟩]
 simp
theorem OM (s:aY) (hf:s.free.length<=1000000):zA s=some (if fU s then 0 else 8):=by
 obtain ⟨uses,used,fr⟩:=s;dsimp only at hf;unfold zA;simp only [aF]
 by_cases a1:uses.length<1
 · have e:decide ((uses.length:Int)<1)=true:=aP (by omega)
   rw [e,if_neg (fun h=>by have:=h.n1;dsimp only at this;omega)];rfl
 have e1:decide ((uses.length:Int)<1)=false:=aL (by omega)
 by_cases a2:200<uses.length
 · have e:decide (200<(uses.length:Int))=true:=aP (by omega)
   rw [e1,e,if_neg (fun h=>by have:=h.n2;dsimp only at this;omega)];rfl
 have e2:decide (200<(uses.length:Int))=false:=aL (by omega)
 by_cases a3:used.length=uses.length
 case neg=>
  have e:((used.length:Int) !=(uses.length:Int))=true:=fI (by omega)
  rw [e1,e2,e,if_neg (fun h=>a3 h.ul)];rfl
 have e3:((used.length:Int) !=(uses.length:Int))=false:=cL (by omega)
 by_cases a4:uses.length<fr.length
 · have e:decide ((uses.length:Int)<(fr.length:Int))=true:=aP (by omega)
   rw [e1,e2,e3,e,if_neg (fun h=>by have:=h.fl;dsimp only at this;omega)];rfl
 have e4:decide ((uses.length:Int)<(fr.length:Int))=false:=aL (by omega)
 simp only [e1,e2,e3,e4,cond_false,beq_self_eq_true,cond_true,aDR false (show uses.length<=1048576 by omega),aD]
 have ml: ∀k,(gJ (List.replicate uses.length false) (fr.take k)).length=uses.length:=fun k=>by rw [pI,List.length_replicate]
 have ml':(gJ (List.replicate uses.length false) fr).length=uses.length:=by rw [pI,List.length_replicate]
 have rep: ∀i:Nat,(List.replicate uses.length false)[i]! =false:=by
  intro i
  by_cases h:i<uses.length
  · rw [getElem!_pos _ i (by simpa using h),List.getElem_replicate]
  · rw [getElem!_neg _ i (by simpa using h)];rfl
 have inner:=V3 uses used fr (gJ (List.replicate uses.length false) fr) (by omega) a3 ml'
 have key:=dP (body:=sJ) (fun k=>((uses.length:Int),(k:Int),uses,used,fr,gJ (List.replicate uses.length false) (fr.take k))) fr.length
  (fun k=>fr[k]!<0\/(uses.length:Int)<=fr[k]!\/(gJ (List.replicate uses.length false) (fr.take k))[(fr[k]!).toNat]! =true) (r:=8)
  (e:=if (∀i,i<uses.length->0<=uses[i]!/\uses[i]!<=1000000/\used[i]!≠(gJ (List.replicate uses.length false) fr)[i]!/\(used[i]! =true->1<=uses[i]!)) then 0 else 8) (fun k hk=>by
   have f1:decide ((k:Int)<(fr.length:Int))=true:=aP (by omega)
   have f5:gJ (List.replicate uses.length false) (fr.take (k+1))=bN (gJ (List.replicate uses.length false) (fr.take k)) fr[k]! true:=by rw [iI hk,G2]
   unfold sJ;simp only [aF,f1,cond_true,aB fr k hk,aD,bF (show k<1000000000 by omega),f5]
   clear f5;generalize fr[k]! =x
   by_cases b1:x<0
   · simp [b1]
   · by_cases b2:(uses.length:Int)<=x
     · simp [b1,b2]
     · simp only [b1,b2,decide_false,cond_false,false_or]
       rw [eI (l:=gJ (List.replicate uses.length false) (fr.take k)) (i:=x) (by omega) (by rw [ml];omega)]
       simp only [aD];cases (gJ (List.replicate uses.length false) (fr.take k))[x.toNat]!<;>simp) (by
   have f1:decide ((fr.length:Int)<(fr.length:Int))=false:=aL (by omega)
   unfold sJ;simp only [aF,f1,cond_false,List.take_length]
   by_cases hx:(∀i,i<uses.length->0<=uses[i]!/\uses[i]!<=1000000/\used[i]!≠(gJ (List.replicate uses.length false) fr)[i]!/\(used[i]! =true->1<=uses[i]!))
   · rw [if_pos hx];exact inner.1 hx
   · rw [if_neg hx];exact inner.2 hx)
 have h0:gJ (List.replicate uses.length false) (fr.take 0)=List.replicate uses.length false:=rfl;rw [show ((0:Nat):Int)=0 from rfl,h0] at key
 by_cases bad: ∃k,k<fr.length/\(fr[k]!<0\/(uses.length:Int)<=fr[k]!\/(gJ (List.replicate uses.length false) (fr.take k))[(fr[k]!).toNat]! =true)
 · rw [key.1 bad,if_neg]
   intro ok;obtain ⟨k,hk,hb⟩:=bad;have hr:=ok.fr fr[k]! (aQ hk);dsimp only at hr;rcases hb with hb|hb|hb
   · omega
   · omega
   · rw [rG _ _ _ (fun x hx=>(ok.fr x (List.mem_of_mem_take hx)).1) (by rw [List.length_replicate];omega),rep,Bool.false_or] at hb
     have hi:((fr[k]!).toNat:Int)=fr[k]!:=by omega
     rw [hi] at hb;have hm:fr[k]!∈fr.take k:=of_decide_eq_true hb;obtain ⟨j,h1,h2,h3⟩:=cU.1 hm;exact bR.1 ok.fd j k h1 hk h3
 · have good: ∀k,k<fr.length->0<=fr[k]!/\fr[k]!<uses.length/\(gJ (List.replicate uses.length false) (fr.take k))[(fr[k]!).toNat]! =false:=by
    intro k hk;refine ⟨?_,?_,?_⟩
    · exact Int.not_lt.1 fun h=>bad ⟨k,hk,.inl h⟩
    · exact Int.not_le.1 fun h=>bad ⟨k,hk,.inr (.inl h)⟩
    · exact Bool.not_eq_true _▸fun h=>bad ⟨k,hk,.inr (.inr h)⟩
   rw [key.2 fun k hk hb=>bad ⟨k,hk,hb⟩]
   have rng: ∀x∈fr,0<=x/\x<(uses.length:Int):=by
    intro x hx;obtain ⟨k,hk,rfl⟩:=aW.1 hx;exact ⟨(good k hk).1,(good k hk).2.1⟩
   have g2: ∀k,k<fr.length->fr[k]!∉fr.take k:=by
    intro k hk;obtain ⟨c1,c2,c3⟩:=good k hk;rw [rG _ _ _ (fun x hx=>(rng x (List.mem_of_mem_take hx)).1) (by rw [List.length_replicate];omega),show ((fr[k]!).toNat:Int)=fr[k]! by omega,rep,Bool.false_or] at c3
    exact of_decide_eq_false c3
   have nd:fr.Nodup:=bR.2 fun i j hij hj he=>g2 j hj (cU.2 ⟨i,hij,by omega,he⟩)
   have fl: ∀i,i<uses.length->(gJ (List.replicate uses.length false) fr)[i]! =decide ((i:Int)∈fr):=by
    intro i hi;rw [rG _ _ _ (fun x hx=>(rng x hx).1) (by rw [List.length_replicate];omega),rep,Bool.false_or]
   by_cases hx:(∀i,i<uses.length->0<=uses[i]!/\uses[i]!<=1000000/\used[i]!≠(gJ (List.replicate uses.length false) fr)[i]!/\(used[i]! =true->1<=uses[i]!))
   · rw [if_pos hx,if_pos]
     refine ⟨by show 1<=uses.length;omega,by show uses.length<=200;omega,a3,rng,nd,fun i hi=>?_,fun i hi=>?_⟩
     · have:=(hx i hi).2.2.1
       rw [fl i hi] at this;dsimp only;cases h:used[i]! with
       |true=>
        rw [h] at this;refine ⟨fun _ hm=>?_,fun _=>rfl⟩
        rw [aP hm] at this;exact this rfl
       |false=>
        rw [h] at this;refine ⟨fun h=>(by cases h),fun hm=>?_⟩
        rw [aL hm] at this;exact absurd rfl this
     · have:=hx i hi
       exact ⟨this.1,this.2.1,this.2.2.2⟩
   · rw [if_neg hx,if_neg]
     intro ok;refine hx fun i hi=>?_
     obtain ⟨u1,u2,u3⟩:=ok.us i hi;refine ⟨u1,u2,?_,u3⟩;rw [fl i hi]
     have:=ok.uf i hi
     dsimp only at this;intro he
     by_cases hm:(i:Int)∈fr
     · rw [aP hm] at he;exact (this.1 he) hm
     · rw [aL hm] at he
       have:=this.2 hm
       rw [he] at this;cases this
structure D5 (a:aO):Prop where
 fr:a.slots.free.length<=1000000
 hp:a.heap.length<=1000000
 wh:a.where_.length<=1000000
 at64: ∀w,w<a.heap.length->sS ((a.heap[w]!).1,(a.heap[w]!).2.1)
structure fS (a:aO):Prop where
 so:fU a.slots
 wl:a.where_.length=a.slots.uses.length
 hl:a.heap.length+a.slots.free.length=a.slots.uses.length
 fwd: ∀i,i<a.slots.uses.length->a.slots.used[i]! =true->0<=a.where_[i]!/\a.where_[i]!<a.heap.length/\(Ev.ix a.heap[(a.where_[i]!).toNat]!)=i/\(a.heap[(a.where_[i]!).toNat]!).2.2.2.2=a.slots.uses[i]!
 un: ∀i,i<a.slots.uses.length->a.slots.used[i]! =false->a.where_[i]! = -1
 ev: ∀w,w<a.heap.length->tV a.heap[w]!
 nd: ∀v w,v<w->w<a.heap.length->(Ev.num a.heap[v]!)≠(Ev.num a.heap[w]!)
 ord: ∀k,0<k->k<a.heap.length-> ¬eH a.heap[k]! a.heap[(k-1) / 2]!
theorem aLM: ∀(n:Nat) (l:List Nat),(∀x,x<n->x∈l)->n<=l.length
 |0,_,_=>Nat.zero_le _
 |n+1,l,h=>by
  have hn:=h n (by omega)
  have:=aLM n (l.erase n) (fun x hx=>by
   rw [List.mem_erase_of_ne (by omega)]
   exact h x (by omega))
  rw [List.length_erase_of_mem hn] at this
  have:=List.length_pos_of_mem hn
  omega
def QR (s:aY):List Nat:=(List.range s.uses.length).filter fun i=>s.used[i]!
theorem E8 {s:aY} {i:Nat}:i∈QR s↔i<s.uses.length/\s.used[i]! =true:=by
 unfold QR;rw [List.mem_filter,List.mem_range]
theorem E9 {α β:Type} {f:α->β}: ∀{l:List α},l.Nodup->(∀x∈l,∀y∈l,f x=f y->x=y)->(l.map f).Nodup
 | [],_,_=>by simp
 |a::l,h,hf=>by
  rw [List.nodup_cons] at h;rw [List.map_cons,List.nodup_cons];refine ⟨?_,E9 h.2 fun x hx y hy=>hf x (by simp [hx]) y (by simp [hy])⟩
  intro hm;obtain ⟨b,hb,e⟩:=List.mem_map.1 hm
  have:=hf b (by simp [hb]) a (by simp) e
  subst this;exact h.1 hb
theorem fS.back {a:aO} (ok:fS a) {w:Nat} (hw:w<a.heap.length):0<=(Ev.ix a.heap[w]!)/\(Ev.ix a.heap[w]!)<a.slots.uses.length/\a.slots.used[(Ev.n a.heap[w]!)]! =true/\a.slots.uses[(Ev.n a.heap[w]!)]! =(a.heap[w]!).2.2.2.2/\a.where_[(Ev.n a.heap[w]!)]! =(w:Int):=by
 have so:=ok.so;have len:a.slots.uses.length<=(QR a.slots).length+a.slots.free.length:=by
  have:=aLM a.slots.uses.length (QR a.slots++a.slots.free.map Int.toNat) (fun x hx=>by
   rw [List.mem_append]
   by_cases hu:a.slots.used[x]! =true
   · exact .inl (E8.2 ⟨hx,hu⟩)
   · right
     have:=so.uf x hx
     have hm:(x:Int)∈a.slots.free:=Classical.byContradiction fun hc=>hu (this.2 hc)
     exact List.mem_map.2 ⟨_,hm,by omega⟩)
  rw [List.length_append,List.length_map] at this;exact this
 have f0: ∀i∈QR a.slots,0<=a.where_[i]!/\a.where_[i]!<a.heap.length/\(Ev.ix a.heap[(a.where_[i]!).toNat]!)=i/\(a.heap[(a.where_[i]!).toNat]!).2.2.2.2=a.slots.uses[i]!:=fun i hi=>ok.fwd i (E8.1 hi).1 (E8.1 hi).2
 have full:=K3 (n:=a.heap.length) (l:=(QR a.slots).map fun i=>(a.where_[i]!).toNat) (by
  refine E9 ?_ ?_
  · exact List.Pairwise.filter _ List.nodup_range
  · intro x hx y hy he
    have h1:=(f0 x hx).2.2.1;have h2:=(f0 y hy).2.2.1;rw [he] at h1
    omega) (by
  intro x hx;obtain ⟨i,hi,rfl⟩:=List.mem_map.1 hx
  have:=f0 i hi
  omega) (by
  rw [List.length_map]
  have:=ok.hl
  omega) w hw
 obtain ⟨i,hi,e⟩:=List.mem_map.1 full;obtain ⟨c1,c2,c3,c4⟩:=f0 i hi;obtain ⟨d1,d2⟩:=E8.1 hi;rw [e] at c3 c4;have hn:(Ev.n a.heap[w]!)=i:=by show ((Ev.ix a.heap[w]!)).toNat=i;omega
 rw [hn];refine ⟨by omega,by omega,d2,c4.symm,by omega⟩
noncomputable def YV (x y:Ev):Int:=if cM (x.1,x.2.1)/\cM (y.1,y.2.1) then OH x y else lQ x.2.2.1 y.2.2.1
theorem G4 {x y:Ev} (hx:sS (x.1,x.2.1)) (hy:sS (y.1,y.2.1)):cQ x y=some (YV x y):=by
 unfold cQ YV OH;rw [aDG hx hy]
 by_cases h:cM (x.1,x.2.1)/\cM (y.1,y.2.1)
 · rw [if_pos h,if_pos h]
   simp only [aD,mK,E4]
 · rw [if_neg h,if_neg h]
   simp only [aD,mK,E4];simp
def ON (a:aO) (i:Nat):Prop:=(a.slots.used[i]! =true->0<=a.where_[i]!/\a.where_[i]!<a.heap.length/\(Ev.ix a.heap[(a.where_[i]!).toNat]!)=i/\(a.heap[(a.where_[i]!).toNat]!).2.2.2.2=a.slots.uses[i]!)/\(a.slots.used[i]! =false->a.where_[i]! = -1)
def PL (H:List Ev) (k:Nat):Prop:=cM ((H[k]!).1,(H[k]!).2.1)/\0<=(H[k]!).2.2.1/\(H[k]!).2.2.1<=1000000/\(∀j,j<k->(H[j]!).2.2.1≠(H[k]!).2.2.1)/\(0<k-> ¬YV H[k]! H[(k-1) / 2]!<0)
theorem fS.of {a:aO} (fit:D5 a) (so:fU a.slots) (wl:a.where_.length=a.slots.uses.length) (hl:a.heap.length+a.slots.free.length=a.slots.uses.length) (wh: ∀i,i<a.slots.uses.length->ON a i) (hp: ∀k,k<a.heap.length->PL a.heap k):fS a:=by
 have ev: ∀w,w<a.heap.length->tV a.heap[w]!:=fun w hw=>⟨(hp w hw).1,fit.at64 w hw,(hp w hw).2.1,(hp w hw).2.2.1⟩
 refine ⟨so,wl,hl,fun i hi=>(wh i hi).1,fun i hi=>(wh i hi).2,ev,fun v w hv hw=>(hp w hw).2.2.2.1 v hv,fun k k0 hk=>?_⟩
 have:=(hp k hk).2.2.2.2 k0
 unfold YV at this;rw [if_pos ⟨(hp k hk).1,(hp ((k-1) / 2) (by omega)).1⟩,IU] at this
 exact this
theorem fS.to {a:aO} (ok:fS a):(∀i,i<a.slots.uses.length->ON a i)/\(∀k,k<a.heap.length->PL a.heap k):=by
 refine ⟨fun i hi=>⟨ok.fwd i hi,ok.un i hi⟩,fun k hk=>?_⟩
 have e:=ok.ev k hk;refine ⟨e.1,e.2.2.1,e.2.2.2,fun j hj=>ok.nd j k hj hk,fun k0=>?_⟩
 unfold YV;rw [if_pos ⟨e.1,(ok.ev ((k-1) / 2) (by omega)).1⟩,IU]
 exact ok.ord k k0 hk
theorem QS (H:List Ev) (k:Nat) (n:Int):rS [n] ((H.take k).map fun x=>[x.2.2.1])=true:=by
 unfold rS;rw [List.all_eq_true];intro x hx;obtain ⟨y,hy,rfl⟩:=List.mem_map.1 hx;rfl
theorem QT (H:List Ev) (k:Nat) (n:Int):LM ((H.take k).map fun x=>[x.2.2.1]) [n]=decide (∃j,j<k/\j<H.length/\(H[j]!).2.2.1=n):=by
 unfold LM;rw [Bool.eq_iff_iff,List.any_eq_true,decide_eq_true_iff];constructor
 · rintro ⟨x,hx,he⟩
   obtain ⟨y,hy,rfl⟩:=List.mem_map.1 hx;obtain ⟨j,h1,h2,rfl⟩:=cU.1 hy
   have:[n]=[(H[j]!).2.2.1]:=by simpa using he
   exact ⟨j,h1,h2,by injection this with h;exact h.symm⟩
 · rintro ⟨j,h1,h2,h3⟩
   refine ⟨[(H[j]!).2.2.1],List.mem_map.2 ⟨H[j]!,cU.2 ⟨j,h1,h2,rfl⟩,rfl⟩,?_⟩;rw [h3];simp
theorem S4 (H:List Ev) (u fr W:List Int) (us:List Bool) (hl:H.length<=1000000) (r64: ∀w,w<H.length->sS ((H[w]!).1,(H[w]!).2.1)):
 ((∀k,k<H.length->PL H k)->aI kL (H,(H.length:Int),0,u,us,fr,H,W,[])=some (.done 0))/\(¬(∀k,k<H.length->PL H k)->aI kL (H,(H.length:Int),0,u,us,fr,H,W,[])=some (.done 8)):=by
 have key:=dP (body:=kL) (fun k=>(H,(H.length:Int),(k:Int),u,us,fr,H,W,(H.take k).map fun x=>[x.2.2.1])) H.length (fun k=> ¬PL H k) (r:= .done 8) (e:= .done 0) (fun k hk=>by
  have e1:decide ((k:Int)<(H.length:Int))=true:=aP (by omega)
  have ins: ∀n:Int,¬(∃j,j<k/\j<H.length/\(H[j]!).2.2.1=n)->UC ((H.take k).map fun x=>[x.2.2.1]) [n]=some (((H.take k).map fun x=>[x.2.2.1])++[[n]]):=by
   intro n hn;unfold UC XG;rw [QS,QT,aL hn];rfl
  have has: ∀n:Int,UB ((H.take k).map fun x=>[x.2.2.1]) [n]=some (decide (∃j,j<k/\j<H.length/\(H[j]!).2.2.1=n)):=by
   intro n;unfold UB;rw [QS,QT];rfl
  have nx:(H.take (k+1)).map (fun x=>[x.2.2.1])=((H.take k).map fun x=>[x.2.2.1])++[[(H[k]!).2.2.1]]:=by
   rw [iI hk,List.map_append];rfl
  unfold kL;simp only [e1,cond_true,aB H k hk,aD,gW (r64 k hk),bF (show k<1000000000 by omega),has,nx]
  unfold PL
  by_cases b1:cM ((H[k]!).1,(H[k]!).2.1)
  case neg=>
   rw [if_neg b1];exact ⟨fun _=>rfl,fun h=>absurd (Classical.not_not.1 h).1 b1⟩
  rw [if_pos b1]
  by_cases b2:(H[k]!).2.2.1<0
  · rw [aP b2]
    exact ⟨fun _=>rfl,fun h=>absurd (Classical.not_not.1 h).2.1 (by omega)⟩
  by_cases b3:1000000<(H[k]!).2.2.1
  · rw [aL b2,aP b3]
    exact ⟨fun _=>rfl,fun h=>absurd (Classical.not_not.1 h).2.2.1 (by omega)⟩
  rw [aL b2,aL b3]
  by_cases b4: ∃j,j<k/\j<H.length/\(H[j]!).2.2.1=(H[k]!).2.2.1
  · rw [aP b4]
    refine ⟨fun _=>rfl,fun h=>?_⟩
    obtain ⟨j,j1,j2,j3⟩:=b4;exact absurd j3 ((Classical.not_not.1 h).2.2.2.1 j j1)
  rw [aL b4,ins _ b4];have b4': ∀j,j<k->(H[j]!).2.2.1≠(H[k]!).2.2.1:=fun j hj he=>b4 ⟨j,hj,by omega,he⟩
  simp only [show ((0:Int) !=0)=false from rfl,cond_false,aD]
  by_cases b5:0<k
  · obtain ⟨m,rfl⟩: ∃m,k=m+1:=⟨k-1,by omega⟩
    have f1:decide ((0:Int)<((m+1:Nat):Int))=true:=aP (by omega)
    simp only [f1,cond_true,wB (show m<1000000000 by omega),aB H (m / 2) (by omega),aD,G4 (r64 (m+1) hk) (r64 (m / 2) (by omega)),show (m+1-1) / 2=m / 2 by omega]
    by_cases b6:YV H[m+1]! H[m / 2]!<0
    · rw [aP b6]
      exact ⟨fun _=>rfl,fun h=>absurd b6 ((Classical.not_not.1 h).2.2.2.2 (by omega))⟩
    · rw [aL b6]
      exact ⟨fun h=>absurd ⟨b1,by omega,by omega,b4',fun _=>b6⟩ h,fun _=>rfl⟩
  · have f1:decide ((0:Int)<(k:Int))=false:=aL (by omega)
    rw [f1];exact ⟨fun h=>absurd ⟨b1,by omega,by omega,b4',fun h=>absurd h b5⟩ h,fun _=>rfl⟩) (by
  unfold kL
  have:decide ((H.length:Int)<(H.length:Int))=false:=aL (by omega)
  simp only [this,cond_false])
 constructor
 · intro h
   exact key.2 fun i hi=>Classical.not_not.2 (h i hi)
 · intro h
   obtain ⟨i,h⟩:=Classical.not_forall.1 h;obtain ⟨hi,hx⟩:=Classical.not_imp.1 h;exact key.1 ⟨i,hi,hx⟩
end Go.Proofs.YtfejhjllooomlaaGreat
