/- Plain laws (1). -/
import Derived.Test.YthljiplggdanpaaGreatPVm2
import Derived.Test.YthljiplggdanpaaGreatPVm1
import Derived.Test.YthljiplggdanpaaGreatPQS3
open List renaming replicate->EQ,length_set->If,length_replicate->aaE,mem_of_mem_take->aaF,mem_map->abb,nodup_cons->abc,mem_append->abl,mem_singleton->abz,length_take->abE,length_map->aco,length->ad2
open Nat renaming gcd->IR,gcd_comm->abd,gcd_dvd_right->abj,mul_div_cancel'->abv,gcd_zero_right->aby,gcd_dvd_left->abC,le_refl->abG,strongRecOn->abJ,div_le_self->acl,le_trans->ad1
open Classical renaming byContradiction->NE,not_not->UV,not_forall->abo,not_imp->abA
open Int renaming mul_le_mul_of_nonneg_right->PP,ofNat->WF,mul_neg_of_neg_of_pos->ab3,eq_ofNat_of_zero_le->ab4,mul_lt_mul_of_pos_right->abe,mul_le_mul->abf,tdiv_eq_ediv_of_nonneg->abg,lt_of_mul_lt_mul_right->abh,lt_trichotomy->abi,mul_nonneg->abm,tdiv->abn,natCast_mul->acm,ofNat_tmod->acp,mul_assoc->acr
open Bool renaming not_true->aa9,not_false->ab1,or_eq_false_iff->abu,false_or->abw,not_eq_true->abD,true->ad6,false->ad8
open Option.some renaming injEq->aba
open Prod.mk renaming injEq->abk
open Option renaming some->ad3,none->ad4
open Decidable renaming decide->ad9
namespace Go.Vm
instance lpN:LP:=⟨ad4⟩
section
variable {σ ρ : Type}
theorem bj {body:σ->Option (Step σ ρ)} {x:σ} {r:ρ}:aq body x=ad3 r↔ ∃n,si body n x=ad3 r:=HT
theorem aJ {body:σ->Option (Step σ ρ)} {x y:σ} (h:body x=ad3 (.next y)):aq body x=aq body y:=by
 apply Option.ext;intro r;rw [bj,bj];constructor
 · rintro ⟨n,hn⟩
   cases n with
   |zero=>cases hn
   |succ n=>simp [si,] at hn;grind
 rintro ⟨n,hn⟩
 exact ⟨n+1,by simp [si,h];exact hn⟩
theorem au {body:σ->Option (Step σ ρ)} {x:σ} {r:ρ} (h:body x=ad3 (.done r)):aq body x=ad3 r:=
 bj.2 ⟨1,by simp [si,h]⟩
end
end Go.Vm
namespace Go.Proofs.YthljiplggdanpaaGreat
open Go.Vm
noncomputable def bq (c0:(List Int)) (s:(Int×Int×(List Int))):Option (Step (Int×Int×(List Int)) (Step (Int×Int×(List Int)) (Nat×Nat×(List Int)))):=
 bif ad9 (s.2.1<(WF (ad2 s.2.2))) then
  (aD s.2.2 s.2.1).bind fun n0=>
  (iU n0).bind fun b1=>
  bif !b1 then
   (aD s.2.2 s.1).bind fun n2=>
   ad3 (.next (aa .i64 (s.1+1),aa .i64 (s.2.1+1),cA s.2.2 s.1 n0))
  else
   ad3 (.next (s.1,aa .i64 (s.2.1+1),s.2.2))
 else
  bif ((ad9 (0<=s.1))&&(ad9 (s.1<=(WF (ad2 s.2.2)))))&&(ad9 ((WF (ad2 s.2.2))<=(WF (ad2 s.2.2)))) then
   bif Nat.beq (((WF (ad2 s.2.2)).toNat) -s.1.toNat) 0 then
    (gW s.2.2 0 s.1).bind fun l3=>
    bif (ad2 s.2.2)==(ad2 c0) then
     ad3 (.done (.done (s.1.toNat,ad2 s.2.2,s.2.2)))
    else
     ad4
   else
    bif (Nat.ble ((0+s.1.toNat)+(((WF (ad2 s.2.2)).toNat) -s.1.toNat)) (ad2 s.2.2))&&(!ad8) then
     (gW (gy s.2.2 (0+s.1.toNat) (EQ (((WF (ad2 s.2.2)).toNat) -s.1.toNat) 0)) 0 s.1).bind fun l4=>
     bif ((gy s.2.2 (0+s.1.toNat) (EQ (((WF (ad2 s.2.2)).toNat) -s.1.toNat) 0)).length)==(ad2 c0) then
      ad3 (.done (.done (s.1.toNat,(gy s.2.2 (0+s.1.toNat) (EQ (((WF (ad2 s.2.2)).toNat) -s.1.toNat) 0)).length,gy s.2.2 (0+s.1.toNat) (EQ (((WF (ad2 s.2.2)).toNat) -s.1.toNat) 0))))
     else
      ad4
    else
     ad4
  else
   ad4
noncomputable def bB (c0:(List Int)) (s:(Int×Int×(List Int))):Option (Step (Int×Int×(List Int)) (Nat×Nat×(List Int))):=
 bif ad9 (s.2.1<s.1) then
  (aD s.2.2 s.2.1).bind fun n0=>
  (iU n0).bind fun b1=>
  bif b1 then
   bif (ad2 s.2.2)==(ad2 c0) then
    bif s.2.1==(-1) then
     bif (ad2 s.2.2)==(ad2 c0) then
      ad3 (.done (ad2 s.2.2,ad2 s.2.2,s.2.2))
     else
      ad4
    else
     aq (bq c0) (s.2.1,aa .i64 (s.2.1+1),s.2.2)
   else
    ad4
  else
   ad3 (.next (s.1,aa .i64 (s.2.1+1),s.2.2))
 else
  bif (ad2 s.2.2)==(ad2 c0) then
   bif (ad2 s.2.2)==(ad2 c0) then
    ad3 (.done (ad2 s.2.2,ad2 s.2.2,s.2.2))
   else
    ad4
  else
   ad4
abbrev zX (n:Int):Prop:= -9223372036854775808<=n/\n<9223372036854775808
abbrev Z5 (n:Int):Prop:=0<=n/\n<18446744073709551616
theorem wi (n:Int):aa .i64 n=(n+9223372036854775808)%18446744073709551616-9223372036854775808:=by
 rw [xi];simp [IntKind.wrap,IntKind.bits,IntKind.signed,]
 grind
theorem wu (n:Int):aa .u64 n=n%18446744073709551616:=by rw [xi];rfl
theorem eD {n:Int} (h:zX n):aa .i64 n=n:=by rw [wi];omega
theorem db {a b:Int} (h:a≠b):(a !=b)=ad6:=by simpa using h
theorem aY {a b:Int} (h:a=b):(a !=b)=ad8:=by simpa using h
theorem lL {a b:Int} (h:a=b):(a==b)=ad6:=by simpa using h
theorem jm {a b:Int} (h:a≠b):(a==b)=ad8:=by simpa using h
theorem ac2 (a b:Int):(a==b)=ad9 (a=b):=by rfl
theorem lt_or_ge (a b:Int):a<b\/b<=a:=by omega
theorem ag3 (a:Int):kr .u64 a 32=a / 4294967296:=by
 unfold kr;rw [show (min _ _)=32 from by decide,show (2:Int)^32=4294967296 from by decide]
 grind
theorem Ta {a:Int} (h:Z5 a):rT .u64 a 4294967295=a%4294967296:=by
 obtain ⟨n,rfl⟩:=ab4 h.1;unfold rT;have e:(BitVec.ofInt _ (n:Int)&&&BitVec.ofInt (IntKind.bits .u64) 4294967295).toNat=n%4294967296:=by
  rw [BitVec.toNat_and];have e1:(BitVec.ofInt (IntKind.bits .u64) (n:Int)).toNat=n:=by
   rw [BitVec.toNat_ofInt];have:((2^(IntKind.bits .u64):Nat):Int)=18446744073709551616:=by decide
   rw [this];omega
  have e2:(BitVec.ofInt (IntKind.bits .u64) (4294967295:Int)).toNat=2^32-1:=by decide
  rw [e1,e2,Nat.and_two_pow_sub_one_eq_mod]
 rw [e];have:=wu ((n%4294967296:Nat):Int)
 grind [xi]
theorem ac3 {a b:Nat} (ha:a<1000000000) (hb:b<1000000000):aa .i64 (kr .u64 (aa .u64 (aa .i64 ((a:Int)+(b:Int)))) 1)=(((a+b) / 2:Nat):Int):=by unfold kr;rw [show (min _ _)=1 from by decide,show (2:Int)^1=2 from by decide,Int.fdiv_eq_ediv_of_nonneg _ (by decide),wi _,wu,wi];omega
section
variable {σ ρ : Type} {body : σ -> Option (Step σ ρ)}
theorem bg (st:Nat->σ) (n:Nat) (h: ∀i,i<n->body (st i)=ad3 (.next (st (i+1)))):aq body (st 0)=aq body (st n):=by
 induction n with
 |zero=>rfl
 |succ n ih=>
  grind [aJ]
theorem dZ (st:Nat->σ) (n:Nat) (c:Nat->Prop) {r e:ρ} (h: ∀i,i<n->(c i->body (st i)=ad3 (.done r))/\(¬c i->body (st i)=ad3 (.next (st (i+1)))))
 (Z6:body (st n)=ad3 (.done e)):((∃i,i<n/\c i)->aq body (st 0)=ad3 r)/\((∀i,i<n-> ¬c i)->aq body (st 0)=ad3 e):=by
 constructor
 · rintro ⟨i,hi,hc⟩
   have key: ∀k,k<=n->(∃i,i<n/\n-k<=i/\c i)->aq body (st (n-k))=ad3 r:=by
    intro k
    induction k with
    |zero=>omega
    |succ k ih=>
     rintro hk ⟨i,h1,h2,h3⟩
     by_cases hc:c (n- (k+1))
     · exact au ((h _ (by omega)).1 hc)
     rw [aJ ((h _ (by omega)).2 hc),show n- (k+1)+1=n-k by omega]
     refine ih (by omega) ⟨i,h1,?_,h3⟩
     by_cases he:i=n- (k+1)
     · subst he;exact absurd h3 hc
     omega
   have:=key n (abG n) ⟨i,hi,by omega,hc⟩
   grind
 intro hn
 rw [bg st n fun i hi=>(h i hi).2 (hn i hi)];exact au Z6
theorem least {c:Nat->Prop}: ∀{n:Nat},(∃i,i<n/\c i)-> ∃k,k<n/\c k/\ ∀j,j<k-> ¬c j
 |0,h=>by omega
 |n+1,h=>by
  by_cases hx: ∃i,i<n/\c i
  · obtain ⟨k,h1,h2,h3⟩:=least hx
    exact ⟨k,by omega,h2,h3⟩
  grind
theorem pf (st:Nat->σ) (n:Nat) (c:Nat->Prop) (r:Nat->ρ) {e:ρ} (h: ∀i,i<n->(c i->body (st i)=ad3 (.done (r i)))/\(¬c i->body (st i)=ad3 (.next (st (i+1)))))
 (Z6:body (st n)=ad3 (.done e)):(∀k,k<n->c k->(∀j,j<k-> ¬c j)->aq body (st 0)=ad3 (r k))/\((∀i,i<n-> ¬c i)->aq body (st 0)=ad3 e):=by
 constructor
 · intro k hk hc hj
   rw [bg st k fun i hi=>(h i (by omega)).2 (hj i hi)]
   grind [au]
 intro hn
 rw [bg st n fun i hi=>(h i hi).2 (hn i hi)];exact au Z6
theorem Hm (st:Nat->Nat->σ) (n m:Nat) (c:Nat->Prop)
 (h: ∀lo hi,lo<hi->hi<=n->(c ((lo+hi) / 2)->body (st lo hi)=ad3 (.next (st ((lo+hi) / 2+1) hi)))/\(¬c ((lo+hi) / 2)->body (st lo hi)=ad3 (.next (st lo ((lo+hi) / 2)))))
 (h1: ∀i,i<m->c i) (h2: ∀i,m<=i->i<n-> ¬c i): ∀d lo hi,hi-lo<=d->lo<=m->m<=hi->hi<=n->aq body (st lo hi)=aq body (st m m)
 |0,lo,hi,hd,a,b,_=>by
  grind
 |d+1,lo,hi,hd,a,b,e=>by
  by_cases hl:lo<hi
  · by_cases hc:c ((lo+hi) / 2)
    · rw [aJ ((h lo hi hl e).1 hc)]
      refine Hm st n m c h h1 h2 d _ _ (by omega) ?_ b e;refine NE fun hx=>?_
      exact h2 _ (by omega) (by omega) hc
    rw [aJ ((h lo hi hl e).2 hc)]
    refine Hm st n m c h h1 h2 d _ _ (by omega) a ?_ (by omega);refine NE fun hx=>?_
    exact hc (h1 ((lo+hi) / 2) (by omega))
  grind
end
section
variable {α : Type} [Inhabited α]
theorem ar (l:List α) (n:Nat) (h:n<ad2 l):aD l (n:Int)=ad3 l[n]!:=by
 show l[n]? =ad3 l[n]!
 grind
theorem kN {l:List α} {i:Int} (h0:0<=i) (h:i<ad2 l):aD l i=ad3 l[i.toNat]!:=by
 grind [ab4,ar]
theorem eE {β:Type} (l:List β) (n:Nat) (a:β):cA l (n:Int) a=l.set n a:=rfl
theorem cf (l:List α) (n m:Nat) (a:α):(l.set n a)[m]! =if m=n/\n<(ad2 l) then a else l[m]!:=by
 grind
theorem aS {l:List α} {x:α}:x∈l↔ ∃i,i<ad2 l/\l[i]! =x:=by
 rw [List.mem_iff_getElem];constructor
 · rintro ⟨i,h,rfl⟩;exact ⟨i,h,getElem!_pos l i h⟩
 grind
theorem aK {l:List α} {i:Nat} (h:i<ad2 l):l[i]!∈l:=aS.2 ⟨i,h,rfl⟩
theorem iO {l m:List α} {i:Nat} (h:i<ad2 l):(l++m)[i]! =l[i]!:=by
 grind
theorem xK {l m:List α} {i:Nat} (h:(ad2 l)<=i):(l++m)[i]! =m[i-(ad2 l)]!:=by
 grind
theorem w8 {l:List α} {n i:Nat} (h:i<n):(l.take n)[i]! =l[i]!:=by
 grind
theorem zY {l:List α} {n i:Nat}:(l.drop n)[i]! =l[n+i]!:=by simp
theorem mW {l m:List α} (hl:(ad2 l)=ad2 m) (h: ∀i,i<ad2 l->l[i]! =m[i]!):l=m:=by
 grind [List.ext_getElem]
theorem Z7 {l:List α} {i:Nat} (h:i<ad2 l):l=l.take i++l[i]!::l.drop (i+1):=by simp_all
end
theorem cj {α:Type} {l:List α} (h:(ad2 l)<=1048576):cw l=ad3 l:=by unfold cw;rw [AC h]
theorem bA {α:Type} {l m:List α} (h:(ad2 l)+ad2 m<=1048576):aX l m=ad3 (l++m):=by unfold aX;rw [AC h]
@[simp] theorem ai {α β:Type} (a:α) (f:α->Option β):(ad3 a).bind f=f a:=rfl
end Go.Proofs.YthljiplggdanpaaGreat
namespace Go.Proofs.YthljiplggdanpaaGreat
open Go.Vm Classical
theorem lT {n:Int} (h:zX n):jy n=ad3 (n.natAbs:Int):=by
 unfold jy;simp [wi,wu]
 grind
theorem nK {n:Int} (h:zX n):mL n=ad3 (n.natAbs:Int):=by
 unfold mL;simp [wu]
 grind
theorem uv (m n:Nat):sy m n=ad3 (IR m n:Int):=by
 unfold sy
 induction n using abJ generalizing m with
 |ind n ih=>
  by_cases h0:n=0
  · subst h0
    rw [aby];exact au (by rfl)
  have e:vU ((m:Int),(n:Int))=ad3 (.next ((n:Int),((m%n:Nat):Int))):=by
   have h1:((n:Int) !=0)=ad6:=by simp;omega
   have h2:((n:Int)==0)=ad8:=by simp;omega
   simp only [vU,h1,h2,v6,ww,acp]
  rw [aJ e,ih _ (Nat.mod_lt _ (by omega)) n,abd m n,Nat.gcd_rec n m,abd]
theorem Ef (m n:Nat):zW m n=ad3 (IR m n:Int):=by
 unfold zW
 induction n using abJ generalizing m with
 |ind n ih=>
  by_cases h0:n=0
  · subst h0
    rw [aby];exact au (by rfl)
  have e:A6 ((m:Int),(n:Int))=ad3 (.next ((n:Int),((m%n:Nat):Int))):=by
   have h1:ad9 (0<(n:Int))=ad6:=by simp;omega
   have h2:((n:Int)==0)=ad8:=by simp;omega
   simp only [A6,h1,h2,v6,ww,acp]
  rw [aJ e,ih _ (Nat.mod_lt _ (by omega)) n,abd m n,Nat.gcd_rec n m,abd]
def bu (r:Int×Int):Prop:=1<=r.2/\r.1≠ -9223372036854775808/\IR r.2.natAbs r.1.natAbs=1
abbrev jb (r:Int×Int):Prop:=zX r.1/\zX r.2
theorem bQ {r:Int×Int} (h:jb r):dC r=ad3 (if bu r then 0 else 8):=by
 obtain ⟨a,b⟩:=r;obtain ⟨ha,hb⟩:=h;unfold dC bu
 by_cases h1:b<1
 · grind
 have e3:aa .u64 b=(b.natAbs:Int):=by rw [wu];omega
 simp [nK ha,e3,Ef];have hp:0<IR b.natAbs a.natAbs:=Nat.gcd_pos_of_pos_left _ (by omega)
 grind
theorem s6 {r:Int×Int} (h:jb r):oN r=ad3 (if bu r then 0 else 8):=by
 obtain ⟨a,b⟩:=r;obtain ⟨ha,hb⟩:=h;unfold oN bu
 by_cases h1:b<1
 · grind
 by_cases h2:a= -9223372036854775808
 · grind
 have e3:aa .u64 b=(b.natAbs:Int):=by rw [wu];omega
 simp [lT ha,e3,uv]
 grind
theorem Z8 (x y:Int) (hx:Z5 x) (hy:Z5 y): ∃p q r s:Int,0<=p/\p<=18446744065119617025/\0<=q/\q<=18446744065119617025/\0<=r/\r<=18446744065119617025/\0<=s/\s<=18446744065119617025/\
 x / 4294967296*(y / 4294967296)=p/\x / 4294967296*(y%4294967296)=q/\x%4294967296*(y / 4294967296)=r/\x%4294967296*(y%4294967296)=s/\
 x*y=p*18446744073709551616+(q+r)*4294967296+s:=by
 have Mn:0<=x / 4294967296/\x / 4294967296<=4294967295:=by omega
 have N3:0<=x%4294967296/\x%4294967296<=4294967295:=by omega
 have hy1:0<=y / 4294967296/\y / 4294967296<=4294967295:=by omega
 have Wn:0<=y%4294967296/\y%4294967296<=4294967295:=by omega
 have ex:x=x / 4294967296*4294967296+x%4294967296:=by omega
 have ey:y=y / 4294967296*4294967296+y%4294967296:=by omega
 generalize x / 4294967296=a at*;generalize x%4294967296=b at*;generalize y / 4294967296=c at*;generalize y%4294967296=d at*;have bd: ∀{u v:Int},0<=u/\u<=4294967295->0<=v/\v<=4294967295->0<=u*v/\u*v<=18446744065119617025:=by
  intro u v hu hv;refine ⟨abm hu.1 hv.1,?_⟩
  calc u*v<=4294967295*4294967295:=abf hu.2 hv.2 hv.1 (by decide)
   _=_:=by decide
 refine ⟨a*c,a*d,b*c,b*d,(bd Mn hy1).1,(bd Mn hy1).2,(bd Mn Wn).1,(bd Mn Wn).2,(bd N3 hy1).1,(bd N3 hy1).2,(bd N3 Wn).1,(bd N3 Wn).2,rfl,rfl,rfl,rfl,?_⟩
 grind
theorem CQ {x y:Int} (hx:Z5 x) (hy:Z5 y):fY x y=ad3 (x*y / 18446744073709551616,x*y%18446744073709551616):=by
 unfold fY;obtain ⟨p,q,r,s,p0,p1,q0,q1,r0,r1,s0,s1,ep,eq,er,es,exy⟩:=Z8 x y hx hy;have key: ∀z:Int,rT .u64 _ 4294967295=z%18446744073709551616%4294967296:=fun z=>Ta (by constructor<;>omega)
 simp [ag3,Ta hx,Ta hy,wu,key,];omega
theorem Tb {x y:Int} (hx:Z5 x) (hy:Z5 y):uN x y=ad3 (ad8,x*y / 18446744073709551616,x*y%18446744073709551616):=by
 unfold uN;obtain ⟨p,q,r,s,p0,p1,q0,q1,r0,r1,s0,s1,ep,eq,er,es,exy⟩:=Z8 x y hx hy;have t1: ∀a:Int,0<=a->abn a 4294967296=a / 4294967296:=fun a h=>abg h
 have t2: ∀a:Int,0<=a->Int.tmod a 4294967296=a%4294967296:=fun a h=>Int.tmod_eq_emod_of_nonneg h
 simp [wu];rw [t1 x hx.1,t1 y hy.1,t2 x hx.1,t2 y hy.1];have f1:x / 4294967296%18446744073709551616=x / 4294967296:=by omega
 have f2:y / 4294967296%18446744073709551616=y / 4294967296:=by omega
 simp [f1,f2,];have g: ∀a:Int,abn _ 4294967296=a%18446744073709551616 / 4294967296:=fun a=>t1 _ (by omega)
 have g2: ∀a:Int,Int.tmod _ 4294967296=a%18446744073709551616%4294967296:=fun a=>t2 _ (by omega)
 simp [g,g2,];omega
abbrev B64 (a:Bool×Int×Int):Prop:=Z5 a.2.1/\Z5 a.2.2
theorem Dz {n:Int} (h:zX n):Z5 (n.natAbs:Int):=by omega
theorem DA {n:Int} (h:zX n):(n.natAbs:Int)<=9223372036854775808:=by omega
theorem F6 (a b:Int):((a.natAbs:Int)*(b.natAbs:Int))=((a*b).natAbs:Int):=by rw [Int.natAbs_mul];rfl
theorem xL {a b:Int} (ha:zX a) (hb:zX b):((a*b).natAbs:Int)<=85070591730234615865843651857942052864:=by
 rw [<- F6]
 calc (a.natAbs:Int)*(b.natAbs:Int)<=9223372036854775808*9223372036854775808:=abf (DA ha) (DA hb) (by omega) (by decide)
  _=_:=by decide
theorem Be {a b:Int} (ha:zX a) (hb:zX b):
 lO a b=ad3 (ad9 (a*b<0),((a*b).natAbs:Int) / 18446744073709551616,((a*b).natAbs:Int)%18446744073709551616):=by
 unfold lO;simp [lT ha,lT hb,Tb (Dz ha) (Dz hb),F6];have hs:(a*b<0)↔((a<0/\0<b)\/(0<a/\b<0)):=by
  constructor
  · intro h
    rcases abi a 0 with h1|h1|h1
    · rcases abi b 0 with h2|h2|h2
      · have:=Int.mul_pos_of_neg_of_neg h1 h2;omega
      · subst h2;simp at h
      omega
    · grind
    rcases abi b 0 with h2|h2|h2
    · omega
    · grind
    have:=Int.mul_pos h1 h2;omega
  rintro (⟨h1,h2⟩|⟨h1,h2⟩)
  · exact ab3 h1 h2
  exact Int.mul_neg_of_pos_of_neg h1 h2
 have hd:ad9 (a*b<0)=ad9 ((a<0/\0<b)\/(0<a/\b<0)):=by simp [hs]
 rw [hd]
 by_cases h1:a<0
 · have YR: ¬0<a:=by omega
   have ayQ:(a !=0)=ad6:=db (by omega)
   by_cases h2:b<0
   · grind
   by_cases h3:b=0
   · grind
   have h3':0<b:=by omega
   grind
 by_cases h0:a=0
 · grind
 have YR:0<a:=by omega
 by_cases h2:b<0
 · have h2':(b !=0)=ad6:=db (by omega)
   simp [h1,h2,YR,db h0,h2']
 grind
theorem QR {a b:Int} (ha:zX a) (hb:zX b):
 vF a b=ad3 (!(ad9 (a<0)==ad9 (b<0)),((a*b).natAbs:Int) / 18446744073709551616,((a*b).natAbs:Int)%18446744073709551616):=by
 unfold vF;simp [nK ha,nK hb,CQ (Dz ha) (Dz hb),F6]
def mj (a b:Int):Int:=if a<b then -1 else if b<a then 1 else 0
theorem Eg (a b:Int):lC a b=ad3 (mj a b):=by
 unfold lC qw mj
 grind
theorem L1 (a b:Int):kF a b=ad3 (mj a b):=by
 unfold kF pF mj
 grind
theorem mX (a b:Int):fv a b=ad3 (mj a b):=by
 unfold fv cmp_isNaN_int mj
 grind
theorem dM (a b:Int):(a<b/\mj a b= -1)\/(a=b/\mj a b=0)\/(b<a/\mj a b=1):=by unfold mj;omega
theorem Oy (a b:Bool×Int×Int) (ha:B64 a) (hb:B64 b):uc a b=ad3 (mj (a.2.1*18446744073709551616+a.2.2) (b.2.1*18446744073709551616+b.2.2)):=by
 obtain ⟨t,bh,bl⟩:=b;unfold uc mj
 grind
theorem Tc (a b:Bool×Int×Int) (ha:B64 a) (hb:B64 b):uX a b=ad3 (mj (a.2.1*18446744073709551616+a.2.2) (b.2.1*18446744073709551616+b.2.2)):=by
 obtain ⟨t,bh,bl⟩:=b;unfold uX;simp [L1,];unfold mj
 grind
theorem yI (a:Bool) {n:Int} (h0:0<=n) (h:n<=85070591730234615865843651857942052864):B64 (a,n / 18446744073709551616,n%18446744073709551616):=by
 grind
theorem Oz {n:Int} (h:(n.natAbs:Int)<=85070591730234615865843651857942052864):nE (ad9 (n<0),(n.natAbs:Int) / 18446744073709551616,(n.natAbs:Int)%18446744073709551616)=ad3 (mj n 0):=by
 unfold nE mj
 grind
def gE (a b:Int×Int):Int:=mj (a.1*b.2) (b.1*a.2)
theorem Td {a b:Int×Int} (ha:jb a) (hb:jb b):uO a b=ad3 (gE a b):=by
 unfold uO gE;have n1:=xL ha.1 hb.2;have n2:=xL hb.1 ha.2;simp [Be ha.1 hb.2,Be hb.1 ha.2,Oz n1,Oz n2];generalize a.1*b.2=x at*;generalize b.1*a.2=y at*;rw [Oy _ _ (yI _ (by omega) n1) (yI _ (by omega) n2),Oy _ _ (yI _ (by omega) n2) (yI _ (by omega) n1)];simp;rcases dM x 0 with ⟨h1,e1⟩|⟨h1,e1⟩|⟨h1,e1⟩<;>rcases dM y 0 with ⟨h2,e2⟩|⟨h2,e2⟩|⟨h2,e2⟩<;>rw [e1,e2]<;>simp<;>
  unfold mj<;>(repeat' split)<;>first|rfl|omega
theorem ac4 {a b:Int×Int} (ha:jb a) (hb:jb b):A7 a b=ad3 (if bu a/\bu b then 0 else 8):=by
 unfold A7
 grind [bQ,ai]
theorem vX {a b:Int×Int} (ha:jb a) (hb:jb b):oh a b=ad3 (if bu a/\bu b then (gE a b,0) else (0,8)):=by
 unfold oh;rw [ac4 ha hb]
 by_cases h:bu a/\bu b
 · rw [AC h,AC h]
   obtain ⟨⟨a1,a2,a3⟩,b1,b2,b3⟩:=h;have n1:=xL ha.1 hb.2;have n2:=xL hb.1 ha.2;simp [Eg,QR ha.1 hb.2,QR hb.1 ha.2];rw [Tc _ _ (yI _ (by omega) n1) (yI _ (by omega) n2)];have ex:((a.1*b.2).natAbs:Int) / 18446744073709551616*18446744073709551616+((a.1*b.2).natAbs:Int)%18446744073709551616=((a.1*b.2).natAbs:Int):=by omega
   have ey:((b.1*a.2).natAbs:Int) / 18446744073709551616*18446744073709551616+((b.1*a.2).natAbs:Int)%18446744073709551616=((b.1*a.2).natAbs:Int):=by omega
   simp [ex,ey,];unfold gE;have s1:(a.1<0↔a.1*b.2<0):=by
    constructor
    · intro h;exact ab3 h (by omega)
    intro h;rcases lt_or_ge a.1 0 with h1|h1
    · exact h1
    have:=abm h1 (show 0<=b.2 by omega);omega
   have s2:(b.1<0↔b.1*a.2<0):=by
    constructor
    · intro h;exact ab3 h (by omega)
    intro h;rcases lt_or_ge b.1 0 with h1|h1
    · exact h1
    have:=abm h1 (show 0<=a.2 by omega);omega
   generalize a.1*b.2=x at*;generalize b.1*a.2=y at*
   by_cases h1:a.1<0<;>by_cases h2:b.1<0
   · have h3:=s1.1 h1;have h4:=s2.1 h2
     have:aa .i64 (-mj (x.natAbs:Int) (y.natAbs:Int))=mj x y:=by rw [wi];unfold mj;(repeat' split)<;>omega
     simp [h1,h2,this]
   · have h3:=s1.1 h1;have h4:=fun h=>h2 (s2.2 h)
     have:mj a.1 b.1=mj x y:=by unfold mj;(repeat' split)<;>omega
     simp [h1,h2,this]
   · have h3:=fun h=>h1 (s1.2 h);have h4:=s2.1 h2
     have:mj a.1 b.1=mj x y:=by unfold mj;(repeat' split)<;>omega
     simp [h1,h2,this]
   have:mj (x.natAbs:Int) (y.natAbs:Int)=mj x y:=by unfold mj;(repeat' split)<;>omega
   simp [h1,h2,this]
 grind
abbrev Pt:=Int×Int×Int
def eZ (p:Pt):Prop:=0<=p.1/\p.1<=65535/\ -1048576<=p.2.1/\p.2.1<=1048576/\ -1048576<=p.2.2/\p.2.2<=1048576
theorem gd (p:Pt):lB p=ad3 (if eZ p then 0 else 8):=by
 unfold lB sK eZ
 grind
theorem KE (p:Pt):yp p=ad3 (if eZ p then 0 else 8):=by
 unfold yp eZ
 grind
theorem DB {x y:Int} (hx:zX x) (hy:zX y): -85070591730234615865843651857942052864<=x*y/\x*y<=85070591730234615865843651857942052864:=by have:=xL hx hy;omega
theorem aeM {x y:Int} (hx:zX x) (hy:zX y):(x%18446744073709551616)*(y%18446744073709551616)=x*y+(if x<0 then y else 0)*18446744073709551616+(if y<0 then x else 0)*18446744073709551616+(if x<0/\y<0 then 340282366920938463463374607431768211456 else 0):=by
 by_cases h1:x<0<;>by_cases h2:y<0
 · have e1:x%18446744073709551616=x+18446744073709551616:=by omega
   have e2:y%18446744073709551616=y+18446744073709551616:=by omega
   rw [e1,e2,AC h1,AC h2,AC ⟨h1,h2⟩];grind
 · have e1:x%18446744073709551616=x+18446744073709551616:=by omega
   have e2:y%18446744073709551616=y:=by omega
   rw [e1,e2,AC h1,Do h2,Do (fun h=>h2 h.2)];grind
 · have e1:x%18446744073709551616=x:=by omega
   have e2:y%18446744073709551616=y+18446744073709551616:=by omega
   rw [e1,e2,Do h1,AC h2,Do (fun h=>h1 h.1)];grind
 grind
theorem QS {a b:Int} (ha:0<=a) (hb:0<=b):tX a b 0=ad3 ((a+b)%18446744073709551616,(a+b) / 18446744073709551616):=by unfold tX;simp [ha,hb]
theorem Z9 {a b c d u v:Int} (ha:zX a) (hb:zX b):qg (a,b,c,d,0,u,v,0,0)=ad3 (.next (a,b,c,d,1,u,v,a*b / 18446744073709551616,a*b%18446744073709551616)):=by
 unfold qg;have hm:=CQ (x:=aa .u64 a) (y:=aa .u64 b) (by grind [wu]) (by grind [wu]);have Sf:=DB ha hb;have hu:=aeM ha hb;simp [hm,];simp [wu,]
 by_cases h1:a<0<;>by_cases h2:b<0
 all_goals
  simp [h1,h2,];rw [QS (by omega) (by omega)];simp [wi,];omega
theorem Z' {a b c d u v h l:Int} (hc:zX c) (hd:zX d) (hl:Z5 l)
 (_hh: -9223372036854775808<=h/\h<9223372036854775808) (hs: -170141183460469231731687303715884105728<=h*18446744073709551616+l+c*d/\h*18446744073709551616+l+c*d<170141183460469231731687303715884105728):
 qg (a,b,c,d,1,u,v,h,l)=ad3 (.next (a,b,c,d,2,u,v,(h*18446744073709551616+l+c*d) / 18446744073709551616,(h*18446744073709551616+l+c*d)%18446744073709551616)):=by
 unfold qg;have hm:=CQ (x:=aa .u64 c) (y:=aa .u64 d) (by grind [wu]) (by grind [wu]);have hu:=aeM hc hd;simp [hm,];simp [wu,hu]
 by_cases h1:c<0<;>by_cases h2:d<0
 all_goals
  simp [h1,h2,];rw [QS (by omega) (by omega)];simp [wi,];omega
theorem L2 {a b c d:Int} (ha:zX a) (hb:zX b) (hc:zX c) (hd:zX d) (hs: -170141183460469231731687303715884105728<=a*b+c*d/\a*b+c*d<170141183460469231731687303715884105728):
 A8 (a,b,c,d)=ad3 ((a*b+c*d) / 18446744073709551616,(a*b+c*d)%18446744073709551616):=by
 unfold A8;have Sf:=DB ha hb;have e:a*b / 18446744073709551616*18446744073709551616+a*b%18446744073709551616+c*d=a*b+c*d:=by omega
 rw [aJ (Z9 ha hb),aJ (Z' hc hd (by omega) (by omega) (by rw [e];exact hs)),e];exact au rfl
def Eh (p q:Pt) (t:Int×Int):Int:=(p.2.1-q.2.1)*t.2+(p.2.2-q.2.2)*t.1
def leads (p q:Pt) (t:Int×Int):Prop:=0<Eh p q t\/(Eh p q t=0/\(q.2.2<p.2.2\/(p.2.2=q.2.2/\p.1<q.1)))
def aaa (p q:Pt) (t:Int×Int):Int:=if Eh p q t<0 then -1 else if 0<Eh p q t then 1 else if p.2.2<q.2.2 then -1 else if q.2.2<p.2.2 then 1 else mj q.1 p.1
theorem KF (p q:Pt) (t:Int×Int):0<aaa p q t↔leads p q t:=by
 unfold aaa leads
 by_cases h1:Eh p q t<0
 · omega
 by_cases h2:0<Eh p q t
 · omega
 rcases dM q.1 p.1 with ⟨h,e⟩|⟨h,e⟩|⟨h,e⟩<;>rw [e]<;>omega
theorem DC (a b:Int):xD [a,b]=ad3 (if a≠0 then a else b):=by
 unfold xD
 by_cases h1:a=0
 · subst h1
   rw [aJ (y:=(0,[0,b],2,1)) (by rfl)]
   by_cases h2:b=0
   · subst h2
     rw [aJ (by rfl)];exact au rfl
   refine (au (r:=b) ?_).trans (by simp)
   have e:zc (0,[0,b],2,1)=(bif b !=0 then ad3 _ else ad3 _):=rfl
   grind
 refine (au (r:=a) ?_).trans (by simp [h1])
 have e:zc (0,[a,b],WF [a,b].length,0)=(bif a !=0 then ad3 _ else ad3 _):=rfl
 grind
theorem aab {p q:Pt} {t:Int×Int} (hp:eZ p) (hq:eZ q) (ht:jb t):zX (p.2.1-q.2.1)/\zX (p.2.2-q.2.2)/\ -170141183460469231731687303715884105728<=Eh p q t/\Eh p q t<170141183460469231731687303715884105728:=by
 obtain ⟨a1,a2,a3,a4,a5,a6⟩:=hp;obtain ⟨b1,b2,b3,b4,b5,b6⟩:=hq;have h1:zX (p.2.1-q.2.1):=by omega
 have h2:zX (p.2.2-q.2.2):=by omega
 have k: ∀{x y:Int},-2097152<=x/\x<=2097152->zX y-> -19342813113834066795298816<=x*y/\x*y<=19342813113834066795298816:=by
  intro x y hx hy;have:((x*y).natAbs:Int)<=2097152*9223372036854775808:=by rw [<- F6];exact abf (by omega) (DA hy) (by omega) (by decide)
  omega
 have k1:=k (x:=p.2.1-q.2.1) (by omega) ht.2;have k2:=k (x:=p.2.2-q.2.2) (by omega) ht.1;unfold Eh;omega
theorem yJ {p q:Pt} {t:Int×Int} (hp:eZ p) (hq:eZ q) (ht:jb t):oV p q t=ad3 (aaa p q t):=by
 obtain ⟨g1,g2,g3⟩:=aab hp hq ht;unfold oV;rw [eD g1,eD g2,L2 g1 ht.2 g2 ht.1 g3];simp [Eg,mX,DC];rw [show (p.2.1-q.2.1)*t.2+(p.2.2-q.2.2)*t.1=Eh p q t from rfl];unfold aaa;generalize Eh p q t=n at*
 by_cases h1:n<0
 · grind
 by_cases h2:0<n
 · grind
 unfold mj
 grind
theorem ac5 {x y:Int} (hx: -85070591730234615865843651857942052864<=x/\x<=85070591730234615865843651857942052864) (hy: -85070591730234615865843651857942052864<=y/\y<=85070591730234615865843651857942052864):
 AZ (ad9 (x<0),(x.natAbs:Int) / 18446744073709551616,(x.natAbs:Int)%18446744073709551616) (ad9 (y<0),(y.natAbs:Int) / 18446744073709551616,(y.natAbs:Int)%18446744073709551616)=
  ad3 (ad9 (x+y<0),((x+y).natAbs:Int) / 18446744073709551616,((x+y).natAbs:Int)%18446744073709551616):=by
 have n1:(x.natAbs:Int)<=85070591730234615865843651857942052864:=by omega
 have n2:(y.natAbs:Int)<=85070591730234615865843651857942052864:=by omega
 unfold AZ;rw [Oy _ _ (yI _ (by omega) n1) (yI _ (by omega) n2)];have ex:((x.natAbs:Int) / 18446744073709551616)*18446744073709551616+(x.natAbs:Int)%18446744073709551616=(x.natAbs:Int):=by omega
 have ey:((y.natAbs:Int) / 18446744073709551616)*18446744073709551616+(y.natAbs:Int)%18446744073709551616=(y.natAbs:Int):=by omega
 simp only [ex,ey,ai];have same: ∀{X Y Z:Int},0<=X->0<=Y->X<=85070591730234615865843651857942052864->Y<=85070591730234615865843651857942052864->Z=X+Y-> ∀b:Bool,
  (bif ad9 (aa .u64 (X%18446744073709551616+Y%18446744073709551616)<X%18446744073709551616) then ad3 (b,aa .u64 (aa .u64 (X / 18446744073709551616+Y / 18446744073709551616)+1),aa .u64 (X%18446744073709551616+Y%18446744073709551616))
   else ad3 (b,aa .u64 (X / 18446744073709551616+Y / 18446744073709551616),aa .u64 (X%18446744073709551616+Y%18446744073709551616)))=ad3 (b,Z / 18446744073709551616,Z%18446744073709551616):=by
  intro X Y Z h1 h2 h3 h4 h5 b;subst h5;simp only [wu]
  by_cases h:(X%18446744073709551616+Y%18446744073709551616)%18446744073709551616<X%18446744073709551616
  · simp only [h,decide_true,v6,aba,abk,true_and];constructor<;>omega
  simp only [h,decide_false,ww,aba,abk,true_and];constructor<;>omega
 have minus: ∀{X Y Z:Int} (b c:Bool),0<=X->0<=Y->X<=85070591730234615865843651857942052864->Y<=X->Z=X-Y->vD (b,X / 18446744073709551616,X%18446744073709551616) (c,Y / 18446744073709551616,Y%18446744073709551616)=ad3 (ad8,Z / 18446744073709551616,Z%18446744073709551616):=by
  intro X Y Z b c h1 h2 h3 h4 h5;subst h5;unfold vD;simp only [wu]
  by_cases h:X%18446744073709551616<Y%18446744073709551616
  · simp only [h,decide_true,v6,aba,abk,true_and];constructor<;>omega
  simp only [h,decide_false,ww,aba,abk,true_and];constructor<;>omega
 by_cases h1:x<0<;>by_cases h2:y<0
 · have h3:x+y<0:=by omega
   simp only [h1,h2,h3,decide_true,beq_self_eq_true,v6];exact same (by omega) (by omega) n1 n2 (by omega) ad6
 · simp only [h1,h2,decide_true,decide_false,show (ad6==ad8)=ad8 from rfl,ww,v6]
   by_cases h3:(y.natAbs:Int)<=(x.natAbs:Int)
   · have e:ad9 (0<=mj (x.natAbs:Int) (y.natAbs:Int))=ad6:=by
      rcases dM (x.natAbs:Int) (y.natAbs:Int) with ⟨h,e⟩|⟨h,e⟩|⟨h,e⟩<;>rw [e]<;>first|rfl|omega
     rw [e,minus (Z:=((x+y).natAbs:Int)) _ _ (by omega) (by omega) n1 h3 (by omega)];simp only [v6,ai]
     by_cases h4:x+y=0
     · rw [h4];rfl
     have h5:x+y<0:=by omega
     by_cases h6:0<((x+y).natAbs:Int) / 18446744073709551616
     · simp [h5,h6]
     have h7:0<((x+y).natAbs:Int)%18446744073709551616:=by omega
     simp only [h5,h6,h7,decide_true,decide_false,ww]
   have e:ad9 (0<=mj (x.natAbs:Int) (y.natAbs:Int))=ad8:=by
    rcases dM (x.natAbs:Int) (y.natAbs:Int) with ⟨h,e⟩|⟨h,e⟩|⟨h,e⟩<;>rw [e]<;>first|rfl|omega
   rw [e,minus (Z:=((x+y).natAbs:Int)) _ _ (by omega) (by omega) n2 (by omega) (by omega)];have h5: ¬(x+y<0):=by omega
   simp [h5]
 · simp only [h1,h2,decide_true,decide_false,show (ad8==ad6)=ad8 from rfl,ww]
   by_cases h3:(y.natAbs:Int)<=(x.natAbs:Int)
   · have e:ad9 (0<=mj (x.natAbs:Int) (y.natAbs:Int))=ad6:=by
      rcases dM (x.natAbs:Int) (y.natAbs:Int) with ⟨h,e⟩|⟨h,e⟩|⟨h,e⟩<;>rw [e]<;>first|rfl|omega
     rw [e,minus (Z:=((x+y).natAbs:Int)) _ _ (by omega) (by omega) n1 h3 (by omega)];have h5: ¬(x+y<0):=by omega
     simp [h5]
   have e:ad9 (0<=mj (x.natAbs:Int) (y.natAbs:Int))=ad8:=by
    rcases dM (x.natAbs:Int) (y.natAbs:Int) with ⟨h,e⟩|⟨h,e⟩|⟨h,e⟩<;>rw [e]<;>first|rfl|omega
   rw [e,minus (Z:=((x+y).natAbs:Int)) _ _ (by omega) (by omega) n2 (by omega) (by omega)];have h5:x+y<0:=by omega
   simp [h5]
 grind
theorem ag4 {p q:Pt} {t:Int×Int} (hp:eZ p) (hq:eZ q) (ht:jb t):Du p q t=ad3 (mj (Eh p q t) 0):=by
 obtain ⟨g1,g2,g3⟩:=aab hp hq ht;unfold Du;rw [eD g1,eD g2,Be g1 ht.2,Be g2 ht.1];simp only [ai];rw [ac5 (DB g1 ht.2) (DB g2 ht.1)];simp only [ai];rw [show (p.2.1-q.2.1)*t.2+(p.2.2-q.2.2)*t.1=Eh p q t from rfl];obtain ⟨a1,a2,a3,a4,a5,a6⟩:=hp;obtain ⟨b1,b2,b3,b4,b5,b6⟩:=hq;have k: ∀{x y:Int},-2097152<=x/\x<=2097152->zX y-> -19342813113834066795298816<=x*y/\x*y<=19342813113834066795298816:=by
  intro x y hx hy;have:((x*y).natAbs:Int)<=2097152*9223372036854775808:=by rw [<- F6];exact abf (by omega) (DA hy) (by omega) (by decide)
  omega
 have k1:=k (x:=p.2.1-q.2.1) (by omega) ht.2;have k2:=k (x:=p.2.2-q.2.2) (by omega) ht.1;have:((Eh p q t).natAbs:Int)<=85070591730234615865843651857942052864:=by unfold Eh;omega
 rw [Oz this];rfl
theorem CR {p q:Pt} {t:Int×Int} (hp:eZ p) (hq:eZ q) (ht:jb t):np p q t=ad3 (ad9 (leads p q t)):=by
 unfold np leads;rw [ag4 hp hq ht];simp;rcases dM _ 0 with ⟨h,e⟩|⟨h,e⟩|⟨h,e⟩<;>rw [e]
 · have h1: ¬(0<Eh p q t):=by omega
   have h2: ¬(Eh p q t=0):=by omega
   simp [h1,h2]
 · grind
 simp [h]
theorem zj {p q:Pt} {t:Int×Int} (ht:jb t):uo p q t=ad3 (if eZ p/\eZ q/\bu t then (if p.1=q.1 then 2 else 0) else 8):=by
 unfold uo;simp [gd,bQ ht,]
 grind
theorem ac6 {n d:Int} (hn:zX n) (hd:zX d):A9 n d=oQ n d:=by
 unfold A9 oQ
 by_cases h0:d=0
 · subst h0;rfl
 simp only [nK hn,nK hd,lT hn,lT hd,ai,Ef,uv]
 have e1:((IR n.natAbs d.natAbs:Int)==0)=ad8:=by simp;omega
 unfold CJ ud
 by_cases h3:n=0
 · subst h3
   have z: ∀k:Int,aa .u64 (abn (((0:Int).natAbs:Nat):Int) k)=0:=fun k=>by rw [show (((0:Int).natAbs:Nat):Int)=0 from rfl,Int.zero_tdiv];rfl
   have z2:aa .i64 0=0:=rfl;have z3:aa .i64 (0-0)=0:=rfl;simp only [z,z2,z3,];cases (!(ad8==ad9 (d<0)))<;>simp
 grind
noncomputable def met (p q:Pt):Int×Int:=((oQ (p.2.1-q.2.1) (q.2.2-p.2.2)).getD ((0,0),0)).1
theorem Te {n d:Int} (hn: -2097152<=n/\n<=2097152) (hd: -2097152<=d/\d<=2097152) (h0:d≠0): ∃r,oQ n d=ad3 (r,0)/\bu r/\jb r/\r.1*d=n*r.2:=by
 have hn':zX n:=by omega
 have hd':zX d:=by omega
 unfold oQ;have e0:(d==0)=ad8:=by simpa using h0
 have hp:0<IR n.natAbs d.natAbs:=Nat.gcd_pos_of_pos_right _ (by omega);have e1:((IR n.natAbs d.natAbs:Int)==0)=ad8:=by simp;omega
 simp only [e0,lT hn',lT hd',ai,uv,e1];have q1:abn (n.natAbs:Int) (IR n.natAbs d.natAbs:Int)=((n.natAbs / IR n.natAbs d.natAbs:Nat):Int):=by rfl
 have q2:abn (d.natAbs:Int) (IR n.natAbs d.natAbs:Int)=((d.natAbs / IR n.natAbs d.natAbs:Nat):Int):=by rfl
 rw [q1,q2];have l1:n.natAbs / IR n.natAbs d.natAbs<=2097152:=ad1 (acl _ _) (by omega);have l2:d.natAbs / IR n.natAbs d.natAbs<=2097152:=ad1 (acl _ _) (by omega);have l3:=Nat.div_pos (Nat.le_of_dvd (by omega) (abj _ _)) hp;have co:IR (d.natAbs / IR n.natAbs d.natAbs) (n.natAbs / IR n.natAbs d.natAbs)=1:=by
  grind [abd,Nat.gcd_div,abC,abj,Nat.div_self]
 have v1:n.natAbs=IR n.natAbs d.natAbs*(n.natAbs / IR n.natAbs d.natAbs):=(abv (abC _ _)).symm;have v2:d.natAbs=IR n.natAbs d.natAbs*(d.natAbs / IR n.natAbs d.natAbs):=(abv (abj _ _)).symm;have val:(n.natAbs:Int)*((d.natAbs / IR n.natAbs d.natAbs:Nat):Int)=(d.natAbs:Int)*((n.natAbs / IR n.natAbs d.natAbs:Nat):Int):=by
  generalize n.natAbs / IR n.natAbs d.natAbs=a at*;generalize d.natAbs / IR n.natAbs d.natAbs=b at*;generalize IR n.natAbs d.natAbs=g at*;rw [v1,v2,acm,acm,acr,acr,Int.mul_comm _ (b:Int)]
 generalize n.natAbs / IR n.natAbs d.natAbs=a at*;generalize d.natAbs / IR n.natAbs d.natAbs=b at*;have w1:aa .u64 (a:Int)=a:=by rw [wu];omega
 have w2:aa .u64 (b:Int)=b:=by rw [wu];omega
 have made: ∀s:Bool,ud s (ad8,0,(a:Int)) (ad8,0,(b:Int))=ad3 ((if s=ad6 then -(a:Int) else a,(b:Int)),0):=by
  unfold ud;have v1:aa .i64 (a:Int)=a:=by rw [wi];omega
  have v2:aa .i64 (b:Int)=b:=by rw [wi];omega
  have v3:aa .i64 (0- (a:Int))= -(a:Int):=by rw [wi];omega
  grind
 have fin: ∀s:Bool,(if s=ad6 then -(a:Int) else a)*d=n*b-> ∃r,(ad3 ((if s=ad6 then -(a:Int) else a,(b:Int)),(0:Int)):Option _)=ad3 (r,0)/\bu r/\jb r/\r.1*d=n*r.2:=by
  intro s hv;refine ⟨_,rfl,?_,?_,hv⟩
  · unfold bu
    dsimp only;refine ⟨by omega,?_,?_⟩
    · cases s
      · simp only [Bool.false_eq_true,];omega
      simp;omega
    rw [show (if s=ad6 then -(a:Int) else (a:Int)).natAbs=a by cases s<;>simp,show ((b:Int)).natAbs=b by omega];exact co
  omega
 simp only [w1,w2,made,]
 by_cases h1:(!(ad9 (n<0)==ad9 (d<0)))=ad6
 · rw [h1]
   refine fin _ ?_
   grind
 rw [abD] at h1;rw [h1]
 refine fin ad8 ?_
 grind
theorem EY {p q:Pt} (hp:eZ p) (hq:eZ q) (h:p.2.2≠q.2.2):oQ (p.2.1-q.2.1) (q.2.2-p.2.2)=ad3 (met p q,0)/\bu (met p q)/\jb (met p q)/\(met p q).1*(q.2.2-p.2.2)=(p.2.1-q.2.1)*(met p q).2:=by
 obtain ⟨a1,a2,a3,a4,a5,a6⟩:=hp;obtain ⟨b1,b2,b3,b4,b5,b6⟩:=hq;obtain ⟨r,h1,h2,h3⟩:=Te (n:=p.2.1-q.2.1) (d:=q.2.2-p.2.2) (by omega) (by omega) (by omega);have:met p q=r:=by unfold met;rw [h1];rfl
 grind
theorem MW {p q:Pt} (hp:eZ p) (hq:eZ q):aa .i64 (p.2.1-q.2.1)=p.2.1-q.2.1/\aa .i64 (q.2.2-p.2.2)=q.2.2-p.2.2/\zX (p.2.1-q.2.1)/\zX (q.2.2-p.2.2):=by
 obtain ⟨a1,a2,a3,a4,a5,a6⟩:=hp;obtain ⟨b1,b2,b3,b4,b5,b6⟩:=hq
 grind [eD]
noncomputable def jo (h l:Pt) (t:Int×Int):(Int×Int)×Bool:=if leads l h t then (t,ad6) else if h.2.2<l.2.2 then (met h l,ad6) else ((0,0),ad8)
theorem ag5 {p q:Pt} (hp:eZ p) (hq:eZ q) (h:p.2.2≠q.2.2):Dv p q=ad3 (met p q):=by
 obtain ⟨w1,w2,_,_⟩:=MW hp hq;unfold Dv
 grind [EY]
theorem Tf {h l:Pt} {t:Int×Int} (hh:eZ h) (hl:eZ l) (ht:jb t):uP h l t=ad3 (jo h l t):=by
 unfold uP jo;rw [CR hl hh ht];simp
 grind [ag5]
theorem aac:bu (0,1):=by unfold bu;decide
theorem IL {h l:Pt} {t:Int×Int} (ht:jb t):
 wP h l t=ad3 (if eZ h/\eZ l/\bu t/\h.1≠l.1 then ((jo h l t).1,(jo h l t).2,0) else ((0,0),ad8,if eZ h/\eZ l/\bu t then 2 else 8)):=by
 unfold wP;rw [zj ht]
 by_cases h1:eZ h/\eZ l/\bu t
 · rw [AC h1]
   by_cases h2:h.1=l.1
   · simp [h1,h2]
   obtain ⟨hh,hl,hr⟩:=h1
   rw [Do h2,AC ⟨hh,hl,hr,h2⟩];simp [yJ hl hh ht];unfold jo
   by_cases h3:leads l h t
   · have:ad9 (0<aaa l h t)=ad6:=by simpa using (KF l h t).2 h3
     rw [this];simp [h3]
   have:=decide_eq_false fun k=>h3 ((KF l h t).1 k)
   rw [this,Do h3]
   by_cases h4:h.2.2<l.2.2
   · have e:ad9 (l.2.2<=h.2.2)=ad8:=by simp;omega
     rw [e,AC h4];unfold CK;obtain ⟨w1,w2,i1,i2⟩:=MW hh hl;have e2:(h.2.2==l.2.2)=ad8:=by simp;omega
     rw [zj (by constructor<;>constructor<;>decide),AC ⟨hh,hl,aac⟩,Do h2];simp only [e2,w1,w2,ac6 i1 i2,(EY hh hl (by omega)).1];rfl
   have e:ad9 (l.2.2<=h.2.2)=ad6:=by simp;omega
   rw [e,Do h4];rfl
 grind
theorem F7 {h l:Pt} {t:Int×Int} (hh:eZ h) (hl:eZ l) (ht:jb t) (hr:bu t) (h2:(jo h l t).2=ad6):bu (jo h l t).1/\jb (jo h l t).1:=by
 unfold jo at*
 by_cases h3:leads l h t
 · grind
 rw [Do h3] at h2 ⊢
 by_cases h4:h.2.2<l.2.2
 · rw [AC h4];have:=(EY hh hl (by omega)).2;exact ⟨this.1,this.2.1⟩
 grind
theorem Tg: ∀(n:Nat) (l:List Nat),l.Nodup->(∀x∈l,x<n)->ad2 l<=n
 |0,l,_,h=>by
  cases l with
  |nil=>simp
  |cons a l=>exact absurd (h a (by simp)) (by omega)
 |n+1,l,hd,h=>by
  have h1:=Tg n (l.filter (fun x=>x≠n)) (hd.filter _) (by
   grind)
  have h2:(ad2 l)<=(l.filter (fun x=>x≠n)).length+1:=by
   induction l with
   |nil=>simp
   |cons a l ih=>
    rw [abc] at hd
    by_cases ha:a=n
    · subst ha
      have e:l.filter (fun x=>decide (x≠a))=l:=by rw [List.filter_eq_self];intro x hx;simp;rintro rfl;exact hd.1 hx
      rw [List.filter_cons_of_neg (by simp),e];simp
    grind
  omega
theorem Ie {n:Nat} {l:List Nat} (hd:l.Nodup) (h: ∀x∈l,x<n) (hn:n<=ad2 l): ∀x,x<n->x∈l:=by
 intro x hx;refine NE fun hc=>?_
 have:=Tg n _ (by rw [abc];exact ⟨hc,hd⟩) (by
  intro y hy;rcases List.mem_cons.1 hy with rfl|hy
  · exact hx
  exact h y hy)
 grind
def fo (l:List Pt):Prop:= ∀i,i+1<ad2 l->(l[i]!).1<(l[i+1]!).1
def aT (l:List Pt):Prop:=ad2 l<=64/\(∀p∈l,eZ p)/\fo l
noncomputable def xM (l:List Pt):Int:=if 64<(ad2 l) then 4 else if¬(∀p∈l,eZ p) then 8 else if¬fo l then 32 else 0
theorem gF {l:List Pt}:xM l=0↔aT l:=by
 unfold xM aT
 grind
theorem aM {n:Nat} (h:n<1000000000):aa .i64 ((n:Int)+1)=((n+1:Nat):Int):=by rw [wi];omega
theorem u7 {n:Nat} (h:n<1000000000) (h1:1<=n):aa .i64 ((n:Int) -1)=((n-1:Nat):Int):=by rw [wi];omega
theorem aF (n:Nat):WF n=(n:Int):=rfl
theorem QT (l:List Pt) (h:(ad2 l)<=64):aq kB (1,l)=ad3 (.done (if fo l then 0 else 32)):=by
 by_cases hl:(ad2 l)<=1
 · have:fo l:=fun i hi=>by omega
   rw [AC this];refine au ?_;unfold kB
   grind
 have key:=dZ (body:=kB) (fun i=>(((i+1:Nat):Int),l)) (ad2 l-1) (fun i=>(l[i+1]!).1<=(l[i]!).1) (r:= .done 32) (e:= .done 0) (by
  intro i hi;have e1:ad9 (((i+1:Nat):Int)<((ad2 l):Int))=ad6:=by simp;omega
  have e2:aa .i64 (((i+1:Nat):Int) -1)=(i:Int):=by rw [wi];omega
  have hb:kB (((i+1:Nat):Int),l)=bif ad9 ((l[i+1]!).1<=(l[i]!).1) then ad3 (.done (.done 32)) else ad3 (.next (((i+1+1:Nat):Int),l)):=by unfold kB;simp (disch:=omega) only [aF,e1,v6,e2,ar,ai,aM]
  grind) (by
  unfold kB
  grind)
 by_cases hs:fo l
 · rw [AC hs]
   refine key.2 fun i hi=>?_
   have:=hs i (by omega);omega
 rw [Do hs]
 unfold fo at hs
 grind
theorem KG (f:Field):yq f=ad3 (xM f.am):=by
 unfold yq xM;rw [aF]
 by_cases h:64<ad2 f.am
 · grind
 have:ad9 ((64:Int)<((ad2 f.am):Int))=ad8:=by simp;omega
 rw [this,Do h];generalize f.am=l at*;have key:=dZ (body:=oO) (fun i=>((i:Int),l)) (ad2 l) (fun i=> ¬eZ l[i]!) (r:=8) (e:=if fo l then 0 else 32) (by
  intro i hi;have e1:ad9 ((i:Int)<((ad2 l):Int))=ad6:=by simp;omega
  have hb:oO ((i:Int),l)=bif (if eZ l[i]! then (0:Int) else 8) !=0 then ad3 (.done 8) else ad3 (.next (((i+1:Nat):Int),l)):=by unfold oO;simp (disch:=omega) only [aF,e1,v6,ar,ai,KE,aM]
  grind) (by
  unfold oO;simp_all [QT])
 by_cases hp: ∀p∈l,eZ p
 · grind
 obtain ⟨p,hp⟩:=abo.1 hp
 obtain ⟨hm,h2⟩:=abA.1 hp;obtain ⟨i,hi,rfl⟩:=aS.1 hm
 grind
theorem QU (l:List Pt) (h:(ad2 l)<=64):aq kE (l,((ad2 l):Int),0,l)=ad3 (.done (if fo l then 0 else 32)):=by
 have key:=dZ (body:=kE) (fun i=>(l,((ad2 l):Int),(i:Int),l)) (ad2 l) (fun i=>0<i/\(l[i]!).1<=(l[i-1]!).1) (r:= .done 32) (e:= .done 0) (by
  intro i hi;have e1:ad9 ((i:Int)<((ad2 l):Int))=ad6:=by simp;omega
  by_cases h0:0<i
  · have e3:ad9 ((0:Int)<(i:Int))=ad6:=by simp;omega
    have hb:kE (l,((ad2 l):Int),(i:Int),l)=bif ad9 ((l[i]!).1<=(l[i-1]!).1) then ad3 (.done (.done 32)) else ad3 (.next (l,((ad2 l):Int),((i+1:Nat):Int),l)):=by unfold kE;simp (disch:=omega) only [e1,e3,v6,ar,u7 (by omega) h0,ai,aM]
    grind
  · have e3:ad9 ((0:Int)<(i:Int))=ad8:=by simp;omega
    constructor
    · omega
    intro _
    unfold kE;simp (disch:=omega) only [e1,e3,v6,ww,ar,ai,aM]) (by
  unfold kE;simp)
 by_cases hs:fo l
 · rw [AC hs]
   refine key.2 fun i hi=>?_
   rintro ⟨h0,h1⟩;have:=hs (i-1) (by omega)
   grind
 rw [Do hs]
 unfold fo at hs
 grind
theorem fq (f:Field):cY f=ad3 (xM f.am):=by
 unfold cY xM;rw [aF]
 by_cases h:64<ad2 f.am
 · grind
 have:ad9 ((64:Int)<((ad2 f.am):Int))=ad8:=by simp;omega
 rw [this,Do h];generalize f.am=l at*;have key:=dZ (body:=oU) (fun i=>(l,((ad2 l):Int),(i:Int),l)) (ad2 l) (fun i=> ¬eZ l[i]!) (r:=8) (e:=if fo l then 0 else 32) (by
  intro i hi;have e1:ad9 ((i:Int)<((ad2 l):Int))=ad6:=by simp;omega
  have hb:oU (l,((ad2 l):Int),(i:Int),l)=bif (if eZ l[i]! then (0:Int) else 8) !=0 then ad3 (.done (if eZ l[i]! then (0:Int) else 8)) else ad3 (.next (l,((ad2 l):Int),((i+1:Nat):Int),l)):=by unfold oU;simp (disch:=omega) only [e1,v6,ar,ai,gd,aM]
  grind) (by
  unfold oU;simp_all [QU])
 by_cases hp: ∀p∈l,eZ p
 · grind
 obtain ⟨p,hp⟩:=abo.1 hp
 obtain ⟨hm,h2⟩:=abA.1 hp;obtain ⟨i,hi,rfl⟩:=aS.1 hm
 grind
theorem eO {l:List Pt} (h:fo l) {i j:Nat} (pX:i<j) (hj:j<ad2 l):(l[i]!).1<(l[j]!).1:=by
 induction j with
 |zero=>omega
 |succ j ih=>
  have h1:=h j hj
  grind
theorem nL {l:List Pt} (h:fo l) {i j:Nat} (hi:i<ad2 l) (hj:j<ad2 l) (he:(l[i]!).1=(l[j]!).1):i=j:=by
 rcases Nat.lt_trichotomy i j with h1|h1|h1
 · have:=eO h h1 hj;omega
 · exact h1
 have:=eO h h1 hi;omega
theorem Ig (l:List Pt) (id:Int) (hl:(ad2 l)<=1000000):(∀k,k<ad2 l->(l[k]!).1=id->(∀j,j<k->(l[j]!).1≠id)->iv ⟨l⟩ id=ad3 (k:Int))/\((∀k,k<ad2 l->(l[k]!).1≠id)->iv ⟨l⟩ id=ad3 (-1)):=by
 refine pf (fun i=>(id,(i:Int),l)) (ad2 l) (fun i=>(l[i]!).1=id) (fun i=>(i:Int)) (fun i hi=>?_) ?_
 · have e1:ad9 ((i:Int)<((ad2 l):Int))=ad6:=by simp;omega
   have hb:yt (id,(i:Int),l)=bif (l[i]!).1==id then ad3 (.done (i:Int)) else ad3 (.next (id,((i+1:Nat):Int),l)):=by unfold yt;simp (disch:=omega) only [aF,e1,v6,ar l i hi,ai,aM]
   grind
 unfold yt
 simp
theorem MX {l:List Pt} (hs:fo l) (hl:(ad2 l)<=1000000) {k:Nat} (hk:k<ad2 l) {id:Int} (he:(l[k]!).1=id):iv ⟨l⟩ id=ad3 (k:Int):=by
 refine (Ig l id hl).1 k hk he fun j hj hc=>?_
 have:=eO hs hj hk;omega
theorem ac7 {l:List Pt} (hl:(ad2 l)<=1000000) {id:Int} (h: ∀k,k<ad2 l->(l[k]!).1≠id):iv ⟨l⟩ id=ad3 (-1):=(Ig l id hl).2 h
theorem QV (f:Nat->Int) (id:Int): ∀(n:Nat),(∀i j,i<j->j<n->f i<f j)-> ∃m,m<=n/\(∀i,i<m->f i<id)/\(∀i,m<=i->i<n->id<=f i)
 |0,_=>⟨0,abG _,fun i h=>by omega,fun i _ h=>by omega⟩
 |n+1,h=>by
  obtain ⟨m,h1,h2,h3⟩:=QV f id n fun i j a b=>h i j a (by omega)
  by_cases hm:m=n
  · by_cases hf:f n<id
    · refine ⟨n+1,abG _,fun i hi=>?_,fun i a b=>by omega⟩
      grind
    refine ⟨n,by omega,fun i hi=>h2 i (by omega),fun i a b=>?_⟩
    grind
  refine ⟨m,by omega,h2,fun i a b=>?_⟩
  grind
theorem bI {α:Type} [Inhabited α] {l:List α}:l.Nodup↔ ∀i j,i<j->j<ad2 l->l[i]!≠l[j]!:=by
 grind [List.pairwise_iff_getElem]
theorem cE {α:Type} [Inhabited α] {l:List α} {k:Nat} {x:α}:x∈l.take k↔ ∃i,i<k/\i<ad2 l/\l[i]! =x:=by
 rw [aS];constructor
 · grind
 rintro ⟨i,h1,h2,rfl⟩
 exact ⟨i,by grind,w8 h1⟩
theorem dG {α:Type} [Inhabited α] {l:List α} {k:Nat} (h:k<ad2 l):l.take (k+1)=l.take k++[l[k]!]:=by simp_all
def marks (l:List Bool):List Int->List Bool
 | []=>l
 |x::r=>marks (cA l x ad6) r
theorem pN: ∀(r:List Int) (l:List Bool),(marks l r).length=ad2 l
 | [],_=>rfl
 |x::r,l=>by rw [marks,pN r,FF]
theorem EZ: ∀(r:List Int) (l:List Bool) (x:Int),marks l (r++[x])=cA (marks l r) x ad6
 | [],_,_=>rfl
 |y::r,l,x=>by show marks _ (r++[x])=_;rw [EZ r];rfl
theorem rL: ∀(r:List Int) (l:List Bool) (i:Nat),(∀x∈r,0<=x)->i<ad2 l->(marks l r)[i]! =(l[i]!||ad9 ((i:Int)∈r))
 | [],l,i,_,_=>by simp [marks]
 |x::r,l,i,h,hi=>by
  rw [marks,rL r _ i (fun y hy=>h y (by simp [hy])) (by rw [FF];exact hi)];obtain ⟨k,rfl⟩:=ab4 (h x (by simp));rw [eE,cf]
  grind
theorem KH (l:List Bool) (h:(ad2 l)<=1000000):fh l ad8=ad3 (ad9 (ad8∈l)):=by
 unfold fh sL;have key:=pf (body:=iT) (fun i=>(l,ad8,((ad2 l):Int),(i:Int))) (ad2 l) (fun i=>l[i]! =ad8) (fun i=>(i:Int)) (e:= -1) (fun i hi=>by
  have e1:ad9 ((i:Int)<((ad2 l):Int))=ad6:=by simp;omega
  have hb:iT (l,ad8,((ad2 l):Int),(i:Int))=bif ad8==l[i]! then ad3 (.done (i:Int)) else ad3 (.next (l,ad8,((ad2 l):Int),((i+1:Nat):Int))):=by unfold iT;simp (disch:=omega) only [e1,v6,ar l i hi,ai,aM]
  constructor
  · intro hc;rw [hb,hc];rfl
  · intro hc
    have:l[i]! =ad6:=by simpa using hc
    rw [hb,this];rfl) (by
  unfold iT;simp)
 rw [aF]
 by_cases hx:ad8∈l
 · obtain ⟨i,hi,he⟩:=aS.1 hx
   obtain ⟨k,h1,h2,h3⟩:=least (c:=fun i=>l[i]! =ad8) ⟨i,hi,he⟩;have:=key.1 k h1 h2 h3;rw [show ((0:Nat):Int)=0 from rfl] at this;rw [this];have e:ad9 ((0:Int)<=(k:Int))=ad6:=by simp
   simp [hx]
 grind
structure iq (s:bD):Prop where
 n1:1<=ad2 s.aC
 n2:(ad2 s.aC)<=200
 ul:(ad2 s.be)=ad2 s.aC
 fr: ∀x∈s.bi,0<=x/\x<ad2 s.aC
 fd:s.bi.Nodup
 uf: ∀i,i<ad2 s.aC->(s.be[i]! =ad6↔(i:Int)∉s.bi)
 us: ∀i,i<ad2 s.aC->0<=s.aC[i]!/\s.aC[i]!<=1000000/\(s.be[i]! =ad6->1<=s.aC[i]!)
theorem Th (aC:List Int) (be:List Bool) (fr:List Int) (h1:(ad2 aC)<=200) (h2:(ad2 be)=ad2 aC):
 aq iK (aC,((ad2 aC):Int),0,aC,be,fr)=ad3 (.done (if∀i,i<ad2 aC->0<=aC[i]!/\aC[i]!<=1000000/\(be[i]! =ad6->1<=aC[i]!) then 0 else 8)):=by
 have key:=dZ (body:=iK) (fun i=>(aC,((ad2 aC):Int),(i:Int),aC,be,fr)) (ad2 aC) (fun i=> ¬(0<=aC[i]!/\aC[i]!<=1000000/\(be[i]! =ad6->1<=aC[i]!))) (r:= .done 8) (e:= .done 0) (fun i hi=>by
  have e1:ad9 ((i:Int)<((ad2 aC):Int))=ad6:=by simp;omega
  have hb:iK (aC,((ad2 aC):Int),(i:Int),aC,be,fr)=bif ad9 (aC[i]!<0) then ad3 (.done (.done 8)) else bif ad9 (1000000<aC[i]!) then ad3 (.done (.done 8)) else bif aC[i]! ==0 then (bif be[i]! then ad3 (.done (.done 8)) else ad3 (.next (aC,((ad2 aC):Int),((i+1:Nat):Int),aC,be,fr))) else ad3 (.next (aC,((ad2 aC):Int),((i+1:Nat):Int),aC,be,fr)):=by unfold iK;simp (disch:=omega) only [e1,v6,ar,ai,aM]
  rw [hb];generalize aC[i]! =u at*
  by_cases a1:u<0
  · simp [a1];omega
  · by_cases a2:1000000<u
    · simp [a2];omega
    by_cases a3:u=0
    · subst a3
      cases be[i]!<;>simp
    have a4:1<=u:=by omega
    simp [a1,a2,jm a3,a4,]) (by
  unfold iK;simp)
 grind
theorem zk (s:bD) (hf:(ad2 s.bi)<=1000000):uj s=ad3 (if iq s then 0 else 8):=by
 obtain ⟨aC,be,fr⟩:=s;dsimp only at hf;unfold uj;simp []
 by_cases a1:(ad2 aC)<1
 · have e:ad9 (((ad2 aC):Int)<1)=ad6:=by simp;omega
   rw [e,Do (fun h=>by have:=h.n1;grind)];rfl
 have e1:ad9 (((ad2 aC):Int)<1)=ad8:=by simp;omega
 by_cases a2:200<ad2 aC
 · have e:ad9 (200<((ad2 aC):Int))=ad6:=by simp;omega
   rw [e1,e,Do (fun h=>by have:=h.n2;grind)];rfl
 have e2:ad9 (200<((ad2 aC):Int))=ad8:=by simp;omega
 by_cases a3:(ad2 be)=ad2 aC
 case neg=>
  have e:(((ad2 be):Int) !=((ad2 aC):Int))=ad6:=by simp;omega
  rw [e1,e2,e,Do (fun h=>a3 h.ul)];rfl
 have e3:(((ad2 be):Int) !=((ad2 aC):Int))=ad8:=by simp;omega
 simp (disch:=omega) only [e1,e2,e3,ww,cj,ai];have MY:=Th aC be fr (by omega) a3;have key:=dZ (body:=uW be) (fun k=>(fr,((ad2 fr):Int),(k:Int),aC,be,fr,((ad2 aC):Int),marks be (fr.take k))) (ad2 fr)
  (fun k=>fr[k]!<0\/((ad2 aC):Int)<=fr[k]!\/(marks be (fr.take k))[(fr[k]!).toNat]! =ad6) (r:=8)
  (e:=if ad8∈marks be fr then 8 else if∀i,i<ad2 aC->0<=aC[i]!/\aC[i]!<=1000000/\(be[i]! =ad6->1<=aC[i]!) then 0 else 8) (fun k hk=>by
   have f1:ad9 ((k:Int)<((ad2 fr):Int))=ad6:=by simp;omega
   have f2:((marks be (fr.take k)).length==ad2 be)=ad6:=by rw [pN];simp
   have f3:ad9 ((0:Int)<=(k:Int))=ad6:=by simp
   have f4: ∀x:Int,((cA (marks be (fr.take k)) x ad6).length==(marks be (fr.take k)).length)=ad6:=by simp
   have f5:marks be (fr.take (k+1))=cA (marks be (fr.take k)) fr[k]! ad6:=by rw [dG hk,EZ]
   unfold uW;simp (disch:=omega) only [f1,f2,f3,f4,v6,beq_self_eq_true,ar fr k hk,ai,aM,f5];clear f5;generalize fr[k]! =x
   by_cases b1:x<0
   · simp [b1]
   · by_cases b2:((ad2 aC):Int)<=x
     · simp [b1,b2]
     simp
     grind [kN,pN,ai]) (by
   have f1:ad9 (((ad2 fr):Int)<((ad2 fr):Int))=ad8:=by simp
   unfold uW;simp;rw [KH _ (by rw [pN];omega)];have f2:((marks be fr).length==ad2 be)=ad6:=by rw [pN];simp
   grind)
 have h0:marks be (fr.take 0)=be:=rfl;rw [show ((0:Nat):Int)=0 from rfl,h0] at key
 by_cases bad: ∃k,k<ad2 fr/\(fr[k]!<0\/((ad2 aC):Int)<=fr[k]!\/(marks be (fr.take k))[(fr[k]!).toNat]! =ad6)
 · rw [key.1 bad,Do]
   intro ok;obtain ⟨k,hk,hb⟩:=bad;have hr:=ok.fr fr[k]! (aK hk);dsimp only at hr;rcases hb with hb|hb|hb
   · omega
   · omega
   rw [rL _ _ _ (fun x hx=>(ok.fr x (aaF hx)).1) (by omega)] at hb
   have hi:((fr[k]!).toNat:Int)=fr[k]!:=by omega
   rw [hi,Bool.or_eq_true] at hb;rcases hb with hb|hb
   · have:=(ok.uf (fr[k]!).toNat (by show _<ad2 aC;omega)).1 hb
     grind
   have hm:fr[k]!∈fr.take k:=by simpa using hb
   obtain ⟨j,h1,h2,h3⟩:=cE.1 hm;exact bI.1 ok.fd j k h1 hk h3
 have aad: ∀k,k<ad2 fr->0<=fr[k]!/\fr[k]!<ad2 aC/\(marks be (fr.take k))[(fr[k]!).toNat]! =ad8:=by
  grind
 rw [key.2 fun k hk hb=>bad ⟨k,hk,hb⟩];have UT: ∀x∈fr,0<=x/\x<((ad2 aC):Int):=by
  intro x hx;obtain ⟨k,hk,rfl⟩:=aS.1 hx
  grind
 have g2: ∀k,k<ad2 fr->be[(fr[k]!).toNat]! =ad8/\fr[k]!∉fr.take k:=by
  intro k hk;obtain ⟨c1,c2,c3⟩:=aad k hk;rw [rL _ _ _ (fun x hx=>(UT x (aaF hx)).1) (by omega),show ((fr[k]!).toNat:Int)=fr[k]! by omega,abu] at c3
  grind
 have nd:=bI.2 fun i j pX hj he=>(g2 j hj).2 (cE.2 ⟨i,pX,by omega,he⟩)
 by_cases hx:ad8∈marks be fr
 · rw [AC hx,Do]
   intro ok;obtain ⟨i,hi,he⟩:=aS.1 hx;rw [pN] at hi;rw [rL _ _ _ (fun x hx=>(UT x hx).1) hi,abu] at he;have h3:(i:Int)∉fr:=by simpa using he.2
   have:=(ok.uf i (by show _<ad2 aC;omega)).2 h3;rw [he.1] at this;cases this
 rw [Do hx]
 by_cases hu: ∀i,i<ad2 aC->0<=aC[i]!/\aC[i]!<=1000000/\(be[i]! =ad6->1<=aC[i]!)
 · rw [AC hu,AC]
   refine ⟨by show 1<=ad2 aC;omega,by show (ad2 aC)<=200;omega,a3,UT,nd,fun i hi=>?_,hu⟩;dsimp only at hi ⊢;constructor
   · intro h1 h2
     obtain ⟨k,hk,he⟩:=aS.1 h2;have:=(g2 k hk).1;rw [he,show ((i:Int)).toNat=i by omega,h1] at this;cases this
   intro h1
   refine NE fun h2=>hx ?_
   refine aS.2 ⟨i,by rw [pN];omega,?_⟩;rw [rL _ _ _ (fun x hx=>(UT x hx).1) (by omega)];have:be[i]! =ad8:=by simpa using h2
   rw [this];simpa using h1
 rw [Do hu,Do]
 intro ok;exact hu ok.us
theorem iq.fl {s:bD} (ok:iq s):(ad2 s.bi)<=(ad2 s.aC):=by
 have h:=Tg (ad2 s.aC) _ (by
  rw [bI];intro i j pX hj he;rw [aco] at hj;have e: ∀k,k<ad2 s.bi->(s.bi.map Int.toNat)[k]! =(s.bi[k]!).toNat:=by intro k hk;rw [getElem!_pos _ k (by simpa using hk),List.getElem_map,getElem!_pos s.bi k hk]
  rw [e i (by omega),e j hj] at he;have h1:=(ok.fr _ (aK (show i<(ad2 s.bi) by omega))).1;have h2:=(ok.fr _ (aK hj)).1;exact bI.1 ok.fd i j pX hj (by omega)) (by
  intro x hx;obtain ⟨y,hy,rfl⟩:=abb.1 hx;have:=ok.fr y hy;omega)
 grind
def zZ (s:bD) (h:Int×Int):Prop:=0<=h.1/\h.1<ad2 s.aC/\s.be[h.1.toNat]! =ad6/\s.aC[h.1.toNat]! =h.2
def qO (s:bD) (h:Int×Int):bD:=⟨s.aC,s.be.set h.1.toNat ad8,s.bi++[h.1]⟩
def nX (s:bD):Nat:=(s.bi[ad2 s.bi-1]!).toNat
def F8 (s:bD):Prop:=0<ad2 s.bi/\s.aC[nX s]!<1000000
def qP (s:bD):bD:=⟨s.aC.set (nX s) (s.aC[nX s]!+1),s.be.set (nX s) ad6,s.bi.take (ad2 s.bi-1)⟩
def wU (s:bD):Int×Int:=((nX s:Int),s.aC[nX s]!+1)
theorem Ih {s:bD} (ok:iq s) (h:Int×Int):CP s h=ad3 (ad9 (zZ s h),0):=by
 have hl:=ok.fl;have hn:=ok.n2;have hu:=ok.ul;unfold CP zZ;rw [zk s (by omega),AC ok];simp only [aF]
 by_cases a1:0<=h.1
 · by_cases a2:h.1<ad2 s.aC
   · have e2:ad9 (h.1<((ad2 s.be):Int))=ad6:=by simp;omega
     simp (disch:=omega) only [a1,a2,e2,kN,];generalize s.aC[h.1.toNat]! =u;cases s.be[h.1.toNat]!<;>simp [ac2]
   grind
 simp [a1]
theorem OA {s:bD} (ok:iq s) {h:Int×Int} (lv:zZ s h):Dx s h=ad3 (qO s h,0):=by have hl:=ok.fl;have hn:=ok.n2;have hu:=ok.ul;unfold Dx;rw [Ih ok,decide_eq_true lv];unfold vW;obtain ⟨l1,l2,l3,l4⟩:=lv;have e1:cA s.be h.1 ad8=s.be.set h.1.toNat ad8:=rfl;simp (disch:=omega) only [ai,show ((0:Int) !=0)=ad8 from rfl,ww,aa9,cj,bA (show (ad2 s.bi)+[h.1].length<=1048576 by simp;omega),kN,e1,qO]
theorem aae {s:bD} (ok:iq s) {h:Int×Int} (lv:zZ s h):iq (qO s h):=by
 have hu:=ok.ul;obtain ⟨l1,l2,l3,l4⟩:=lv;have nf:h.1∉s.bi:=by
  have:=(ok.uf h.1.toNat (by omega)).1 l3
  grind
 refine ⟨ok.n1,ok.n2,?_,?_,?_,?_,?_⟩
 · show (s.be.set _ _).length=_;rw [If];exact hu
 · intro x hx
   rcases abl.1 hx with hx|hx
   · exact ok.fr x hx
   rw [abz] at hx;subst hx;exact ⟨l1,l2⟩
 · show (s.bi++[h.1]).Nodup
   rw [List.nodup_append];refine ⟨ok.fd,by simp,?_⟩
   grind
 · intro i hi
   change i<(ad2 s.aC) at hi;show (s.be.set h.1.toNat ad8)[i]! =ad6↔(i:Int)∉s.bi++[h.1];rw [cf,abl,abz]
   by_cases e:i=h.1.toNat
   · grind
   rw [Do (fun k=>e k.1),ok.uf i hi]
   grind
 intro i hi
 obtain ⟨u1,u2,u3⟩:=ok.us i hi;refine ⟨u1,u2,?_⟩;show (s.be.set h.1.toNat ad8)[i]! =ad6->_;rw [cf];split
 · intro h;cases h
 exact u3
theorem I2 {s:bD} (ok:iq s) (h:0<ad2 s.bi):nX s<ad2 s.aC/\(nX s:Int)=s.bi[ad2 s.bi-1]!/\(nX s:Int)∈s.bi:=by
 have hm:=aK (l:=s.bi) (i:=ad2 s.bi-1) (by omega);have:=ok.fr _ hm;have e:(nX s:Int)=s.bi[ad2 s.bi-1]!:=by unfold nX;omega
 grind
theorem pO {α:Type} (l:List α) (n:Nat) (h:n<=ad2 l):gW l 0 (n:Int)=ad3 (l.take n):=by
 unfold gW
 grind
theorem F9 {s:bD} (ok:iq s):Dy s=ad3 (if F8 s then (qP s,wU s,0) else (⟨[],[],[]⟩,(0,0),18)):=by
 have hl:=ok.fl;have hn:=ok.n2;have hu:=ok.ul;unfold Dy F8;rw [zk s (by omega),AC ok];simp only [ai,show ((0:Int) !=0)=ad8 from rfl,]
 by_cases a1:0<ad2 s.bi
 · obtain ⟨n1,n2,n3⟩:=I2 ok a1
   have e1:(((ad2 s.bi):Int)==0)=ad8:=jm (by omega);have e2:aa .i64 _=((ad2 s.bi-1:Nat):Int):=u7 (by omega) (by omega);unfold xH;simp (disch:=omega) only [e1,aF,e2,pO,ai,cj (show (s.bi.take (ad2 s.bi-1)).length<=1048576 by rw [abE];omega),ar,<- n2,];obtain ⟨u1,u2,u3⟩:=ok.us _ n1
   by_cases a2:s.aC[nX s]! =1000000
   · have e3:(s.aC[nX s]! ==1000000)=ad6:=by simpa using a2
     rw [e3,Do (by omega)];rfl
   have e3:(s.aC[nX s]! ==1000000)=ad8:=by simpa using a2
   have e4:aa .i64 (s.aC[nX s]!+1)=s.aC[nX s]!+1:=by rw [wi];omega
   rw [e3,AC (by omega)];simp (disch:=omega) only [ww,cj,ai,ar,e4,eE,ar (s.aC.set (nX s) (s.aC[nX s]!+1)) _ (by rw [If];exact n1),cf,n1,and_self,if_true,qP,wU]
 grind
theorem aaf {s:bD} (ok:iq s) (h:F8 s):iq (qP s):=by
 have hn:=ok.n2;have hu:=ok.ul;obtain ⟨a1,a2⟩:=h;obtain ⟨n1,n2,n3⟩:=I2 ok a1;have mt: ∀x:Int,x∈s.bi.take (ad2 s.bi-1)↔(x∈s.bi/\x≠(nX s:Int)):=by
  intro x;rw [cE];constructor
  · rintro ⟨i,h1,h2,rfl⟩
    refine ⟨aK h2,?_⟩;rw [n2];exact bI.1 ok.fd i _ h1 (by omega)
  rintro ⟨h1,h2⟩
  obtain ⟨i,hi,rfl⟩:=aS.1 h1
  grind
 refine ⟨?_,?_,?_,?_,?_,?_,?_⟩
 · show 1<=(s.aC.set _ _).length;grind
 · show (s.aC.set _ _).length<=200;grind
 · show (s.be.set _ _).length=(s.aC.set _ _).length;grind
 · intro x hx
   show 0<=x/\x<((s.aC.set _ _).length:Int);rw [If];exact ok.fr x ((mt x).1 hx).1
 · exact ok.fd.sublist (List.take_sublist _ _)
 · intro i hi
   change i<(s.aC.set _ _).length at hi;rw [If] at hi;show (s.be.set _ ad6)[i]! =ad6↔(i:Int)∉s.bi.take _;rw [cf,mt]
   by_cases e:i=nX s
   · grind
   rw [Do (fun k=>e k.1),ok.uf i hi]
   grind
 intro i hi
 change i<(s.aC.set _ _).length at hi;rw [If] at hi;obtain ⟨u1,u2,u3⟩:=ok.us i hi;show 0<=(s.aC.set _ _)[i]!/\(s.aC.set _ _)[i]!<=1000000/\((s.be.set _ ad6)[i]! =ad6->1<=(s.aC.set _ _)[i]!)
 grind
abbrev Ev:=Int×Int×Int×Int×Int
abbrev Ev.at (x:Ev):Int×Int:=(x.1,x.2.1)
abbrev Ev.num (x:Ev):Int:=x.2.2.1
abbrev Ev.ix (x:Ev):Int:=x.2.2.2.1
abbrev Ev.n (x:Ev):Nat:=x.2.2.2.1.toNat
theorem as6 {x y:Ev} (h0:0<=x.ix) (h1:0<=y.ix) (h:x.ix≠y.ix):x.n≠y.n:=by
 grind
def less (x y:Ev):Prop:=gE (x.1,x.2.1) (y.1,y.2.1)<0\/(gE (x.1,x.2.1) (y.1,y.2.1)=0/\x.2.2.1<y.2.2.1)
theorem oy {a b:Int×Int}:gE a b<0↔a.1*b.2<b.1*a.2:=by unfold gE;rcases dM _ _ with ⟨h,e⟩|⟨h,e⟩|⟨h,e⟩<;>rw [e]<;>constructor<;>intro<;>omega
theorem UU {a b:Int×Int}:gE a b=0↔a.1*b.2=b.1*a.2:=by unfold gE;rcases dM _ _ with ⟨h,e⟩|⟨h,e⟩|⟨h,e⟩<;>rw [e]<;>constructor<;>intro<;>omega
theorem qQ {x y:Ev} (h:less x y): ¬less y x:=by
 unfold less at*
 grind [oy,UU]
theorem Ti {a1 a2 b1 b2 c1 c2:Int} (ha:1<=a2) (hb:1<=b2) (hc:1<=c2) (h1:a1*b2<=b1*a2) (h2:b1*c2<=c1*b2):a1*c2<=c1*a2:=by
 have e1:a1*b2*c2<=b1*a2*c2:=PP h1 (by omega);have e2:b1*c2*a2<=c1*b2*a2:=PP h2 (by omega);have e3:(a1*c2)*b2<=(c1*a2)*b2:=by
  grind
 exact Int.le_of_mul_le_mul_right e3 (by omega)
theorem qn {a1 a2 b1 b2 c1 c2:Int} (ha:1<=a2) (hb:1<=b2) (hc:1<=c2) (h1:a1*b2<b1*a2) (h2:b1*c2<=c1*b2):a1*c2<c1*a2:=by
 have e1:a1*b2*c2<b1*a2*c2:=abe h1 (by omega);have e2:b1*c2*a2<=c1*b2*a2:=PP h2 (by omega);have e3:(a1*c2)*b2<(c1*a2)*b2:=by
  grind
 exact abh e3 (by omega)
theorem KI {a1 a2 b1 b2 c1 c2:Int} (ha:1<=a2) (hb:1<=b2) (hc:1<=c2) (h1:a1*b2<=b1*a2) (h2:b1*c2<c1*b2):a1*c2<c1*a2:=by
 have e1:a1*b2*c2<=b1*a2*c2:=PP h1 (by omega);have e2:b1*c2*a2<c1*b2*a2:=abe h2 (by omega);have e3:(a1*c2)*b2<(c1*a2)*b2:=by
  grind
 exact abh e3 (by omega)
theorem z6 {x y z:Ev} (hx:1<=x.2.1) (hy:1<=y.2.1) (hz:1<=z.2.1) (h1: ¬less y x) (h2: ¬less z y): ¬less z x:=by unfold less at*;rw [oy,UU] at*;dsimp only at*;have t1:= @Ti x.1 x.2.1 y.1 y.2.1 z.1 z.2.1 hx hy hz;have t2:= @qn x.1 x.2.1 y.1 y.2.1 z.1 z.2.1 hx hy hz;have t3:= @KI x.1 x.2.1 y.1 y.2.1 z.1 z.2.1 hx hy hz;omega
structure F' (n:Nat) (x:Ev) (M:Ev->Prop) (H:List Ev) (W:List Int) (i:Nat):Prop where
 lt:i<n
 hn:n<=ad2 H
 ix: ∀w,w<n->w≠i->0<=(H[w]!).ix/\(H[w]!).ix<ad2 W/\W[(H[w]!).n]! =(w:Int)/\(H[w]!).ix≠x.ix
 x0:0<=x.ix
 x1:x.ix<ad2 W
 mem: ∀e,(∃w,w<n/\w≠i/\H[w]! =e)↔M e
theorem F'.move {n:Nat} {x:Ev} {M:Ev->Prop} {H:List Ev} {W:List Int} {i j:Nat} (h:F' n x M H W i) (hj:j<n) (pX:j≠i):F' n x M (H.set i H[j]!) (W.set (H[j]!).n (i:Int)) j:=by
 have hn:=h.hn;have hi:=h.lt;obtain ⟨j1,j2,j3,j4⟩:=h.ix j hj pX;have cell: ∀w,(H.set i H[j]!)[w]! =if w=i then H[j]! else H[w]!:=by
  grind
 refine ⟨hj,by grind,?_,h.x0,by rw [If];exact h.x1,?_⟩
 · intro w hw hwj
   rw [cell,If]
   by_cases e:w=i
   · grind
   rw [Do e,cf]
   obtain ⟨k1,k2,k3,k4⟩:=h.ix w hw e
   grind
 intro e
 rw [<- h.mem e];constructor
 · grind
 rintro ⟨w,hw,WM,he⟩
 by_cases c:w=j
 · refine ⟨i,hi,fun h=>pX h.symm,?_⟩
   rw [cell,AC rfl,<- c];exact he
 grind
theorem F'.fill {n:Nat} {x:Ev} {M:Ev->Prop} {H:List Ev} {W:List Int} {i:Nat} (h:F' n x M H W i):
 (∀w,w<n->0<=((H.set i x)[w]!).ix/\((H.set i x)[w]!).ix<ad2 W/\(W.set x.n (i:Int))[((H.set i x)[w]!).n]! =(w:Int))/\
  (∀e,(∃w,w<n/\(H.set i x)[w]! =e)↔(e=x\/M e)):=by
 have hn:=h.hn;have hi:=h.lt;have x0:=h.x0;have x1:=h.x1;have cell: ∀w,(H.set i x)[w]! =if w=i then x else H[w]!:=by
  grind
 constructor
 · intro w hw
   rw [cell]
   by_cases e:w=i
   · grind
   rw [Do e,cf]
   obtain ⟨k1,k2,k3,k4⟩:=h.ix w hw e
   grind
 intro e
 rw [<- h.mem e];constructor
 · grind
 rintro (he|⟨w,hw,WM,he⟩)
 · exact ⟨i,hi,by rw [cell,AC rfl,he]⟩
 grind
noncomputable def Tj (x:Ev):Nat->List Ev->List Int->Nat×List Ev×List Int
 |0,H,W=>(0,H,W)
 |i+1,H,W=>if less x H[i / 2]! then Tj x (i / 2) (H.set (i+1) H[i / 2]!) (W.set (H[i / 2]!).n ((i+1:Nat):Int)) else (i+1,H,W)
termination_by i=>i
decreasing_by omega
noncomputable def vK (n:Nat) (H:List Ev) (i:Nat):Nat:=if 2*i+2<n/\less H[2*i+2]! H[2*i+1]! then 2*i+2 else 2*i+1
theorem DD (n:Nat) (H:List Ev) (i:Nat):vK n H i=2*i+1\/(vK n H i=2*i+2/\2*i+2<n):=by unfold vK;grind
noncomputable def pU (n:Nat) (x:Ev) (i:Nat) (H:List Ev) (W:List Int):Nat×List Ev×List Int:=
 if _h:2*i+1<n then
  if less H[vK n H i]! x then pU n x (vK n H i) (H.set i H[vK n H i]!) (W.set (H[vK n H i]!).n (i:Int)) else (i,H,W)
 else (i,H,W)
termination_by n-i
decreasing_by
 rcases DD n H i with h|h<;>omega
structure Ord (n:Nat) (H:List Ev) (i:Nat):Prop where
 den: ∀w,w<n->1<=(H[w]!).2.1
 ord: ∀k,0<k->k<n->k≠i->(k-1) / 2≠i-> ¬less H[k]! H[(k-1) / 2]!
 QW:0<i-> ∀k,0<k->k<n->(k-1) / 2=i-> ¬less H[k]! H[(i-1) / 2]!
theorem UW {n : Nat} {x : Ev} {M : Ev -> Prop} (dx : 1 <= x.2.1) : ∀ (i : Nat) (H : List Ev) (W : List Int), F' n x M H W i -> Ord n H i ->
    ∃ j H1 W1, Tj x i H W = (j, H1, W1) /\ F' n x M H1 W1 j /\ Ord n H1 j /\ (ad2 H1) = (ad2 H) /\ (ad2 W1) = (ad2 W) /\ (0 < j -> ¬ less x H1[(j - 1) / 2]!) /\
      (∀ k, n <= k -> H1[k]! = H[k]!) /\ (∀ k, (∀ w, w < n -> w ≠ i -> (H[w]!).n ≠ k) -> W1[k]! = W[k]!) /\
      ((∀ k, 0 < k -> k < n -> (k - 1) / 2 = i -> ¬ less H[k]! x) -> ∀ k, 0 < k -> k < n -> (k - 1) / 2 = j -> ¬ less H1[k]! x)
  | 0, H, W, h, o => ⟨0, H, W, by rw [Tj], h, o, rfl, rfl, fun h => by omega, fun _ _ => rfl, fun _ _ => rfl, fun h => h⟩
  | i + 1, H, W, h, o => by
    rw [Tj]
    by_cases hl : less x H[i / 2]!
    · rw [AC hl]
      have hi := h.lt
      have hn := h.hn
      have hp : i / 2 < n := by omega
      have fy : i / 2 ≠ i + 1 := by omega
      have hm := h.move hp fy
      have cell : ∀ w, (H.set (i + 1) H[i / 2]!)[w]! = if w = i + 1 then H[i / 2]! else H[w]! := by
        intro w
        rw [cf]
        by_cases e : w = i + 1
        · rw [AC ⟨e, by omega⟩, AC e]
        rw [Do (fun k => e k.1), Do e]
      have o' : Ord n (H.set (i + 1) H[i / 2]!) (i / 2) := by
        refine ⟨?_, ?_, ?_⟩
        · intro w hw
          rw [cell]
          split
          · exact o.den _ hp
          exact o.den _ hw
        · intro k k0 kn k1 k2
          rw [cell, cell]
          by_cases e : k = i + 1
          · subst e; exact absurd (by omega) k2
          rw [Do e]
          by_cases e2 : (k - 1) / 2 = i + 1
          · rw [AC e2]
            have := o.QW (by omega) k k0 kn e2
            rwa [show (i + 1 - 1) / 2 = i / 2 by omega] at this
          rw [Do e2]
          exact o.ord k k0 kn e e2
        intro p0 k k0 kn k1
        rw [cell, cell, Do (show (i / 2 - 1) / 2 ≠ i + 1 by omega)]
        have up1 := o.ord (i / 2) p0 hp fy (by omega)
        by_cases e : k = i + 1
        · rw [AC e]; exact up1
        rw [Do e]
        have up2 : ¬ less H[k]! H[i / 2]! := by
          have := o.ord k k0 kn e (by omega)
          rwa [k1] at this
        exact z6 (o.den _ (by omega)) (o.den _ hp) (o.den _ kn) up1 up2
      obtain ⟨j, H1, W1, e1, e3, e4, e5, e6, e7, e8, e9, e10⟩ := UW dx (i / 2) _ _ hm o'
      rw [If] at e5 e6
      refine ⟨j, H1, W1, e1, e3, e4, e5, e6, e7, ?_, ?_, ?_⟩
      · intro k hk
        rw [e8 k hk, cell, Do (by omega)]
      · intro k hk
        rw [e9 k ?_, cf, Do (fun c => hk (i / 2) hp fy c.1.symm)]
        intro w hw RZ
        rw [cell]
        split
        · exact hk (i / 2) hp fy
        rename_i e; exact hk w hw e
      intro _
      refine e10 fun k k0 kn k1 => ?_
      rw [cell]
      by_cases e : k = i + 1
      · rw [AC e]; exact qQ hl
      rw [Do e]
      have up2 : ¬ less H[k]! H[i / 2]! := by
        have := o.ord k k0 kn e (by omega)
        rwa [k1] at this
      exact z6 dx (o.den _ hp) (o.den _ kn) (qQ hl) up2
    grind
termination_by i=>i
decreasing_by omega
theorem MZ {n : Nat} {x : Ev} {M : Ev -> Prop} (dx : 1 <= x.2.1) : ∀ (d i : Nat) (H : List Ev) (W : List Int), n - i <= d -> F' n x M H W i -> Ord n H i -> (0 < i -> ¬ less x H[(i - 1) / 2]!) ->
    ∃ j H1 W1, pU n x i H W = (j, H1, W1) /\ F' n x M H1 W1 j /\ Ord n H1 j /\ (ad2 H1) = (ad2 H) /\ (ad2 W1) = (ad2 W) /\ (0 < j -> ¬ less x H1[(j - 1) / 2]!) /\
      (∀ k, n <= k -> H1[k]! = H[k]!) /\ (∀ k, (∀ w, w < n -> w ≠ i -> (H[w]!).n ≠ k) -> W1[k]! = W[k]!) /\ (∀ k, 0 < k -> k < n -> (k - 1) / 2 = j -> ¬ less H1[k]! x)
  | 0, i, H, W, hd, h, o, u => by have := h.lt; omega
  | d + 1, i, H, W, hd, h, o, u => by
    have hn := h.hn
    rw [pU]
    by_cases hk : 2 * i + 1 < n
    · rw [dif_pos hk]
      have kc := DD n H i
      have kn : vK n H i < n := by omega
      have kne : vK n H i ≠ i := by omega
      have kp : (vK n H i - 1) / 2 = i := by omega
      have kb : ∀ k, 0 < k -> k < n -> (k - 1) / 2 = i -> ¬ less H[k]! H[vK n H i]! := by
        intro k k0 k1 k2
        have kk : k = 2 * i + 1 \/ k = 2 * i + 2 := by omega
        unfold vK
        split
        · rename_i hc
          rcases kk with e | e
          · rw [e]; exact qQ hc.2
          rw [e]; exact fun h => qQ h h
        rename_i hc
        rcases kk with e | e
        · rw [e]; exact fun h => qQ h h
        rw [e] at k1 ⊢; exact fun h => hc ⟨k1, h⟩
      by_cases hl : less H[vK n H i]! x
      · rw [AC hl]
        have hm := h.move kn kne
        have cell : ∀ w, (H.set i H[vK n H i]!)[w]! = if w = i then H[vK n H i]! else H[w]! := by
          intro w
          rw [cf]
          by_cases e : w = i
          · rw [AC ⟨e, by omega⟩, AC e]
          rw [Do (fun k => e k.1), Do e]
        have o' : Ord n (H.set i H[vK n H i]!) (vK n H i) := by
          refine ⟨?_, ?_, ?_⟩
          · intro w hw
            rw [cell]
            split
            · exact o.den _ kn
            exact o.den _ hw
          · intro k k0 k1 k2 k3
            rw [cell, cell]
            by_cases e : k = i
            · rw [AC e, Do (by omega)]
              have := o.QW (by omega) (vK n H i) (by omega) kn kp
              rwa [e]
            rw [Do e]
            by_cases e2 : (k - 1) / 2 = i
            · rw [AC e2]; exact kb k k0 k1 e2
            rw [Do e2]; exact o.ord k k0 k1 e e2
          intro _ k k0 k1 k2
          rw [cell, cell, AC kp, Do (by omega)]
          have := o.ord k k0 k1 (by omega) (by omega)
          rwa [k2] at this
        obtain ⟨j, H1, W1, e1, e3, e4, e5, e6, e7, e8, e9, e10⟩ := MZ dx d (vK n H i) _ _ (by omega) hm o' (by
          intro _
          rw [cell, AC kp]
          exact qQ hl)
        rw [If] at e5 e6
        refine ⟨j, H1, W1, e1, e3, e4, e5, e6, e7, ?_, ?_, e10⟩
        · intro k hk
          rw [e8 k hk, cell, Do (by omega)]
        intro k hk
        rw [e9 k ?_, cf, Do (fun c => hk (vK n H i) kn kne c.1.symm)]
        intro w hw RZ
        rw [cell]
        split
        · exact hk (vK n H i) kn kne
        rename_i e; exact hk w hw e
      rw [Do hl]
      refine ⟨i, H, W, rfl, h, o, rfl, rfl, u, fun _ _ => rfl, fun _ _ => rfl, ?_⟩
      intro k k0 k1 k2
      exact z6 dx (o.den _ kn) (o.den _ k1) hl (kb k k0 k1 k2)
    grind
structure DE (n:Nat) (x:Ev) (M:Ev->Prop) (K:Nat->Prop) (H:List Ev) (W:List Int) (H1:List Ev) (W1:List Int):Prop where
 hl:(ad2 H1)=ad2 H
 wl:(ad2 W1)=ad2 W
 ix: ∀w,w<n->0<=(H1[w]!).ix/\(H1[w]!).ix<ad2 W/\W1[(H1[w]!).n]! =(w:Int)
 mem: ∀e,(∃w,w<n/\H1[w]! =e)↔(e=x\/M e)
 ord: ∀k,0<k->k<n-> ¬less H1[k]! H1[(k-1) / 2]!
 out: ∀k,K k->W1[k]! =W[k]!
theorem OB {n:Nat} {x:Ev} {M:Ev->Prop} {H H1:List Ev} {W W1:List Int} {i j:Nat} (h1:F' n x M H1 W1 j) (o1:Ord n H1 j) (hl:(ad2 H1)=ad2 H) (wl:(ad2 W1)=ad2 W)
 (u:0<j-> ¬less x H1[(j-1) / 2]!) (kd: ∀k,0<k->k<n->(k-1) / 2=j-> ¬less H1[k]! x) (out: ∀k,(∀w,w<n->w≠i->(H[w]!).n≠k)->W1[k]! =W[k]!):
 DE n x M (fun k=>k≠x.n/\ ∀w,w<n->w≠i->(H[w]!).n≠k) H W (H1.set j x) (W1.set x.n (j:Int)):=by
 have hn:=h1.hn;have hj:=h1.lt;have f:=h1.fill;have cell: ∀w,(H1.set j x)[w]! =if w=j then x else H1[w]!:=by
  intro w;rw [cf]
  by_cases e:w=j
  · rw [AC ⟨e,by omega⟩,AC e]
  grind
 refine ⟨by grind,by grind,?_,f.2,?_,?_⟩
 · grind
 · intro k k0 kn
   rw [cell,cell]
   by_cases e:k=j
   · rw [AC e,Do (by omega),e];exact u (by omega)
   rw [Do e]
   by_cases e2:(k-1) / 2=j
   · rw [AC e2];exact kd k k0 kn e2
   rw [Do e2];exact o1.ord k k0 kn e e2
 rintro k ⟨k1,k2⟩
 rw [cf,Do (fun c=>k1 c.1)];exact out k k2
noncomputable def ir (n:Nat) (x:Ev) (i:Nat) (H:List Ev) (W:List Int):List Ev×List Int:=
 let u:=Tj x i H W
 let d:=pU n x u.1 u.2.1 u.2.2
 (d.2.1.set d.1 x,d.2.2.set x.n (d.1:Int))
theorem CS {n:Nat} {x:Ev} {M:Ev->Prop} (dx:1<=x.2.1) {i:Nat} {H:List Ev} {W:List Int} (h:F' n x M H W i) (o:Ord n H i):
 DE n x M (fun k=>k≠x.n/\ ∀w,w<n->w≠i->(H[w]!).n≠k) H W (ir n x i H W).1 (ir n x i H W).2:=by
 obtain ⟨j,H1,W1,e1,e3,e4,e5,e6,e7,e8,e9,e10⟩:=UW dx i H W h o;obtain ⟨k,H2,W2,f1,f3,f4,f5,f6,f7,f8,f9,f10⟩:=MZ dx n j H1 W1 (by omega) e3 e4 e7;have e:ir n x i H W=(H2.set k x,W2.set x.n (k:Int)):=by unfold ir;rw [e1];dsimp only;rw [f1]
 rw [e];refine OB f3 f4 (by omega) (by omega) f7 f10 ?_;intro c hc;rw [f9 c ?_,e9 c hc];intro w hw hwj hcw;have hm:=(e3.mem _).1 ⟨w,hw,hwj,rfl⟩;obtain ⟨v,v1,v2,v3⟩:=(h.mem _).2 hm
 grind
def Bf (x:Ev):Prop:=bu (x.1,x.2.1)/\jb (x.1,x.2.1)/\0<=x.2.2.1/\x.2.2.1<=1000000
theorem Bf.den {x:Ev} (h:Bf x):1<=x.2.1:=h.1.1
noncomputable def QX (x y:Ev):Int:=if gE (x.1,x.2.1) (y.1,y.2.1)≠0 then gE (x.1,x.2.1) (y.1,y.2.1) else mj x.2.2.1 y.2.2.1
theorem Ga (x y:Ev):QX x y<0↔less x y:=by
 unfold QX less
 by_cases h:gE (x.1,x.2.1) (y.1,y.2.1)=0
 · rw [Do (by simpa using h),h]
   rcases dM x.2.2.1 y.2.2.1 with ⟨h1,e⟩|⟨h1,e⟩|⟨h1,e⟩<;>rw [e]<;>constructor<;>intro<;>omega
 omega
theorem eu {x y:Ev} (hx:Bf x) (hy:Bf y):cK x y=ad3 (QX x y):=by unfold cK QX;rw [vX hx.2.1 hy.2.1,AC ⟨hx.1,hy.1⟩];simp [mX,DC]
theorem Hn {x y:Ev}:ad9 (QX x y<0)=ad9 (less x y):=by simp [Ga]
theorem OC {x y:Ev}:ad9 (0<=QX x y)=!ad9 (less x y):=by
 have:=Ga x y
 grind
structure yK (n:Nat) (H:List Ev) (W:List Int):Prop where
 hn:n<=ad2 H
 hb:(ad2 H)<=1000000
 ev: ∀w,w<n->Bf H[w]!/\0<=(H[w]!).ix/\(H[w]!).ix<ad2 W
theorem yK.move {n:Nat} {H:List Ev} {W:List Int} (c:yK n H W) {i j:Nat} (_hi:i<n) (hj:j<n) (k:Nat) (v:Int):yK n (H.set i H[j]!) (W.set k v):=by
 have hn:=c.hn;refine ⟨by grind,by rw [If];exact c.hb,?_⟩;intro w hw;rw [cf,If];split
 · exact c.ev j hj
 exact c.ev w hw
theorem I3 {H:List Ev} {W:List Int} {x:Ev} {u fr:List Int} {us:List Bool} {i:Nat} (hi:i<ad2 H) (h0:0<=x.ix) (h1:x.ix<ad2 W):
 cz (u,us,fr,(i:Int),x.1,x.2.1,x.2.2.1,x.2.2.2.1,x.2.2.2.2,H,W)=ad3 (H.set i x,W.set x.n (i:Int)):=by
 unfold cz;have e1:=ar H i hi;have e2:=kN h0 h1;simp only [e1,e2,FF,beq_self_eq_true,];rfl
theorem I4 {n cap:Nat} {H:List Ev} {W:List Int} {x:Ev} {u fr:List Int} {us:List Bool} {i:Nat} (hi:i<n) (hn:n<=ad2 H) (h0:0<=x.ix) (h1:x.ix<ad2 W):
 cy (u,us,fr,n,cap,(i:Int),x.1,x.2.1,x.2.2.1,x.2.2.2.1,x.2.2.2.2,H,W)=ad3 (H.set i x,W.set x.n (i:Int)):=by
 unfold cy;have e1:=ar (H.take n) i (by grind);have e2:=kN h0 h1;simp only [e1,e2,FF,beq_self_eq_true,];rfl
theorem Ho {i:Nat} (h:i<1000000000):aa .i64 (abn (aa .i64 (((i+1:Nat):Int) -1)) 2)=((i / 2:Nat):Int):=by
 grind [wi,abg]
theorem Hq {i:Nat} (h:i<1000000000):aa .i64 ((aa .i64 (2*(i:Int)))+1)=((2*i+1:Nat):Int):=by
 grind [wi]
theorem Tk {c0:List Int×List Bool×List Int×Int×Int×Int×Int×Int×Int×List Ev×List Int} {n i:Nat} {H:List Ev} {W:List Int} {u fr:List Int} {us:List Bool} {x:Ev}
 (c:yK n H W) (hn:(ad2 H)=n) (hi:i<n) (hx:Bf x) (x0:0<=x.ix) (x1:x.ix<ad2 W) (l1:(ad2 c0.2.2.2.2.2.2.2.2.2.1)=n) (l2:(ad2 c0.2.2.2.2.2.2.2.2.2.2)=ad2 W):
 hJ c0 ((i:Int),((2*i+1:Nat):Int),H,W,u,us,fr,x)=
  ad3 (if 2*i+1<n/\less H[vK n H i]! x then .next (((vK n H i:Nat):Int),((2*vK n H i+1:Nat):Int),H.set i H[vK n H i]!,W.set (H[vK n H i]!).n (i:Int),u,us,fr,x)
   else .done (.done (H.set i x,W.set x.n (i:Int)))):=by
 have hb:=c.hb;have fin:(cz (u,us,fr,(i:Int),x.1,x.2.1,x.2.2.1,x.2.2.2.1,x.2.2.2.2,H,W))=ad3 (H.set i x,W.set x.n (i:Int)):=I3 (by omega) x0 x1;have ln1:(H.set i x).length=(ad2 c0.2.2.2.2.2.2.2.2.2.1):=by rw [If];omega
 have ln2:(W.set x.n (i:Int)).length=(ad2 c0.2.2.2.2.2.2.2.2.2.2):=by rw [If];omega
 unfold hJ;simp only [aF,hn,fin,ai,ln1,ln2,beq_self_eq_true,]
 by_cases h1:2*i+1<n
 · have e1:ad9 (((2*i+1:Nat):Int)<(n:Int))=ad6:=by simp;omega
   have e2:aa .i64 (((2*i+1:Nat):Int)+1)=((2*i+2:Nat):Int):=aM (by omega);obtain ⟨Gb,a1,a2⟩:=c.ev (2*i+1) h1;have g1:=ar H (2*i+1) (by omega);have s1:(cz (u,us,fr,(i:Int),(H[2*i+1]!).1,(H[2*i+1]!).2.1,(H[2*i+1]!).2.2.1,(H[2*i+1]!).2.2.2.1,(H[2*i+1]!).2.2.2.2,H,W))=ad3 (H.set i H[2*i+1]!,W.set (H[2*i+1]!).n (i:Int)):=I3 (by omega) a1 a2;simp (disch:=omega) only [e1,e2,v6,g1,ai,s1,eu Gb hx,OC,Hq]
   by_cases h2:2*i+2<n
   · have e3:ad9 (((2*i+2:Nat):Int)<(n:Int))=ad6:=by simp;omega
     obtain ⟨ok2,b1,b2⟩:=c.ev (2*i+2) h2;have g2:=ar H (2*i+2) (by omega);have s2:(cz (u,us,fr,(i:Int),(H[2*i+2]!).1,(H[2*i+2]!).2.1,(H[2*i+2]!).2.2.1,(H[2*i+2]!).2.2.2.1,(H[2*i+2]!).2.2.2.2,H,W))=ad3 (H.set i H[2*i+2]!,W.set (H[2*i+2]!).n (i:Int)):=I3 (by omega) b1 b2;simp (disch:=omega) only [e3,v6,g2,ai,s2,eu ok2 hx,eu ok2 Gb,Hn,OC,]
     by_cases h3:less H[2*i+2]! H[2*i+1]!
     · have k:vK n H i=2*i+2:=by unfold vK;rw [AC ⟨h2,h3⟩]
       rw [k]
       by_cases h4:less H[2*i+2]! x
       · simp only [h1,h3,h4,decide_true,v6,ww,aa9,and_self,if_true]
       simp only [h3,h4,decide_true,decide_false,v6,ab1,and_false,if_false]
     have k:vK n H i=2*i+1:=by unfold vK;rw [Do (fun h=>h3 h.2)]
     rw [k]
     by_cases h4:less H[2*i+1]! x
     · simp only [h1,h3,h4,decide_true,decide_false,ww,aa9,and_self,if_true]
     simp only [h3,h4,decide_false,v6,ww,ab1,and_false,if_false]
   have e3:ad9 (((2*i+2:Nat):Int)<(n:Int))=ad8:=by simp;omega
   have k:vK n H i=2*i+1:=by unfold vK;rw [Do (fun h=>h2 h.1)]
   rw [k];simp only [e3,ww]
   by_cases h4:less H[2*i+1]! x
   · simp only [h1,h4,decide_true,ww,aa9,and_self,if_true]
   simp only [h1,h4,decide_false,v6,ab1,and_false,if_false]
 grind
theorem Bg {c0 : List Int × List Bool × List Int × Int × Int × Int × Int × Int × Int × List Ev × List Int} {n : Nat} {u fr : List Int} {us : List Bool} {x : Ev} (hx : Bf x) (x0 : 0 <= x.ix) (l1 : (ad2 c0.2.2.2.2.2.2.2.2.2.1) = n) :
    ∀ (d i : Nat) (H : List Ev) (W : List Int), n - i <= d -> yK n H W -> (ad2 H) = n -> i < n -> x.ix < (ad2 W) -> (ad2 c0.2.2.2.2.2.2.2.2.2.2) = (ad2 W) ->
      aq (hJ c0) ((i : Int), ((2 * i + 1 : Nat) : Int), H, W, u, us, fr, x) = ad3 (.done ((pU n x i H W).2.1.set (pU n x i H W).1 x, (pU n x i H W).2.2.set x.n ((pU n x i H W).1 : Int)))
  | 0, i, H, W, hd, c, hn, hi, x1, l2 => by omega
  | d + 1, i, H, W, hd, c, hn, hi, x1, l2 => by
    have r := Tk (u := u) (us := us) (fr := fr) c hn hi hx x0 x1 l1 l2
    by_cases h : 2 * i + 1 < n /\ less H[vK n H i]! x
    · rw [AC h] at r
      have kc := DD n H i
      have kn : vK n H i < n := by omega
      rw [aJ r, Bg hx x0 l1 d _ _ _ (by omega) (c.move hi kn _ _) (by grind) kn (by grind) (by grind)]
      have e : pU n x i H W = pU n x (vK n H i) (H.set i H[vK n H i]!) (W.set (H[vK n H i]!).n (i : Int)) := by
        rw [pU, dif_pos h.1, AC h.2]
      rw [e]
    rw [Do h] at r
    rw [au r]
    have e : pU n x i H W = (i, H, W) := by
      rw [pU]
      grind
    rw [e]
theorem KJ {c0 : List Int × List Bool × List Int × Int × Int × Int × Int × Int × Int × List Ev × List Int} {n : Nat} {u fr : List Int} {us : List Bool} {x : Ev} (hx : Bf x) (x0 : 0 <= x.ix) (l1 : (ad2 c0.2.2.2.2.2.2.2.2.2.1) = n) :
    ∀ (i : Nat) (H : List Ev) (W : List Int), yK n H W -> (ad2 H) = n -> i < n -> x.ix < (ad2 W) -> (ad2 c0.2.2.2.2.2.2.2.2.2.2) = (ad2 W) ->
      aq (fC c0) ((i : Int), H, W, u, us, fr, x) = ad3 (ir n x i H W)
  | 0, H, W, c, hn, hi, x1, l2 => by
    have dn := Bg (u := u) (us := us) (fr := fr) hx x0 l1 n 0 H W (by omega) c hn hi x1 l2
    refine (au ?_)
    unfold fC
    have e1 : ad9 ((0 : Int) < ((0 : Nat) : Int)) = ad8 := by simp
    simp (disch := omega) only [e1, ww, Hq]
    rw [dn]
    unfold ir
    rw [Tj]
  | i + 1, H, W, c, hn, hi, x1, l2 => by
    have hb := c.hb
    have e1 : ad9 ((0 : Int) < ((i + 1 : Nat) : Int)) = ad6 := decide_eq_true (by omega)
    have hp : i / 2 < n := by omega
    obtain ⟨Gb, a1, a2⟩ := c.ev _ hp
    have g1 := ar H (i / 2) (by omega)
    have s1 : (cz (u, us, fr, ((i + 1 : Nat) : Int), (H[i / 2]!).1, (H[i / 2]!).2.1, (H[i / 2]!).2.2.1, (H[i / 2]!).2.2.2.1, (H[i / 2]!).2.2.2.2, H, W)) = ad3 _ := I3 (by omega) a1 a2
    by_cases h : less x H[i / 2]!
    · have r : fC c0 (((i + 1 : Nat) : Int), H, W, u, us, fr, x) = ad3 (.next (((i / 2 : Nat) : Int), H.set (i + 1) H[i / 2]!, W.set (H[i / 2]!).n ((i + 1 : Nat) : Int), u, us, fr, x)) := by
        unfold fC
        simp (disch := omega) only [e1, v6, Ho, g1, ai, eu hx Gb, Hn, h, decide_true, s1]
      rw [aJ r, KJ hx x0 l1 _ _ _ (c.move hi hp _ _) (by grind) hp (by grind) (by grind)]
      have e : Tj x (i + 1) H W = Tj x (i / 2) (H.set (i + 1) H[i / 2]!) (W.set (H[i / 2]!).n ((i + 1 : Nat) : Int)) := by
        rw [Tj, AC h]
      unfold ir
      rw [e]
    have dn := Bg (u := u) (us := us) (fr := fr) hx x0 l1 n (i + 1) H W (by omega) c hn hi x1 l2
    refine (au ?_)
    unfold fC
    simp (disch := omega) only [e1, v6, Ho, g1, ai, eu hx Gb, Hn, h, decide_false, ww, Hq]
    rw [dn]
    unfold ir
    rw [Tj, Do h]
termination_by i=>i
decreasing_by omega
theorem KK {n:Nat} {u fr:List Int} {us:List Bool} {x:Ev} (hx:Bf x) (x0:0<=x.ix) {i:Nat} {H:List Ev} {W:List Int} (c:yK n H W) (hn:(ad2 H)=n) (hi:i<n) (x1:x.ix<ad2 W):
 fK (u,us,fr,(i:Int),x.1,x.2.1,x.2.2.1,x.2.2.2.1,x.2.2.2.2,H,W)=ad3 (ir n x i H W):=by
 unfold fK
 grind [KJ]
theorem wZ {l:List Ev} {n i:Nat} (h:i<n) (hn:n<=ad2 l):aD (l.take n) (i:Int)=ad3 l[i]!:=by
 grind [ar,abE,w8]
theorem Tl {c0:List Int×List Bool×List Int×Nat×Nat×Int×Int×Int×Int×Int×Int×List Ev×List Int} {n cap i:Nat} {H:List Ev} {W:List Int} {u fr:List Int} {us:List Bool} {x:Ev}
 (c:yK n H W) (hi:i<n) (hx:Bf x) (x0:0<=x.ix) (x1:x.ix<ad2 W) (l1:(ad2 c0.2.2.2.2.2.2.2.2.2.2.2.1)=ad2 H) (l2:(ad2 c0.2.2.2.2.2.2.2.2.2.2.2.2)=ad2 W):
 gZ c0 ((i:Int),((2*i+1:Nat):Int),H,W,u,us,fr,n,cap,x)=
  ad3 (if 2*i+1<n/\less H[vK n H i]! x then .next (((vK n H i:Nat):Int),((2*vK n H i+1:Nat):Int),H.set i H[vK n H i]!,W.set (H[vK n H i]!).n (i:Int),u,us,fr,n,cap,x)
   else .done (.done (H.set i x,W.set x.n (i:Int)))):=by
 have hb:=c.hb;have hnn:=c.hn;have fin:(cy (u,us,fr,n,cap,(i:Int),x.1,x.2.1,x.2.2.1,x.2.2.2.1,x.2.2.2.2,H,W))=ad3 (H.set i x,W.set x.n (i:Int)):=I4 (by omega) c.hn x0 x1;have ln1:(H.set i x).length=(ad2 c0.2.2.2.2.2.2.2.2.2.2.2.1):=by rw [If];omega
 have ln2:(W.set x.n (i:Int)).length=(ad2 c0.2.2.2.2.2.2.2.2.2.2.2.2):=by rw [If];omega
 unfold gZ;simp only [aF,fin,ai,ln1,ln2,beq_self_eq_true,]
 by_cases h1:2*i+1<n
 · have e1:ad9 (((2*i+1:Nat):Int)<(n:Int))=ad6:=by simp;omega
   have e2:aa .i64 (((2*i+1:Nat):Int)+1)=((2*i+2:Nat):Int):=aM (by omega);obtain ⟨Gb,a1,a2⟩:=c.ev (2*i+1) h1;have g1:=wZ (by omega) c.hn;have s1:(cy (u,us,fr,n,cap,(i:Int),(H[2*i+1]!).1,(H[2*i+1]!).2.1,(H[2*i+1]!).2.2.1,(H[2*i+1]!).2.2.2.1,(H[2*i+1]!).2.2.2.2,H,W))=ad3 (H.set i H[2*i+1]!,W.set (H[2*i+1]!).n (i:Int)):=I4 (by omega) c.hn a1 a2;simp (disch:=omega) only [e1,e2,v6,g1,ai,s1,eu Gb hx,OC,Hq]
   by_cases h2:2*i+2<n
   · have e3:ad9 (((2*i+2:Nat):Int)<(n:Int))=ad6:=by simp;omega
     obtain ⟨ok2,b1,b2⟩:=c.ev (2*i+2) h2;have g2:=wZ (by omega) c.hn;have s2:(cy (u,us,fr,n,cap,(i:Int),(H[2*i+2]!).1,(H[2*i+2]!).2.1,(H[2*i+2]!).2.2.1,(H[2*i+2]!).2.2.2.1,(H[2*i+2]!).2.2.2.2,H,W))=ad3 (H.set i H[2*i+2]!,W.set (H[2*i+2]!).n (i:Int)):=I4 (by omega) c.hn b1 b2;simp (disch:=omega) only [e3,v6,g2,ai,s2,eu ok2 hx,eu ok2 Gb,Hn,OC,]
     by_cases h3:less H[2*i+2]! H[2*i+1]!
     · have k:vK n H i=2*i+2:=by unfold vK;rw [AC ⟨h2,h3⟩]
       rw [k]
       by_cases h4:less H[2*i+2]! x
       · simp only [h1,h3,h4,decide_true,v6,ww,aa9,and_self,if_true]
       simp only [h3,h4,decide_true,decide_false,v6,ab1,and_false,if_false]
     have k:vK n H i=2*i+1:=by unfold vK;rw [Do (fun h=>h3 h.2)]
     rw [k]
     by_cases h4:less H[2*i+1]! x
     · simp only [h1,h3,h4,decide_true,decide_false,ww,aa9,and_self,if_true]
     simp only [h3,h4,decide_false,v6,ww,ab1,and_false,if_false]
   have e3:ad9 (((2*i+2:Nat):Int)<(n:Int))=ad8:=by simp;omega
   have k:vK n H i=2*i+1:=by unfold vK;rw [Do (fun h=>h2 h.1)]
   rw [k];simp only [e3,ww]
   by_cases h4:less H[2*i+1]! x
   · simp only [h1,h4,decide_true,ww,aa9,and_self,if_true]
   simp only [h1,h4,decide_false,v6,ab1,and_false,if_false]
 grind
theorem Bh {c0 : List Int × List Bool × List Int × Nat × Nat × Int × Int × Int × Int × Int × Int × List Ev × List Int} {n cap : Nat} {u fr : List Int} {us : List Bool} {x : Ev} (hx : Bf x) (x0 : 0 <= x.ix) :
    ∀ (d i : Nat) (H : List Ev) (W : List Int), n - i <= d -> yK n H W -> (ad2 c0.2.2.2.2.2.2.2.2.2.2.2.1) = (ad2 H) -> i < n -> x.ix < (ad2 W) -> (ad2 c0.2.2.2.2.2.2.2.2.2.2.2.2) = (ad2 W) ->
      aq (gZ c0) ((i : Int), ((2 * i + 1 : Nat) : Int), H, W, u, us, fr, n, cap, x) = ad3 (.done ((pU n x i H W).2.1.set (pU n x i H W).1 x, (pU n x i H W).2.2.set x.n ((pU n x i H W).1 : Int)))
  | 0, i, H, W, hd, c, hn, hi, x1, l2 => by omega
  | d + 1, i, H, W, hd, c, hn, hi, x1, l2 => by
    have r := Tl (u := u) (us := us) (fr := fr) (cap := cap) c hi hx x0 x1 hn l2
    by_cases h : 2 * i + 1 < n /\ less H[vK n H i]! x
    · rw [AC h] at r
      have kc := DD n H i
      have kn : vK n H i < n := by omega
      rw [aJ r, Bh hx x0 d _ _ _ (by omega) (c.move hi kn _ _) (by grind) kn (by grind) (by grind)]
      have e : pU n x i H W = pU n x (vK n H i) (H.set i H[vK n H i]!) (W.set (H[vK n H i]!).n (i : Int)) := by
        rw [pU, dif_pos h.1, AC h.2]
      rw [e]
    rw [Do h] at r
    rw [au r]
    have e : pU n x i H W = (i, H, W) := by
      rw [pU]
      grind
    rw [e]
theorem KL {c0 : List Int × List Bool × List Int × Nat × Nat × Int × Int × Int × Int × Int × Int × List Ev × List Int} {n cap : Nat} {u fr : List Int} {us : List Bool} {x : Ev} (hx : Bf x) (x0 : 0 <= x.ix) :
    ∀ (i : Nat) (H : List Ev) (W : List Int), yK n H W -> (ad2 c0.2.2.2.2.2.2.2.2.2.2.2.1) = (ad2 H) -> i < n -> x.ix < (ad2 W) -> (ad2 c0.2.2.2.2.2.2.2.2.2.2.2.2) = (ad2 W) ->
      aq (fB c0) ((i : Int), H, W, u, us, fr, n, cap, x) = ad3 (ir n x i H W)
  | 0, H, W, c, hn, hi, x1, l2 => by
    have dn := Bh (u := u) (us := us) (fr := fr) (cap := cap) hx x0 n 0 H W (by omega) c hn hi x1 l2
    refine (au ?_)
    unfold fB
    have e1 : ad9 ((0 : Int) < ((0 : Nat) : Int)) = ad8 := by simp
    simp (disch := omega) only [e1, ww, Hq]
    rw [dn]
    unfold ir
    rw [Tj]
  | i + 1, H, W, c, hn, hi, x1, l2 => by
    have hb := c.hb
    have hnn := c.hn
    have e1 : ad9 ((0 : Int) < ((i + 1 : Nat) : Int)) = ad6 := decide_eq_true (by omega)
    have hp : i / 2 < n := by omega
    obtain ⟨Gb, a1, a2⟩ := c.ev (i / 2) hp
    have g1 := wZ (by omega) c.hn
    have s1 : (cy (u, us, fr, n, cap, ((i + 1 : Nat) : Int), (H[i / 2]!).1, (H[i / 2]!).2.1, (H[i / 2]!).2.2.1, (H[i / 2]!).2.2.2.1, (H[i / 2]!).2.2.2.2, H, W)) = ad3 (H.set (i + 1) H[i / 2]!, W.set (H[i / 2]!).n ((i + 1 : Nat) : Int)) := I4 (by omega) c.hn a1 a2
    by_cases h : less x H[i / 2]!
    · have r : fB c0 (((i + 1 : Nat) : Int), H, W, u, us, fr, n, cap, x) = ad3 (.next (((i / 2 : Nat) : Int), H.set (i + 1) H[i / 2]!, W.set (H[i / 2]!).n ((i + 1 : Nat) : Int), u, us, fr, n, cap, x)) := by
        unfold fB
        simp (disch := omega) only [e1, v6, Ho, g1, ai, eu hx Gb, Hn, h, decide_true, s1]
      rw [aJ r, KL hx x0 (i / 2) _ _ (c.move hi hp _ _) (by grind) hp (by grind) (by grind)]
      have e : Tj x (i + 1) H W = Tj x (i / 2) (H.set (i + 1) H[i / 2]!) (W.set (H[i / 2]!).n ((i + 1 : Nat) : Int)) := by
        rw [Tj, AC h]
      unfold ir
      rw [e]
    have dn := Bh (u := u) (us := us) (fr := fr) (cap := cap) hx x0 n (i + 1) H W (by omega) c hn hi x1 l2
    refine (au ?_)
    unfold fB
    simp (disch := omega) only [e1, v6, Ho, g1, ai, eu hx Gb, Hn, h, decide_false, ww, Hq]
    rw [dn]
    unfold ir
    rw [Tj, Do h]
termination_by i=>i
decreasing_by omega
theorem Tm {n cap:Nat} {u fr:List Int} {us:List Bool} {x:Ev} (hx:Bf x) (x0:0<=x.ix) {i:Nat} {H:List Ev} {W:List Int} (c:yK n H W) (hi:i<n) (x1:x.ix<ad2 W):
 mw (u,us,fr,n,cap,(i:Int),x.1,x.2.1,x.2.2.1,x.2.2.2.1,x.2.2.2.2,H,W)=ad3 (ir n x i H W):=by
 unfold mw
 grind [KL]
theorem az {p:Prop} [Decidable p] (h: ¬p):decide p=ad8:=decide_eq_false h
theorem ay {p:Prop} [Decidable p] (h:p):decide p=ad6:=decide_eq_true h
theorem QY (aC:List Int) (be:List Bool) (fr:List Int) (fl:List Bool) (h1:(ad2 aC)<=200) (h2:(ad2 be)=ad2 aC) (h3:(ad2 fl)=ad2 aC):
 ((∀i,i<ad2 aC->0<=aC[i]!/\aC[i]!<=1000000/\be[i]!≠fl[i]!/\(be[i]! =ad6->1<=aC[i]!))->aq mI (((ad2 aC):Int),0,aC,be,fr,fl)=ad3 (.done 0))/\
 (¬(∀i,i<ad2 aC->0<=aC[i]!/\aC[i]!<=1000000/\be[i]!≠fl[i]!/\(be[i]! =ad6->1<=aC[i]!))->aq mI (((ad2 aC):Int),0,aC,be,fr,fl)=ad3 (.done 8)):=by
 have key:=dZ (body:=mI) (fun i=>(((ad2 aC):Int),(i:Int),aC,be,fr,fl)) (ad2 aC) (fun i=> ¬(0<=aC[i]!/\aC[i]!<=1000000/\be[i]!≠fl[i]!/\(be[i]! =ad6->1<=aC[i]!))) (r:= .done 8) (e:= .done 0) (fun i hi=>by
  have e1:ad9 ((i:Int)<((ad2 aC):Int))=ad6:=ay (by omega);unfold mI;simp (disch:=omega) only [e1,ar,ai,aM];generalize aC[i]! =u;generalize be[i]! =a;generalize fl[i]! =b
  by_cases a1:u<0
  · simp only [a1,decide_true,v6];exact ⟨fun _=>trivial,fun h=>absurd (UV.1 h).1 (by omega)⟩
  · by_cases a2:1000000<u
    · simp only [a1,a2,decide_true,decide_false,v6,ww];exact ⟨fun _=>trivial,fun h=>absurd (UV.1 h).2.1 (by omega)⟩
    simp [a1,a2,]
    by_cases a3:u<1
    · cases a<;>cases b<;>simp [a3]<;>omega
    cases a<;>cases b<;>simp [a3]<;>omega) (by
  unfold mI;simp)
 grind
theorem QZ {α:Type} {n:Nat} (z:α) (h:n<=1048576):qd (n:Int) z=ad3 (EQ n z):=by
 unfold qd
 grind
theorem KM (s:bD) (hf:(ad2 s.bi)<=1000000):yv s=ad3 (if iq s then 0 else 8):=by
 obtain ⟨aC,be,fr⟩:=s;dsimp only at hf;unfold yv;simp only [aF]
 by_cases a1:(ad2 aC)<1
 · have e:ad9 (((ad2 aC):Int)<1)=ad6:=ay (by omega)
   rw [e,Do (fun h=>by have:=h.n1;grind)];rfl
 have e1:ad9 (((ad2 aC):Int)<1)=ad8:=az (by omega)
 by_cases a2:200<ad2 aC
 · have e:ad9 (200<((ad2 aC):Int))=ad6:=ay (by omega)
   rw [e1,e,Do (fun h=>by have:=h.n2;grind)];rfl
 have e2:ad9 (200<((ad2 aC):Int))=ad8:=az (by omega)
 by_cases a3:(ad2 be)=ad2 aC
 case neg=>have e:(((ad2 be):Int) !=((ad2 aC):Int))=ad6:=db (by omega);rw [e1,e2,e,Do (fun h=>a3 h.ul)];rfl
 have e3:(((ad2 be):Int) !=((ad2 aC):Int))=ad8:=aY (by omega)
 by_cases a4:(ad2 aC)<ad2 fr
 · have e:ad9 (((ad2 aC):Int)<((ad2 fr):Int))=ad6:=ay (by omega)
   rw [e1,e2,e3,e,Do (fun h=>by have:=h.fl;grind)];rfl
 have e4:ad9 (((ad2 aC):Int)<((ad2 fr):Int))=ad8:=az (by omega);simp (disch:=omega) only [e1,e2,e3,e4,ww,beq_self_eq_true,v6,QZ,ai];have ml: ∀k,(marks (EQ (ad2 aC) ad8) (fr.take k)).length=(ad2 aC):=fun k=>by rw [pN,aaE]
 have ml':(marks (EQ (ad2 aC) ad8) fr).length=(ad2 aC):=by rw [pN,aaE]
 have rep: ∀i:Nat,(EQ (ad2 aC) ad8)[i]! =ad8:=by
  intro i
  by_cases h:i<ad2 aC
  · rw [getElem!_pos _ i (by simpa using h),List.getElem_replicate]
  simp_all
 have MY:=QY aC be fr (marks (EQ (ad2 aC) ad8) fr) (by omega) a3 ml';have key:=dZ (body:=sC) (fun k=>(((ad2 aC):Int),(k:Int),aC,be,fr,marks (EQ (ad2 aC) ad8) (fr.take k))) (ad2 fr)
  (fun k=>fr[k]!<0\/((ad2 aC):Int)<=fr[k]!\/(marks (EQ (ad2 aC) ad8) (fr.take k))[(fr[k]!).toNat]! =ad6) (r:=8)
  (e:=if (∀i,i<ad2 aC->0<=aC[i]!/\aC[i]!<=1000000/\be[i]!≠(marks (EQ (ad2 aC) ad8) fr)[i]!/\(be[i]! =ad6->1<=aC[i]!)) then 0 else 8) (fun k hk=>by
   have f1:ad9 ((k:Int)<((ad2 fr):Int))=ad6:=ay (by omega);have f5:marks (EQ (ad2 aC) ad8) (fr.take (k+1))=cA (marks (EQ (ad2 aC) ad8) (fr.take k)) fr[k]! ad6:=by rw [dG hk,EZ]
   unfold sC;simp (disch:=omega) only [aF,f1,v6,ar fr k hk,ai,aM,f5];clear f5;generalize fr[k]! =x
   by_cases b1:x<0
   · simp [b1]
   · by_cases b2:((ad2 aC):Int)<=x
     · simp [b1,b2]
     simp
     grind [kN,ai]) (by
   have f1:=az (by omega);unfold sC
   grind)
 have h0:marks (EQ (ad2 aC) ad8) (fr.take 0)=EQ (ad2 aC) ad8:=rfl;rw [show ((0:Nat):Int)=0 from rfl,h0] at key
 by_cases bad: ∃k,k<ad2 fr/\(fr[k]!<0\/((ad2 aC):Int)<=fr[k]!\/(marks (EQ (ad2 aC) ad8) (fr.take k))[(fr[k]!).toNat]! =ad6)
 · rw [key.1 bad,Do]
   intro ok;obtain ⟨k,hk,hb⟩:=bad;have hr:=ok.fr fr[k]! (aK hk);dsimp only at hr;rcases hb with hb|hb|hb
   · omega
   · omega
   rw [rL _ _ _ (fun x hx=>(ok.fr x (aaF hx)).1) (by grind),rep,abw] at hb
   have hi:((fr[k]!).toNat:Int)=fr[k]!:=by omega
   rw [hi] at hb;have hm:=of_decide_eq_true hb;obtain ⟨j,h1,h2,h3⟩:=cE.1 hm;exact bI.1 ok.fd j k h1 hk h3
 have aad: ∀k,k<ad2 fr->0<=fr[k]!/\fr[k]!<ad2 aC/\(marks (EQ (ad2 aC) ad8) (fr.take k))[(fr[k]!).toNat]! =ad8:=by
  intro k hk;refine ⟨?_,?_,?_⟩
  · exact Int.not_lt.1 fun h=>bad ⟨k,hk,.inl h⟩
  · exact Int.not_le.1 fun h=>bad ⟨k,hk,.inr (.inl h)⟩
  exact abD _▸fun h=>bad ⟨k,hk,.inr (.inr h)⟩
 rw [key.2 fun k hk hb=>bad ⟨k,hk,hb⟩];have UT: ∀x∈fr,0<=x/\x<((ad2 aC):Int):=by intro x hx;obtain ⟨k,hk,rfl⟩:=aS.1 hx;exact ⟨(aad k hk).1,(aad k hk).2.1⟩
 have g2: ∀k,k<ad2 fr->fr[k]!∉fr.take k:=by intro k hk;obtain ⟨c1,c2,c3⟩:=aad k hk;rw [rL _ _ _ (fun x hx=>(UT x (aaF hx)).1) (by rw [aaE];omega),show ((fr[k]!).toNat:Int)=fr[k]! by omega,rep,abw] at c3;exact of_decide_eq_false c3
 have nd:=bI.2 fun i j pX hj he=>g2 j hj (cE.2 ⟨i,pX,by omega,he⟩)
 have fl: ∀i,i<ad2 aC->(marks (EQ (ad2 aC) ad8) fr)[i]! =ad9 ((i:Int)∈fr):=by intro i hi;rw [rL _ _ _ (fun x hx=>(UT x hx).1) (by rw [aaE];omega),rep,abw]
 by_cases hx:(∀i,i<ad2 aC->0<=aC[i]!/\aC[i]!<=1000000/\be[i]!≠(marks (EQ (ad2 aC) ad8) fr)[i]!/\(be[i]! =ad6->1<=aC[i]!))
 · rw [AC hx,AC]
   refine ⟨by show 1<=ad2 aC;omega,by show (ad2 aC)<=200;omega,a3,UT,nd,fun i hi=>?_,fun i hi=>?_⟩
   · have:=(hx i hi).2.2.1
     rw [fl i hi] at this;dsimp only;cases h:be[i]! with
     |true=>rw [h] at this;refine ⟨fun _ hm=>?_,fun _=>rfl⟩;rw [ay hm] at this;exact this rfl
     |false=>rw [h] at this;refine ⟨fun h=>(by cases h),fun hm=>?_⟩;rw [az hm] at this;exact absurd rfl this
   have:=hx i hi
   exact ⟨this.1,this.2.1,this.2.2.2⟩
 rw [Do hx,Do]
 intro ok;refine hx fun i hi=>?_
 obtain ⟨u1,u2,u3⟩:=ok.us i hi;refine ⟨u1,u2,?_,u3⟩;rw [fl i hi];have:=ok.uf i hi;dsimp only at this;intro he
 by_cases hm:(i:Int)∈fr
 · rw [ay hm] at he;exact (this.1 he) hm
 rw [az hm] at he
 have:=this.2 hm;rw [he] at this;cases this
structure CU (a:aV):Prop where
 fr:(ad2 a.aj.bi)<=1000000
 hp:(ad2 a.bv)<=1000000
 wh:(ad2 a.aB)<=1000000
 OD: ∀w,w<ad2 a.bv->jb ((a.bv[w]!).1,(a.bv[w]!).2.1)
structure fP (a:aV):Prop where
 so:iq a.aj
 wl:(ad2 a.aB)=ad2 a.aj.aC
 hl:(ad2 a.bv)+ad2 a.aj.bi=ad2 a.aj.aC
 fwd: ∀i,i<ad2 a.aj.aC->a.aj.be[i]! =ad6->0<=a.aB[i]!/\a.aB[i]!<ad2 a.bv/\(Ev.ix a.bv[(a.aB[i]!).toNat]!)=i/\(a.bv[(a.aB[i]!).toNat]!).2.2.2.2=a.aj.aC[i]!
 un: ∀i,i<ad2 a.aj.aC->a.aj.be[i]! =ad8->a.aB[i]! = -1
 ev: ∀w,w<ad2 a.bv->Bf a.bv[w]!
 nd: ∀v w,v<w->w<ad2 a.bv->(Ev.num a.bv[v]!)≠(Ev.num a.bv[w]!)
 ord: ∀k,0<k->k<ad2 a.bv-> ¬less a.bv[k]! a.bv[(k-1) / 2]!
theorem cover: ∀(n:Nat) (l:List Nat),(∀x,x<n->x∈l)->n<=ad2 l
 |0,_,_=>Nat.zero_le _
 |n+1,l,h=>by
  have:=cover n (l.erase n) (fun x hx=>by rw [List.mem_erase_of_ne (by omega)];exact h x (by omega))
  grind
def Q0 (s:bD):List Nat:=(List.range (ad2 s.aC)).filter fun i=>s.be[i]!
theorem DF {s:bD} {i:Nat}:i∈Q0 s↔i<ad2 s.aC/\s.be[i]! =ad6:=by unfold Q0;simp
theorem DG {α β:Type} {f:α->β}: ∀{l:List α},l.Nodup->(∀x∈l,∀y∈l,f x=f y->x=y)->(l.map f).Nodup
 | [],_,_=>by simp
 |a::l,h,hf=>by
  rw [abc] at h;rw [List.map_cons,abc];refine ⟨?_,DG h.2 fun x hx y hy=>hf x (by simp [hx]) y (by simp [hy])⟩
  grind
theorem fP.back {a:aV} (ok:fP a) {w:Nat} (hw:w<ad2 a.bv):0<=(Ev.ix a.bv[w]!)/\(Ev.ix a.bv[w]!)<ad2 a.aj.aC/\a.aj.be[(Ev.n a.bv[w]!)]! =ad6/\a.aj.aC[(Ev.n a.bv[w]!)]! =(a.bv[w]!).2.2.2.2/\a.aB[(Ev.n a.bv[w]!)]! =(w:Int):=by
 have so:=ok.so;have len:(ad2 a.aj.aC)<=(Q0 a.aj).length+(ad2 a.aj.bi):=by
  have:=cover (ad2 a.aj.aC) (Q0 a.aj++a.aj.bi.map Int.toNat) (fun x hx=>by
   rw [abl]
   by_cases hu:a.aj.be[x]! =ad6
   · exact .inl (DF.2 ⟨hx,hu⟩)
   right
   have:=so.uf x hx;have hm:=NE fun hc=>hu (this.2 hc)
   exact abb.2 ⟨_,hm,by omega⟩)
  grind
 have f0:=fun i hi=>ok.fwd i (DF.1 hi).1 (DF.1 hi).2
 have full:=Ie (l:=(Q0 a.aj).map fun i=>(a.aB[i]!).toNat) (by
  refine DG ?_ ?_
  · exact List.Pairwise.filter _ List.nodup_range
  grind) (by
  simp_all) (by
  rw [aco];have:=ok.hl;omega) w hw
 obtain ⟨i,hi,e⟩:=abb.1 full;obtain ⟨c1,c2,c3,c4⟩:=f0 i hi;obtain ⟨d1,d2⟩:=DF.1 hi;rw [e] at c3 c4;have hn:(Ev.n a.bv[w]!)=i:=by show ((Ev.ix a.bv[w]!)).toNat=i;omega
 rw [hn];refine ⟨by omega,by omega,d2,c4.symm,by omega⟩
noncomputable def Tn (x y:Ev):Int:=if bu (x.1,x.2.1)/\bu (y.1,y.2.1) then QX x y else mj x.2.2.1 y.2.2.1
theorem E0 {x y:Ev} (hx:jb (x.1,x.2.1)) (hy:jb (y.1,y.2.1)):cK x y=ad3 (Tn x y):=by
 unfold cK Tn QX;rw [vX hx hy]
 by_cases h:bu (x.1,x.2.1)/\bu (y.1,y.2.1)
 · rw [AC h,AC h]
   simp [mX,DC]
 simp_all [Do,mX,DC]
def OE (a:aV) (i:Nat):Prop:=(a.aj.be[i]! =ad6->0<=a.aB[i]!/\a.aB[i]!<ad2 a.bv/\(Ev.ix a.bv[(a.aB[i]!).toNat]!)=i/\(a.bv[(a.aB[i]!).toNat]!).2.2.2.2=a.aj.aC[i]!)/\(a.aj.be[i]! =ad8->a.aB[i]! = -1)
def Q1 (H:List Ev) (k:Nat):Prop:=bu ((H[k]!).1,(H[k]!).2.1)/\0<=(H[k]!).2.2.1/\(H[k]!).2.2.1<=1000000/\(∀j,j<k->(H[j]!).2.2.1≠(H[k]!).2.2.1)/\(0<k-> ¬Tn H[k]! H[(k-1) / 2]!<0)
theorem fP.of {a:aV} (fit:CU a) (so:iq a.aj) (wl:(ad2 a.aB)=ad2 a.aj.aC) (hl:(ad2 a.bv)+ad2 a.aj.bi=ad2 a.aj.aC) (wh: ∀i,i<ad2 a.aj.aC->OE a i) (hp: ∀k,k<ad2 a.bv->Q1 a.bv k):fP a:=by
 have ev: ∀w,w<ad2 a.bv->Bf a.bv[w]!:=fun w hw=>⟨(hp w hw).1,fit.OD w hw,(hp w hw).2.1,(hp w hw).2.2.1⟩
 refine ⟨so,wl,hl,fun i hi=>(wh i hi).1,fun i hi=>(wh i hi).2,ev,fun v w hv hw=>(hp w hw).2.2.2.1 v hv,fun k k0 hk=>?_⟩;have:=(hp k hk).2.2.2.2 k0;unfold Tn at this;rw [AC ⟨(hp k hk).1,(hp _ (by omega)).1⟩,Ga] at this;exact this
theorem fP.to {a:aV} (ok:fP a):(∀i,i<ad2 a.aj.aC->OE a i)/\(∀k,k<ad2 a.bv->Q1 a.bv k):=by refine ⟨fun i hi=>⟨ok.fwd i hi,ok.un i hi⟩,fun k hk=>?_⟩;have e:=ok.ev k hk;refine ⟨e.1,e.2.2.1,e.2.2.2,fun j hj=>ok.nd j k hj hk,fun k0=>?_⟩;unfold Tn;rw [AC ⟨e.1,(ok.ev _ (by omega)).1⟩,Ga];exact ok.ord k k0 hk
theorem M0 (H:List Ev) (k:Nat) (n:Int):sj [n] ((H.take k).map fun x=>[x.2.2.1])=ad6:=by unfold sj;rw [List.all_eq_true];intro x hx;obtain ⟨y,hy,rfl⟩:=abb.1 hx;rfl
theorem M1 (H:List Ev) (k:Nat) (n:Int):IF ((H.take k).map fun x=>[x.2.2.1]) [n]=ad9 (∃j,j<k/\j<ad2 H/\(H[j]!).2.2.1=n):=by
 unfold IF;rw [Bool.eq_iff_iff,List.any_eq_true,decide_eq_true_iff];constructor
 · rintro ⟨x,hx,he⟩
   obtain ⟨y,hy,rfl⟩:=abb.1 hx;obtain ⟨j,h1,h2,rfl⟩:=cE.1 hy
   grind
 rintro ⟨j,h1,h2,h3⟩
 refine ⟨[(H[j]!).2.2.1],abb.2 ⟨H[j]!,cE.2 ⟨j,h1,h2,rfl⟩,rfl⟩,?_⟩;rw [h3];simp
theorem OF (H:List Ev) (u fr W:List Int) (us:List Bool) (hl:(ad2 H)<=1000000) (eR: ∀w,w<ad2 H->jb ((H[w]!).1,(H[w]!).2.1)):
 ((∀k,k<ad2 H->Q1 H k)->aq lg (H,((ad2 H):Int),0,u,us,fr,H,W,[])=ad3 (.done 0))/\(¬(∀k,k<ad2 H->Q1 H k)->aq lg (H,((ad2 H):Int),0,u,us,fr,H,W,[])=ad3 (.done 8)):=by
 have key:=dZ (body:=lg) (fun k=>(H,((ad2 H):Int),(k:Int),u,us,fr,H,W,(H.take k).map fun x=>[x.2.2.1])) (ad2 H) (fun k=> ¬Q1 H k) (e:= .done 0) (fun k hk=>by
  have e1:ad9 ((k:Int)<((ad2 H):Int))=ad6:=ay (by omega);have ins: ∀n:Int,¬(∃j,j<k/\j<ad2 H/\(H[j]!).2.2.1=n)->Qi ((H.take k).map fun x=>[x.2.2.1]) [n]=ad3 (((H.take k).map fun x=>[x.2.2.1])++[[n]]):=by intro n hn;unfold Qi V9;rw [M0,M1,az hn];rfl
  have has: ∀n:Int,Qh ((H.take k).map fun x=>[x.2.2.1]) [n]=ad3 (ad9 (∃j,j<k/\j<ad2 H/\(H[j]!).2.2.1=n)):=by intro n;unfold Qh;rw [M0,M1];rfl
  have nx:(H.take (k+1)).map (fun x=>[x.2.2.1])=((H.take k).map fun x=>[x.2.2.1])++[[(H[k]!).2.2.1]]:=by rw [dG hk,List.map_append];rfl
  unfold lg;simp (disch:=omega) only [e1,ar H k hk,ai,bQ (eR k hk),aM,has,nx]
  by_cases b1:bu ((H[k]!).1,(H[k]!).2.1)
  case neg=>rw [Do b1];exact ⟨fun _=>rfl,fun h=>absurd (UV.1 h).1 b1⟩
  rw [AC b1]
  by_cases b2:(H[k]!).2.2.1<0
  · rw [ay b2]
    exact ⟨fun _=>rfl,fun h=>absurd (UV.1 h).2.1 (by omega)⟩
  by_cases b3:1000000<(H[k]!).2.2.1
  · rw [az b2,ay b3]
    exact ⟨fun _=>rfl,fun h=>absurd (UV.1 h).2.2.1 (by omega)⟩
  rw [az b2,az b3]
  by_cases b4: ∃j,j<k/\j<ad2 H/\(H[j]!).2.2.1=(H[k]!).2.2.1
  · rw [ay b4]
    refine ⟨fun _=>rfl,fun h=>?_⟩;obtain ⟨j,j1,j2,j3⟩:=b4;exact absurd j3 ((UV.1 h).2.2.2.1 j j1)
  rw [az b4,ins _ b4];have b4':=fun j hj he=>b4 ⟨j,hj,by omega,he⟩
  by_cases b5:0<k
  · obtain ⟨m,rfl⟩: ∃m,k=m+1:=⟨k-1,by omega⟩
    have f1:ad9 ((0:Int)<((m+1:Nat):Int))=ad6:=ay (by omega);simp (disch:=omega) only [Ho,ar,ai,E0 (eR (m+1) hk) (eR (m / 2) (by omega)),by omega]
    by_cases b6:Tn H[m+1]! H[m / 2]!<0
    · rw [ay b6]
      exact ⟨fun _=>rfl,fun h=>absurd b6 ((UV.1 h).2.2.2.2 (by omega))⟩
    rw [az b6]
    exact ⟨fun h=>absurd ⟨b1,by omega,by omega,b4',fun _=>b6⟩ h,fun _=>rfl⟩
  · have f1:ad9 ((0:Int)<(k:Int))=ad8:=az (by omega)
    rw [f1];exact ⟨fun h=>absurd ⟨b1,by omega,by omega,b4',fun h=>absurd h b5⟩ h,fun _=>rfl⟩) (by
  unfold lg;simp)
 grind
end Go.Proofs.YthljiplggdanpaaGreat
