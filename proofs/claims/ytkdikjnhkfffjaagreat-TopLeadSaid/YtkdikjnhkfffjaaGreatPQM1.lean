/- Plain laws (1). -/
import Derived.Test.YtkdikjnhkfffjaaGreatPVm2
import Derived.Test.YtkdikjnhkfffjaaGreatPVm1
import Derived.Test.YtkdikjnhkfffjaaGreatPQS3
open List renaming replicate->EQ,length_set->If,length_replicate->aaP,mem_of_mem_take->aaQ,mem_map->abu,nodup_cons->abv,mem_append->abE,mem_singleton->abS,length_take->abX,length_map->acl,length->acI
open Nat renaming gcd->IR,gcd_comm->abw,gcd_dvd_right->abC,mul_div_cancel'->abN,gcd_zero_right->abQ,gcd_dvd_left->abU,le_refl->ac3,strongRecOn->ac6,div_le_self->aci,le_trans->acG
open Classical renaming byContradiction->NE,not_not->UV,not_forall->abL,not_imp->abT
open Int renaming mul_le_mul_of_nonneg_right->PP,ofNat->WF,mul_neg_of_neg_of_pos->abq,eq_ofNat_of_zero_le->abr,mul_lt_mul_of_pos_right->abx,mul_le_mul->aby,tdiv_eq_ediv_of_nonneg->abz,lt_of_mul_lt_mul_right->abA,lt_trichotomy->abB,mul_nonneg->abF,tdiv->abK,natCast_mul->ack,ofNat_tmod->acm,mul_assoc->acF
open Bool renaming not_true->aai,not_false->ab0,or_eq_false_iff->abM,false_or->abP,not_eq_true->abV,true->ad5,false->ad6
open Option.some renaming injEq->abt
open Prod.mk renaming injEq->abD
open Option renaming some->ad3,none->ad4
open Decidable renaming decide->ad7
namespace Go.Vm
instance lpN:LP:=⟨ad4⟩
section
variable {σ ρ : Type}
theorem bg{body:σ->Option (Step σ ρ)}{x:σ}{r:ρ}:aq body x=ad3 r↔ ∃n,sf body n x=ad3 r:=HY
theorem aQ{body:σ->Option (Step σ ρ)}{x y:σ}(h:body x=ad3 (.next y)):aq body x=aq body y:=by
 apply Option.ext;intro r;rw[bg,bg];constructor
 ·rintro⟨n,hn⟩
  cases n with
  |zero=>cases hn
  |succ n=>simp[sf,]at hn;grind
 rintro⟨n,hn⟩
 exact⟨n+1,by simp[sf,h];exact hn⟩
theorem au{body:σ->Option (Step σ ρ)}{x:σ}{r:ρ}(h:body x=ad3 (.done r)):aq body x=ad3 r:=
 bg.2 ⟨1,by simp[sf,h]⟩
end
end Go.Vm
namespace Go.Proofs.YtkdikjnhkfffjaaGreat
open Go.Vm
noncomputable def bA(c0:(List Int))(s:(Int×Int×(List Int))):Option (Step (Int×Int×(List Int)) (Step (Int×Int×(List Int)) (Nat×Nat×(List Int)))):=
 bif ad7 (s.2.1<(WF (acI s.2.2)))then
  (aF s.2.2 s.2.1).bind λn0=>
  (jj n0).bind λb1=>
  bif !b1 then
   (aF s.2.2 s.1).bind λn2=>
   ad3 (.next (aa .i64 (s.1+1),aa .i64 (s.2.1+1),cQ s.2.2 s.1 n0))
  else
   ad3 (.next (s.1,aa .i64 (s.2.1+1),s.2.2))
 else
  bif((ad7 (0<=s.1))&&(ad7 (s.1<=(WF (acI s.2.2)))))&&(ad7 ((WF (acI s.2.2))<=(WF (acI s.2.2))))then
   bif Nat.beq (((WF (acI s.2.2)).toNat)-s.1.toNat) 0 then
    (jE s.2.2 0 s.1).bind λl3=>
    bif(acI s.2.2)==(acI c0)then
     ad3 (.done (.done (s.1.toNat,acI s.2.2,s.2.2)))
    else
     ad4
   else
    bif(Nat.ble ((0+s.1.toNat)+(((WF (acI s.2.2)).toNat)-s.1.toNat)) (acI s.2.2))&&(!ad6)then
     (jE (gQ s.2.2 (0+s.1.toNat) (EQ (((WF (acI s.2.2)).toNat)-s.1.toNat) 0)) 0 s.1).bind λl4=>
     bif((gQ s.2.2 (0+s.1.toNat) (EQ (((WF (acI s.2.2)).toNat)-s.1.toNat) 0)).length)==(acI c0)then
      ad3 (.done (.done (s.1.toNat,(gQ s.2.2 (0+s.1.toNat) (EQ (((WF (acI s.2.2)).toNat)-s.1.toNat) 0)).length,gQ s.2.2 (0+s.1.toNat) (EQ (((WF (acI s.2.2)).toNat)-s.1.toNat) 0))))
     else
      ad4
    else
     ad4
  else
   ad4
noncomputable def bI(c0:(List Int))(s:(Int×Int×(List Int))):Option (Step (Int×Int×(List Int)) (Nat×Nat×(List Int))):=
 bif ad7 (s.2.1<s.1)then
  (aF s.2.2 s.2.1).bind λn0=>
  (jj n0).bind λb1=>
  bif b1 then
   bif(acI s.2.2)==(acI c0)then
    bif s.2.1==(-1)then
     bif(acI s.2.2)==(acI c0)then
      ad3 (.done (acI s.2.2,acI s.2.2,s.2.2))
     else
      ad4
    else
     aq (bA c0) (s.2.1,aa .i64 (s.2.1+1),s.2.2)
   else
    ad4
  else
   ad3 (.next (s.1,aa .i64 (s.2.1+1),s.2.2))
 else
  bif(acI s.2.2)==(acI c0)then
   bif(acI s.2.2)==(acI c0)then
    ad3 (.done (acI s.2.2,acI s.2.2,s.2.2))
   else
    ad4
  else
   ad4
structure aah where
 ut:Int
 bv:bX
 gC:bQ
 dR:cf
 eT:cC
noncomputable def bj(s:(Int×Int×Int×Int×(List (Int×Int×Int))×Int×Int)):Option (Step (Int×Int×Int×Int×(List (Int×Int×Int))×Int×Int) (Step (Int×Int×Int×(List (Int×Int×Int))×Int×Int) ((List (Int×Int×Int))×Int×Int))):=
 match s with
 |(a,b,d,e,f,g,h)=>
  bif ad7 (a<e)then
   (aF f e).bind λa0=>
   (aF f (aa .i64 (e-1))).bind λa1=>
   bif a0.1==a1.1 then
    bif(acI f)==(acI f)then
     ad3 (.done (.next (a,b,aa .i64 (d+1),(f,g,h))))
    else
     ad4
   else
    (df a0 a1 (g,h)).bind λa2=>
    bif a2.1 then
     bif(acI f)==(acI f)then
      (aF f (aa .i64 (e-1))).bind λa3=>
      (aF f e).bind λa4=>
      (aF f e).bind λa5=>
      (aF (cQ f e a3) (aa .i64 (e-1))).bind λa6=>
      ad3 (.next (a,b,d,aa .i64 (e-1),cQ (cQ f e a3) (aa .i64 (e-1)) a4,(g,h)))
     else
      ad4
    else
     bif(acI f)==(acI f)then
      ad3 (.done (.next (a,b,aa .i64 (d+1),(f,g,h))))
     else
      ad4
  else
   ad3 (.done (.next (a,b,aa .i64 (d+1),(f,g,h))))
noncomputable def bD(c0:(Int×Int×(List (Int×Int×Int))×Int×Int))(s:(Int×Int×Int×(List (Int×Int×Int))×Int×Int)):Option (Step (Int×Int×Int×(List (Int×Int×Int))×Int×Int) ((List (Int×Int×Int))×Int×Int)):=
 bif ad7 (s.2.2.1<s.2.1)then
  aq bj (s.1,s.2.1,s.2.2.1,s.2.2)
 else
  bif(acI s.2.2.2.1)==(acI c0.2.2.1)then
   ad3 (.done s.2.2.2)
  else
   ad4
noncomputable def ft(c0:(Int×Int×Int×(List (Int×Int×Int))×Int×Int))(s:(Int×Int×Int×Bool×Bool×(List (Int×Int×Int))×Int×Int)):Option (Step (Int×Int×Int×Bool×Bool×(List (Int×Int×Int))×Int×Int) ((List (Int×Int×Int))×Int×Int)):=
 bif ad7 ((aa .i64 (s.2.1-s.1))<=12)then
  (bH (s.1,s.2.1,s.2.2.2.2.2)).bind λa0=>
  bif(acI a0.1)==(acI c0.2.2.2.1)then
   ad3 (.done a0)
  else
   ad4
 else
  bif s.2.2.1==0 then
   ad4
  else
   bif !s.2.2.2.1 then
    ad4
   else
    ad4
noncomputable def dw(self:(Int×Int×Int×(List (Int×Int×Int))×Int×Int)->Option ((List (Int×Int×Int))×Int×Int))(a:(Int×Int×Int×(List (Int×Int×Int))×Int×Int)):Option ((List (Int×Int×Int))×Int×Int):=
 aq (ft a) (a.1,a.2.1,a.2.2.1,ad5,ad5,a.2.2.2)
noncomputable def fC:Nat->(Int×Int×Int×(List (Int×Int×Int))×Int×Int)->Option ((List (Int×Int×Int))×Int×Int)
 |0,_=>ad4
 |n+1,a=>dw (fC n) a
abbrev B4(n:Int):Prop:= -9223372036854775808<=n/\n<9223372036854775808
abbrev U64(n:Int):Prop:=0<=n/\n<18446744073709551616
theorem wi(n:Int):aa .i64 n=(n+9223372036854775808)%18446744073709551616-9223372036854775808:=by
 rw[xA];simp[IntKind.wrap,IntKind.bits,IntKind.signed,]
 grind
theorem wu(n:Int):aa .u64 n=n%18446744073709551616:=by rw[xA];rfl
theorem fN{n:Int}(h:B4 n):aa .i64 n=n:=by rw[wi];omega
theorem dV{a b:Int}(h:a≠b):(a !=b)=ad5:=by simpa using h
theorem bw{a b:Int}(h:a=b):(a !=b)=ad6:=by simpa using h
theorem lZ{a b:Int}(h:a=b):(a==b)=ad5:=by simpa using h
theorem jA{a b:Int}(h:a≠b):(a==b)=ad6:=by simpa using h
theorem adg(a b:Int):(a==b)=ad7 (a=b):=by rfl
theorem lt_or_ge(a b:Int):a<b\/b<=a:=by omega
theorem ag8(a:Int):fQ .u64 a 32=a / 4294967296:=by
 unfold fQ;rw[show(min _ _)=32 from by decide,show(2:Int)^32=4294967296 from by decide]
 grind
theorem Tx{a:Int}(h:U64 a):rJ .u64 a 4294967295=a%4294967296:=by
 obtain⟨n,rfl⟩:=abr h.1;unfold rJ;have e:(BitVec.ofInt _ (n:Int)&&&BitVec.ofInt (IntKind.bits .u64) 4294967295).toNat=n%4294967296:=by
  rw[BitVec.toNat_and];have e1:(BitVec.ofInt (IntKind.bits .u64) (n:Int)).toNat=n:=by
   rw[BitVec.toNat_ofInt];have:((2^(IntKind.bits .u64):Nat):Int)=18446744073709551616:=by decide
   rw[this];omega
  have e2:(BitVec.ofInt (IntKind.bits .u64) (4294967295:Int)).toNat=2^32-1:=by decide
  rw[e1,e2,Nat.and_two_pow_sub_one_eq_mod]
 rw[e];have:=wu ((n%4294967296:Nat):Int)
 grind[xA]
theorem adh{a b:Nat}(ha:a<1000000000)(hb:b<1000000000):aa .i64 (fQ .u64 (aa .u64 (aa .i64 ((a:Int)+(b:Int)))) 1)=(((a+b) / 2:Nat):Int):=by unfold fQ;rw[show(min _ _)=1 from by decide,show(2:Int)^1=2 from by decide,Int.fdiv_eq_ediv_of_nonneg _ (by decide),wi _,wu,wi];omega
section
variable {σ ρ : Type} {body : σ -> Option (Step σ ρ)}
theorem bz(st:Nat->σ)(n:Nat)(h: ∀i,i<n->body (st i)=ad3 (.next (st (i+1)))):aq body (st 0)=aq body (st n):=by
 induction n with
 |zero=>rfl
 |succ n ih=>
  grind[aQ]
theorem eo(st:Nat->σ)(n:Nat)(c:Nat->Prop){r e:ρ}(h: ∀i,i<n->(c i->body (st i)=ad3 (.done r))/\(¬c i->body (st i)=ad3 (.next (st (i+1)))))
 (aaj:body (st n)=ad3 (.done e)):((∃i,i<n/\c i)->aq body (st 0)=ad3 r)/\((∀i,i<n-> ¬c i)->aq body (st 0)=ad3 e):=by
 constructor
 ·rintro⟨i,hi,hc⟩
  have key: ∀k,k<=n->(∃i,i<n/\n-k<=i/\c i)->aq body (st (n-k))=ad3 r:=by
   intro k
   induction k with
   |zero=>omega
   |succ k ih=>
    rintro hk ⟨i,h1,h2,h3⟩
    by_cases hc:c (n- (k+1))
    ·exact au ((h _ (by omega)).1 hc)
    rw[aQ ((h _ (by omega)).2 hc),show n- (k+1)+1=n-k by omega]
    refine ih (by omega) ⟨i,h1,?_,h3⟩
    by_cases he:i=n- (k+1)
    ·subst he;exact absurd h3 hc
    omega
  have:=key n (ac3 n) ⟨i,hi,by omega,hc⟩
  grind
 intro hn
 rw[bz st n λi hi=>(h i hi).2 (hn i hi)];exact au aaj
theorem least{c:Nat->Prop}: ∀{n:Nat},(∃i,i<n/\c i)-> ∃k,k<n/\c k/\ ∀j,j<k-> ¬c j
 |0,h=>by omega
 |n+1,h=>by
  by_cases hx: ∃i,i<n/\c i
  ·obtain⟨k,h1,h2,h3⟩:=least hx
   exact⟨k,by omega,h2,h3⟩
  grind
theorem pz(st:Nat->σ)(n:Nat)(c:Nat->Prop)(r:Nat->ρ){e:ρ}(h: ∀i,i<n->(c i->body (st i)=ad3 (.done (r i)))/\(¬c i->body (st i)=ad3 (.next (st (i+1)))))
 (aaj:body (st n)=ad3 (.done e)):(∀k,k<n->c k->(∀j,j<k-> ¬c j)->aq body (st 0)=ad3 (r k))/\((∀i,i<n-> ¬c i)->aq body (st 0)=ad3 e):=by
 constructor
 ·intro k hk hc hj
  rw[bz st k λi hi=>(h i (by omega)).2 (hj i hi)]
  grind[au]
 intro hn
 rw[bz st n λi hi=>(h i hi).2 (hn i hi)];exact au aaj
theorem Hk(st:Nat->Nat->σ)(n m:Nat)(c:Nat->Prop)
 (h: ∀lo hi,lo<hi->hi<=n->(c ((lo+hi) / 2)->body (st lo hi)=ad3 (.next (st ((lo+hi) / 2+1) hi)))/\(¬c ((lo+hi) / 2)->body (st lo hi)=ad3 (.next (st lo ((lo+hi) / 2)))))
 (h1: ∀i,i<m->c i) (h2: ∀i,m<=i->i<n-> ¬c i): ∀d lo hi,hi-lo<=d->lo<=m->m<=hi->hi<=n->aq body (st lo hi)=aq body (st m m)
 |0,lo,hi,hd,a,b,_=>by
  grind
 |d+1,lo,hi,hd,a,b,e=>by
  by_cases hl:lo<hi
  ·by_cases hc:c ((lo+hi) / 2)
   ·rw[aQ ((h lo hi hl e).1 hc)]
    refine Hk st n m c h h1 h2 d _ _ (by omega) ?_ b e;refine NE λhx=>?_
    exact h2 _ (by omega) (by omega) hc
   rw[aQ ((h lo hi hl e).2 hc)]
   refine Hk st n m c h h1 h2 d _ _ (by omega) a ?_ (by omega);refine NE λhx=>?_
   exact hc (h1 ((lo+hi) / 2) (by omega))
  grind
end
section
variable {α : Type} [Inhabited α]
theorem ar(l:List α)(n:Nat)(h:n<acI l):aF l (n:Int)=ad3 l[n]!:=by
 show l[n]? =ad3 l[n]!
 grind
theorem kT{l:List α}{i:Int}(h0:0<=i)(h:i<acI l):aF l i=ad3 l[i.toNat]!:=by
 grind[abr,ar]
theorem fI{β:Type}(l:List β)(n:Nat)(a:β):cQ l (n:Int) a=l.set n a:=rfl
theorem cw(l:List α)(n m:Nat)(a:α):(l.set n a)[m]! =if m=n/\n<(acI l)then a else l[m]!:=by
 grind
theorem aN{l:List α}{x:α}:x∈l↔ ∃i,i<acI l/\l[i]! =x:=by
 rw[List.mem_iff_getElem];constructor
 ·rintro⟨i,h,rfl⟩;exact⟨i,h,getElem!_pos l i h⟩
 grind
theorem aE{l:List α}{i:Nat}(h:i<acI l):l[i]!∈l:=aN.2 ⟨i,h,rfl⟩
theorem eE{l m:List α}{i:Nat}(h:i<acI l):(l++m)[i]! =l[i]!:=by
 grind
theorem tc{l m:List α}{i:Nat}(h:(acI l)<=i):(l++m)[i]! =m[i-(acI l)]!:=by
 grind
theorem xo{l:List α}{n i:Nat}(h:i<n):(l.take n)[i]! =l[i]!:=by
 grind
theorem Ad{l:List α}{n i:Nat}:(l.drop n)[i]! =l[n+i]!:=by simp
theorem ny{l m:List α}(hl:(acI l)=acI m)(h: ∀i,i<acI l->l[i]! =m[i]!):l=m:=by
 grind[List.ext_getElem]
theorem aak{l:List α}{i:Nat}(h:i<acI l):l=l.take i++l[i]!::l.drop (i+1):=by simp_all
end
theorem cM{α:Type}{l:List α}(h:(acI l)<=1048576):cN l=ad3 l:=by unfold cN;rw[AC h]
theorem bG{α:Type}{l m:List α}(h:(acI l)+acI m<=1048576):ba l m=ad3 (l++m):=by unfold ba;rw[AC h]
@[simp] theorem aj{α β:Type}(a:α)(f:α->Option β):(ad3 a).bind f=f a:=rfl
end Go.Proofs.YtkdikjnhkfffjaaGreat
namespace Go.Proofs.YtkdikjnhkfffjaaGreat
open Go.Vm Classical
theorem mr{n:Int}(h:B4 n):jG n=ad3 (n.natAbs:Int):=by
 unfold jG;simp[wi,wu]
 grind
theorem tf{n:Int}(h:B4 n):oi n=ad3 (n.natAbs:Int):=by
 unfold oi;simp[wu]
 grind
theorem uF(m n:Nat):sN m n=ad3 (IR m n:Int):=by
 unfold sN
 induction n using ac6 generalizing m with
 |ind n ih=>
  by_cases h0:n=0
  ·subst h0
   rw[abQ];exact au (by rfl)
  have e:wg ((m:Int),(n:Int))=ad3 (.next ((n:Int),((m%n:Nat):Int))):=by
   have h1:((n:Int) !=0)=ad5:=by simp;omega
   have h2:((n:Int)==0)=ad6:=by simp;omega
   simp only[wg,h1,h2,v6,ww,acm]
  rw[aQ e,ih _ (Nat.mod_lt _ (by omega)) n,abw m n,Nat.gcd_rec n m,abw]
theorem Ef(m n:Nat):Ab m n=ad3 (IR m n:Int):=by
 unfold Ab
 induction n using ac6 generalizing m with
 |ind n ih=>
  by_cases h0:n=0
  ·subst h0
   rw[abQ];exact au (by rfl)
  have e:A9 ((m:Int),(n:Int))=ad3 (.next ((n:Int),((m%n:Nat):Int))):=by
   have h1:ad7 (0<(n:Int))=ad5:=by simp;omega
   have h2:((n:Int)==0)=ad6:=by simp;omega
   simp only[A9,h1,h2,v6,ww,acm]
  rw[aQ e,ih _ (Nat.mod_lt _ (by omega)) n,abw m n,Nat.gcd_rec n m,abw]
def bo(r:Int×Int):Prop:=1<=r.2/\r.1≠ -9223372036854775808/\IR r.2.natAbs r.1.natAbs=1
abbrev jb(r:Int×Int):Prop:=B4 r.1/\B4 r.2
theorem cZ{r:Int×Int}(h:jb r):dE r=ad3 (if bo r then 0 else 8):=by
 obtain⟨a,b⟩:=r;obtain⟨ha,hb⟩:=h;unfold dE bo
 by_cases h1:b<1
 ·grind
 have e3:aa .u64 b=(b.natAbs:Int):=by rw[wu];omega
 simp[tf ha,e3,Ef];have hp:0<IR b.natAbs a.natAbs:=Nat.gcd_pos_of_pos_left _ (by omega)
 grind
theorem pA{r:Int×Int}(h:jb r):lX r=ad3 (if bo r then 0 else 8):=by
 obtain⟨a,b⟩:=r;obtain⟨ha,hb⟩:=h;unfold lX bo
 by_cases h1:b<1
 ·grind
 by_cases h2:a= -9223372036854775808
 ·grind
 have e3:aa .u64 b=(b.natAbs:Int):=by rw[wu];omega
 simp[mr ha,e3,uF]
 grind
theorem aal(x y:Int)(hx:U64 x)(hy:U64 y): ∃p q r s:Int,0<=p/\p<=18446744065119617025/\0<=q/\q<=18446744065119617025/\0<=r/\r<=18446744065119617025/\0<=s/\s<=18446744065119617025/\
 x / 4294967296*(y / 4294967296)=p/\x / 4294967296*(y%4294967296)=q/\x%4294967296*(y / 4294967296)=r/\x%4294967296*(y%4294967296)=s/\
 x*y=p*18446744073709551616+(q+r)*4294967296+s:=by
 have Mw:0<=x / 4294967296/\x / 4294967296<=4294967295:=by omega
 have N8:0<=x%4294967296/\x%4294967296<=4294967295:=by omega
 have hy1:0<=y / 4294967296/\y / 4294967296<=4294967295:=by omega
 have WC:0<=y%4294967296/\y%4294967296<=4294967295:=by omega
 have ex:x=x / 4294967296*4294967296+x%4294967296:=by omega
 have ey:y=y / 4294967296*4294967296+y%4294967296:=by omega
 generalize x / 4294967296=a at*;generalize x%4294967296=b at*;generalize y / 4294967296=c at*;generalize y%4294967296=d at*;have bd: ∀{u v:Int},0<=u/\u<=4294967295->0<=v/\v<=4294967295->0<=u*v/\u*v<=18446744065119617025:=by
  intro u v hu hv;refine⟨abF hu.1 hv.1,?_⟩
  calc u*v<=4294967295*4294967295:=aby hu.2 hv.2 hv.1 (by decide)
   _=_:=by decide
 refine⟨a*c,a*d,b*c,b*d,(bd Mw hy1).1,(bd Mw hy1).2,(bd Mw WC).1,(bd Mw WC).2,(bd N8 hy1).1,(bd N8 hy1).2,(bd N8 WC).1,(bd N8 WC).2,rfl,rfl,rfl,rfl,?_⟩
 grind
theorem Ae{x y:Int}(hx:U64 x)(hy:U64 y):fK x y=ad3 (x*y / 18446744073709551616,x*y%18446744073709551616):=by
 unfold fK;obtain⟨p,q,r,s,p0,p1,q0,q1,r0,r1,s0,s1,ep,eq,er,es,exy⟩:=aal x y hx hy;have key: ∀z:Int,rJ .u64 _ 4294967295=z%18446744073709551616%4294967296:=λz=>Tx (by constructor<;>omega)
 simp[ag8,Tx hx,Tx hy,wu,key,];omega
theorem Ty{x y:Int}(hx:U64 x)(hy:U64 y):u6 x y=ad3 (ad6,x*y / 18446744073709551616,x*y%18446744073709551616):=by
 unfold u6;obtain⟨p,q,r,s,p0,p1,q0,q1,r0,r1,s0,s1,ep,eq,er,es,exy⟩:=aal x y hx hy;have t1: ∀a:Int,0<=a->abK a 4294967296=a / 4294967296:=λa h=>abz h
 have t2: ∀a:Int,0<=a->Int.tmod a 4294967296=a%4294967296:=λa h=>Int.tmod_eq_emod_of_nonneg h
 simp[wu];rw[t1 x hx.1,t1 y hy.1,t2 x hx.1,t2 y hy.1];have f1:x / 4294967296%18446744073709551616=x / 4294967296:=by omega
 have f2:y / 4294967296%18446744073709551616=y / 4294967296:=by omega
 simp[f1,f2,];have g: ∀a:Int,abK _ 4294967296=a%18446744073709551616 / 4294967296:=λa=>t1 _ (by omega)
 have g2: ∀a:Int,Int.tmod _ 4294967296=a%18446744073709551616%4294967296:=λa=>t2 _ (by omega)
 simp[g,g2,];omega
abbrev B64(a:Bool×Int×Int):Prop:=U64 a.2.1/\U64 a.2.2
theorem DG{n:Int}(h:B4 n):U64 (n.natAbs:Int):=by omega
theorem DH{n:Int}(h:B4 n):(n.natAbs:Int)<=9223372036854775808:=by omega
theorem F5(a b:Int):((a.natAbs:Int)*(b.natAbs:Int))=((a*b).natAbs:Int):=by rw[Int.natAbs_mul];rfl
theorem xW{a b:Int}(ha:B4 a)(hb:B4 b):((a*b).natAbs:Int)<=85070591730234615865843651857942052864:=by
 rw[<-F5]
 calc (a.natAbs:Int)*(b.natAbs:Int)<=9223372036854775808*9223372036854775808:=aby (DH ha) (DH hb) (by omega) (by decide)
  _=_:=by decide
theorem Bp{a b:Int}(ha:B4 a)(hb:B4 b):
 mh a b=ad3 (ad7 (a*b<0),((a*b).natAbs:Int) / 18446744073709551616,((a*b).natAbs:Int)%18446744073709551616):=by
 unfold mh;simp[mr ha,mr hb,Ty (DG ha) (DG hb),F5];have hs:(a*b<0)↔((a<0/\0<b)\/(0<a/\b<0)):=by
  constructor
  ·intro h
   rcases abB a 0 with h1|h1|h1
   ·rcases abB b 0 with h2|h2|h2
    ·have:=Int.mul_pos_of_neg_of_neg h1 h2;omega
    ·subst h2;simp at h
    omega
   ·grind
   rcases abB b 0 with h2|h2|h2
   ·omega
   ·grind
   have:=Int.mul_pos h1 h2;omega
  rintro(⟨h1,h2⟩|⟨h1,h2⟩)
  ·exact abq h1 h2
  exact Int.mul_neg_of_pos_of_neg h1 h2
 have hd:ad7 (a*b<0)=ad7 ((a<0/\0<b)\/(0<a/\b<0)):=by simp[hs]
 rw[hd]
 by_cases h1:a<0
 ·have Y9: ¬0<a:=by omega
  have ayf:(a !=0)=ad5:=dV (by omega)
  by_cases h2:b<0
  ·grind
  by_cases h3:b=0
  ·grind
  have h3':0<b:=by omega
  grind
 by_cases h0:a=0
 ·grind
 have Y9:0<a:=by omega
 by_cases h2:b<0
 ·have h2':(b !=0)=ad5:=dV (by omega)
  simp[h1,h2,Y9,dV h0,h2']
 grind
theorem QS{a b:Int}(ha:B4 a)(hb:B4 b):
 vF a b=ad3 (!(ad7 (a<0)==ad7 (b<0)),((a*b).natAbs:Int) / 18446744073709551616,((a*b).natAbs:Int)%18446744073709551616):=by
 unfold vF;simp[tf ha,tf hb,Ae (DG ha) (DG hb),F5]
def mG(a b:Int):Int:=if a<b then -1 else if b<a then 1 else 0
theorem Eg(a b:Int):lN a b=ad3 (mG a b):=by
 unfold lN qD mG
 grind
theorem L5(a b:Int):kI a b=ad3 (mG a b):=by
 unfold kI pP mG
 grind
theorem nA(a b:Int):fL a b=ad3 (mG a b):=by
 unfold fL cmp_isNaN_int mG
 grind
theorem dU(a b:Int):(a<b/\mG a b= -1)\/(a=b/\mG a b=0)\/(b<a/\mG a b=1):=by unfold mG;omega
theorem OG(a b:Bool×Int×Int)(ha:B64 a)(hb:B64 b):uB a b=ad3 (mG (a.2.1*18446744073709551616+a.2.2) (b.2.1*18446744073709551616+b.2.2)):=by
 obtain⟨t,bh,bl⟩:=b;unfold uB mG
 grind
theorem Tz(a b:Bool×Int×Int)(ha:B64 a)(hb:B64 b):u4 a b=ad3 (mG (a.2.1*18446744073709551616+a.2.2) (b.2.1*18446744073709551616+b.2.2)):=by
 obtain⟨t,bh,bl⟩:=b;unfold u4;simp[L5,];unfold mG
 grind
theorem yU(a:Bool){n:Int}(h0:0<=n)(h:n<=85070591730234615865843651857942052864):B64 (a,n / 18446744073709551616,n%18446744073709551616):=by
 grind
theorem OH{n:Int}(h:(n.natAbs:Int)<=85070591730234615865843651857942052864):nO (ad7 (n<0),(n.natAbs:Int) / 18446744073709551616,(n.natAbs:Int)%18446744073709551616)=ad3 (mG n 0):=by
 unfold nO mG
 grind
def gY(a b:Int×Int):Int:=mG (a.1*b.2) (b.1*a.2)
theorem EY{a b:Int×Int}(ha:jb a)(hb:jb b):ot a b=ad3 (gY a b):=by
 unfold ot gY;have n1:=xW ha.1 hb.2;have n2:=xW hb.1 ha.2;simp[Bp ha.1 hb.2,Bp hb.1 ha.2,OH n1,OH n2];generalize a.1*b.2=x at*;generalize b.1*a.2=y at*;rw[OG _ _ (yU _ (by omega) n1) (yU _ (by omega) n2),OG _ _ (yU _ (by omega) n2) (yU _ (by omega) n1)];simp;rcases dU x 0 with⟨h1,e1⟩|⟨h1,e1⟩|⟨h1,e1⟩<;>rcases dU y 0 with⟨h2,e2⟩|⟨h2,e2⟩|⟨h2,e2⟩<;>rw[e1,e2]<;>simp<;>
  unfold mG<;>(repeat' split)<;>first|rfl|omega
theorem adi{a b:Int×Int}(ha:jb a)(hb:jb b):Ba a b=ad3 (if bo a/\bo b then 0 else 8):=by
 unfold Ba
 grind[cZ,aj]
theorem CT{a b:Int×Int}(ha:jb a)(hb:jb b):oj a b=ad3 (if bo a/\bo b then(gY a b,0)else(0,8)):=by
 unfold oj;rw[adi ha hb]
 by_cases h:bo a/\bo b
 ·rw[AC h,AC h]
  obtain⟨⟨a1,a2,a3⟩,b1,b2,b3⟩:=h;have n1:=xW ha.1 hb.2;have n2:=xW hb.1 ha.2;simp[Eg,QS ha.1 hb.2,QS hb.1 ha.2];rw[Tz _ _ (yU _ (by omega) n1) (yU _ (by omega) n2)];have ex:((a.1*b.2).natAbs:Int) / 18446744073709551616*18446744073709551616+((a.1*b.2).natAbs:Int)%18446744073709551616=((a.1*b.2).natAbs:Int):=by omega
  have ey:((b.1*a.2).natAbs:Int) / 18446744073709551616*18446744073709551616+((b.1*a.2).natAbs:Int)%18446744073709551616=((b.1*a.2).natAbs:Int):=by omega
  simp[ex,ey,];unfold gY;have s1:(a.1<0↔a.1*b.2<0):=by
   constructor
   ·intro h;exact abq h (by omega)
   intro h;rcases lt_or_ge a.1 0 with h1|h1
   ·exact h1
   have:=abF h1 (show 0<=b.2 by omega);omega
  have s2:(b.1<0↔b.1*a.2<0):=by
   constructor
   ·intro h;exact abq h (by omega)
   intro h;rcases lt_or_ge b.1 0 with h1|h1
   ·exact h1
   have:=abF h1 (show 0<=a.2 by omega);omega
  generalize a.1*b.2=x at*;generalize b.1*a.2=y at*
  by_cases h1:a.1<0<;>by_cases h2:b.1<0
  ·have h3:=s1.1 h1;have h4:=s2.1 h2
   have:aa .i64 (-mG (x.natAbs:Int) (y.natAbs:Int))=mG x y:=by rw[wi];unfold mG;(repeat' split)<;>omega
   simp[h1,h2,this]
  ·have h3:=s1.1 h1;have h4:=λh=>h2 (s2.2 h)
   have:mG a.1 b.1=mG x y:=by unfold mG;(repeat' split)<;>omega
   simp[h1,h2,this]
  ·have h3:=λh=>h1 (s1.2 h);have h4:=s2.1 h2
   have:mG a.1 b.1=mG x y:=by unfold mG;(repeat' split)<;>omega
   simp[h1,h2,this]
  have:mG (x.natAbs:Int) (y.natAbs:Int)=mG x y:=by unfold mG;(repeat' split)<;>omega
  simp[h1,h2,this]
 grind
abbrev Pt:=Int×Int×Int
def fM(p:Pt):Prop:=0<=p.1/\p.1<=65535/\ -1048576<=p.2.1/\p.2.1<=1048576/\ -1048576<=p.2.2/\p.2.2<=1048576
theorem lz(p:Pt):nM p=ad3 (if fM p then 0 else 8):=by
 unfold nM sx fM
 grind
theorem KE(p:Pt):yF p=ad3 (if fM p then 0 else 8):=by
 unfold yF fM
 grind
theorem DI{x y:Int}(hx:B4 x)(hy:B4 y): -85070591730234615865843651857942052864<=x*y/\x*y<=85070591730234615865843651857942052864:=by have:=xW hx hy;omega
theorem aeT{x y:Int}(hx:B4 x)(hy:B4 y):(x%18446744073709551616)*(y%18446744073709551616)=x*y+(if x<0 then y else 0)*18446744073709551616+(if y<0 then x else 0)*18446744073709551616+(if x<0/\y<0 then 340282366920938463463374607431768211456 else 0):=by
 by_cases h1:x<0<;>by_cases h2:y<0
 ·have e1:x%18446744073709551616=x+18446744073709551616:=by omega
  have e2:y%18446744073709551616=y+18446744073709551616:=by omega
  rw[e1,e2,AC h1,AC h2,AC ⟨h1,h2⟩];grind
 ·have e1:x%18446744073709551616=x+18446744073709551616:=by omega
  have e2:y%18446744073709551616=y:=by omega
  rw[e1,e2,AC h1,Do h2,Do (λh=>h2 h.2)];grind
 ·have e1:x%18446744073709551616=x:=by omega
  have e2:y%18446744073709551616=y+18446744073709551616:=by omega
  rw[e1,e2,Do h1,AC h2,Do (λh=>h1 h.1)];grind
 grind
theorem QT{a b:Int}(ha:0<=a)(hb:0<=b):uh a b 0=ad3 ((a+b)%18446744073709551616,(a+b) / 18446744073709551616):=by unfold uh;simp[ha,hb]
theorem aam{a b c d u v:Int}(ha:B4 a)(hb:B4 b):qp (a,b,c,d,0,u,v,0,0)=ad3 (.next (a,b,c,d,1,u,v,a*b / 18446744073709551616,a*b%18446744073709551616)):=by
 unfold qp;have hm:=Ae (x:=aa .u64 a) (y:=aa .u64 b) (by grind[wu]) (by grind[wu]);have Sn:=DI ha hb;have hu:=aeT ha hb;simp[hm,];simp[wu,]
 by_cases h1:a<0<;>by_cases h2:b<0
 all_goals
  simp[h1,h2,];rw[QT (by omega) (by omega)];simp[wi,];omega
theorem aan{a b c d u v h l:Int}(hc:B4 c)(hd:B4 d)(hl:U64 l)
 (_hh: -9223372036854775808<=h/\h<9223372036854775808) (hs: -170141183460469231731687303715884105728<=h*18446744073709551616+l+c*d/\h*18446744073709551616+l+c*d<170141183460469231731687303715884105728):
 qp (a,b,c,d,1,u,v,h,l)=ad3 (.next (a,b,c,d,2,u,v,(h*18446744073709551616+l+c*d) / 18446744073709551616,(h*18446744073709551616+l+c*d)%18446744073709551616)):=by
 unfold qp;have hm:=Ae (x:=aa .u64 c) (y:=aa .u64 d) (by grind[wu]) (by grind[wu]);have hu:=aeT hc hd;simp[hm,];simp[wu,hu]
 by_cases h1:c<0<;>by_cases h2:d<0
 all_goals
  simp[h1,h2,];rw[QT (by omega) (by omega)];simp[wi,];omega
theorem L6{a b c d:Int}(ha:B4 a)(hb:B4 b)(hc:B4 c)(hd:B4 d)(hs: -170141183460469231731687303715884105728<=a*b+c*d/\a*b+c*d<170141183460469231731687303715884105728):
 Bb (a,b,c,d)=ad3 ((a*b+c*d) / 18446744073709551616,(a*b+c*d)%18446744073709551616):=by
 unfold Bb;have Sn:=DI ha hb;have e:a*b / 18446744073709551616*18446744073709551616+a*b%18446744073709551616+c*d=a*b+c*d:=by omega
 rw[aQ (aam ha hb),aQ (aan hc hd (by omega) (by omega) (by rw[e];exact hs)),e];exact au rfl
def LC(p q:Pt)(t:Int×Int):Int:=(p.2.1-q.2.1)*t.2+(p.2.2-q.2.2)*t.1
def leads(p q:Pt)(t:Int×Int):Prop:=0<LC p q t\/(LC p q t=0/\(q.2.2<p.2.2\/(p.2.2=q.2.2/\p.1<q.1)))
def aao(p q:Pt)(t:Int×Int):Int:=if LC p q t<0 then -1 else if 0<LC p q t then 1 else if p.2.2<q.2.2 then -1 else if q.2.2<p.2.2 then 1 else mG q.1 p.1
theorem KF(p q:Pt)(t:Int×Int):0<aao p q t↔leads p q t:=by
 unfold aao leads
 by_cases h1:LC p q t<0
 ·omega
 by_cases h2:0<LC p q t
 ·omega
 rcases dU q.1 p.1 with⟨h,e⟩|⟨h,e⟩|⟨h,e⟩<;>rw[e]<;>omega
theorem DJ(a b:Int):xN [a,b]=ad3 (if a≠0 then a else b):=by
 unfold xN
 by_cases h1:a=0
 ·subst h1
  rw[aQ (y:=(0,[0,b],2,1)) (by rfl)]
  by_cases h2:b=0
  ·subst h2
   rw[aQ (by rfl)];exact au rfl
  refine(au (r:=b) ?_).trans (by simp)
  have e:zl (0,[0,b],2,1)=(bif b !=0 then ad3 _ else ad3 _):=rfl
  grind
 refine(au (r:=a) ?_).trans (by simp[h1])
 have e:zl (0,[a,b],WF [a,b].length,0)=(bif a !=0 then ad3 _ else ad3 _):=rfl
 grind
theorem aap{p q:Pt}{t:Int×Int}(hp:fM p)(hq:fM q)(ht:jb t):B4 (p.2.1-q.2.1)/\B4 (p.2.2-q.2.2)/\ -170141183460469231731687303715884105728<=LC p q t/\LC p q t<170141183460469231731687303715884105728:=by
 obtain⟨a1,a2,a3,a4,a5,a6⟩:=hp;obtain⟨b1,b2,b3,b4,b5,b6⟩:=hq;have h1:B4 (p.2.1-q.2.1):=by omega
 have h2:B4 (p.2.2-q.2.2):=by omega
 have k: ∀{x y:Int},-2097152<=x/\x<=2097152->B4 y-> -19342813113834066795298816<=x*y/\x*y<=19342813113834066795298816:=by
  intro x y hx hy;have:((x*y).natAbs:Int)<=2097152*9223372036854775808:=by rw[<-F5];exact aby (by omega) (DH hy) (by omega) (by decide)
  omega
 have k1:=k (x:=p.2.1-q.2.1) (by omega) ht.2;have k2:=k (x:=p.2.2-q.2.2) (by omega) ht.1;unfold LC;omega
theorem yV{p q:Pt}{t:Int×Int}(hp:fM p)(hq:fM q)(ht:jb t):oV p q t=ad3 (aao p q t):=by
 obtain⟨g1,g2,g3⟩:=aap hp hq ht;unfold oV;rw[fN g1,fN g2,L6 g1 ht.2 g2 ht.1 g3];simp[Eg,nA,DJ];rw[show(p.2.1-q.2.1)*t.2+(p.2.2-q.2.2)*t.1=LC p q t from rfl];unfold aao;generalize LC p q t=n at*
 by_cases h1:n<0
 ·grind
 by_cases h2:0<n
 ·grind
 unfold mG
 grind
theorem adj{x y:Int}(hx: -85070591730234615865843651857942052864<=x/\x<=85070591730234615865843651857942052864)(hy: -85070591730234615865843651857942052864<=y/\y<=85070591730234615865843651857942052864):
 Bi (ad7 (x<0),(x.natAbs:Int) / 18446744073709551616,(x.natAbs:Int)%18446744073709551616) (ad7 (y<0),(y.natAbs:Int) / 18446744073709551616,(y.natAbs:Int)%18446744073709551616)=
  ad3 (ad7 (x+y<0),((x+y).natAbs:Int) / 18446744073709551616,((x+y).natAbs:Int)%18446744073709551616):=by
 have n1:(x.natAbs:Int)<=85070591730234615865843651857942052864:=by omega
 have n2:(y.natAbs:Int)<=85070591730234615865843651857942052864:=by omega
 unfold Bi;rw[OG _ _ (yU _ (by omega) n1) (yU _ (by omega) n2)];have ex:((x.natAbs:Int) / 18446744073709551616)*18446744073709551616+(x.natAbs:Int)%18446744073709551616=(x.natAbs:Int):=by omega
 have ey:((y.natAbs:Int) / 18446744073709551616)*18446744073709551616+(y.natAbs:Int)%18446744073709551616=(y.natAbs:Int):=by omega
 simp only[ex,ey,aj];have same: ∀{X Y Z:Int},0<=X->0<=Y->X<=85070591730234615865843651857942052864->Y<=85070591730234615865843651857942052864->Z=X+Y-> ∀b:Bool,
  (bif ad7 (aa .u64 (X%18446744073709551616+Y%18446744073709551616)<X%18446744073709551616)then ad3 (b,aa .u64 (aa .u64 (X / 18446744073709551616+Y / 18446744073709551616)+1),aa .u64 (X%18446744073709551616+Y%18446744073709551616))
   else ad3 (b,aa .u64 (X / 18446744073709551616+Y / 18446744073709551616),aa .u64 (X%18446744073709551616+Y%18446744073709551616)))=ad3 (b,Z / 18446744073709551616,Z%18446744073709551616):=by
  intro X Y Z h1 h2 h3 h4 h5 b;subst h5;simp only[wu]
  by_cases h:(X%18446744073709551616+Y%18446744073709551616)%18446744073709551616<X%18446744073709551616
  ·simp only[h,decide_true,v6,abt,abD,true_and];constructor<;>omega
  simp only[h,decide_false,ww,abt,abD,true_and];constructor<;>omega
 have minus: ∀{X Y Z:Int} (b c:Bool),0<=X->0<=Y->X<=85070591730234615865843651857942052864->Y<=X->Z=X-Y->vM (b,X / 18446744073709551616,X%18446744073709551616) (c,Y / 18446744073709551616,Y%18446744073709551616)=ad3 (ad6,Z / 18446744073709551616,Z%18446744073709551616):=by
  intro X Y Z b c h1 h2 h3 h4 h5;subst h5;unfold vM;simp only[wu]
  by_cases h:X%18446744073709551616<Y%18446744073709551616
  ·simp only[h,decide_true,v6,abt,abD,true_and];constructor<;>omega
  simp only[h,decide_false,ww,abt,abD,true_and];constructor<;>omega
 by_cases h1:x<0<;>by_cases h2:y<0
 ·have h3:x+y<0:=by omega
  simp only[h1,h2,h3,decide_true,beq_self_eq_true,v6];exact same (by omega) (by omega) n1 n2 (by omega) ad5
 ·simp only[h1,h2,decide_true,decide_false,show(ad5==ad6)=ad6 from rfl,ww,v6]
  by_cases h3:(y.natAbs:Int)<=(x.natAbs:Int)
  ·have e:ad7 (0<=mG (x.natAbs:Int) (y.natAbs:Int))=ad5:=by
    rcases dU (x.natAbs:Int) (y.natAbs:Int)with⟨h,e⟩|⟨h,e⟩|⟨h,e⟩<;>rw[e]<;>first|rfl|omega
   rw[e,minus (Z:=((x+y).natAbs:Int)) _ _ (by omega) (by omega) n1 h3 (by omega)];simp only[v6,aj]
   by_cases h4:x+y=0
   ·rw[h4];rfl
   have h5:x+y<0:=by omega
   by_cases h6:0<((x+y).natAbs:Int) / 18446744073709551616
   ·simp[h5,h6]
   have h7:0<((x+y).natAbs:Int)%18446744073709551616:=by omega
   simp only[h5,h6,h7,decide_true,decide_false,ww]
  have e:ad7 (0<=mG (x.natAbs:Int) (y.natAbs:Int))=ad6:=by
   rcases dU (x.natAbs:Int) (y.natAbs:Int)with⟨h,e⟩|⟨h,e⟩|⟨h,e⟩<;>rw[e]<;>first|rfl|omega
  rw[e,minus (Z:=((x+y).natAbs:Int)) _ _ (by omega) (by omega) n2 (by omega) (by omega)];have h5: ¬(x+y<0):=by omega
  simp[h5]
 ·simp only[h1,h2,decide_true,decide_false,show(ad6==ad5)=ad6 from rfl,ww]
  by_cases h3:(y.natAbs:Int)<=(x.natAbs:Int)
  ·have e:ad7 (0<=mG (x.natAbs:Int) (y.natAbs:Int))=ad5:=by
    rcases dU (x.natAbs:Int) (y.natAbs:Int)with⟨h,e⟩|⟨h,e⟩|⟨h,e⟩<;>rw[e]<;>first|rfl|omega
   rw[e,minus (Z:=((x+y).natAbs:Int)) _ _ (by omega) (by omega) n1 h3 (by omega)];have h5: ¬(x+y<0):=by omega
   simp[h5]
  have e:ad7 (0<=mG (x.natAbs:Int) (y.natAbs:Int))=ad6:=by
   rcases dU (x.natAbs:Int) (y.natAbs:Int)with⟨h,e⟩|⟨h,e⟩|⟨h,e⟩<;>rw[e]<;>first|rfl|omega
  rw[e,minus (Z:=((x+y).natAbs:Int)) _ _ (by omega) (by omega) n2 (by omega) (by omega)];have h5:x+y<0:=by omega
  simp[h5]
 grind
theorem ag9{p q:Pt}{t:Int×Int}(hp:fM p)(hq:fM q)(ht:jb t):DD p q t=ad3 (mG (LC p q t) 0):=by
 obtain⟨g1,g2,g3⟩:=aap hp hq ht;unfold DD;rw[fN g1,fN g2,Bp g1 ht.2,Bp g2 ht.1];simp only[aj];rw[adj (DI g1 ht.2) (DI g2 ht.1)];simp only[aj];rw[show(p.2.1-q.2.1)*t.2+(p.2.2-q.2.2)*t.1=LC p q t from rfl];obtain⟨a1,a2,a3,a4,a5,a6⟩:=hp;obtain⟨b1,b2,b3,b4,b5,b6⟩:=hq;have k: ∀{x y:Int},-2097152<=x/\x<=2097152->B4 y-> -19342813113834066795298816<=x*y/\x*y<=19342813113834066795298816:=by
  intro x y hx hy;have:((x*y).natAbs:Int)<=2097152*9223372036854775808:=by rw[<-F5];exact aby (by omega) (DH hy) (by omega) (by decide)
  omega
 have k1:=k (x:=p.2.1-q.2.1) (by omega) ht.2;have k2:=k (x:=p.2.2-q.2.2) (by omega) ht.1;have:((LC p q t).natAbs:Int)<=85070591730234615865843651857942052864:=by unfold LC;omega
 rw[OH this];rfl
theorem CU{p q:Pt}{t:Int×Int}(hp:fM p)(hq:fM q)(ht:jb t):nI p q t=ad3 (ad7 (leads p q t)):=by
 unfold nI leads;rw[ag9 hp hq ht];simp;rcases dU _ 0 with⟨h,e⟩|⟨h,e⟩|⟨h,e⟩<;>rw[e]
 ·have h1: ¬(0<LC p q t):=by omega
  have h2: ¬(LC p q t=0):=by omega
  simp[h1,h2]
 ·grind
 simp[h]
theorem zu{p q:Pt}{t:Int×Int}(ht:jb t):uy p q t=ad3 (if fM p/\fM q/\bo t then(if p.1=q.1 then 2 else 0)else 8):=by
 unfold uy;simp[lz,cZ ht,]
 grind
theorem adk{n d:Int}(hn:B4 n)(hd:B4 d):Bc n d=o5 n d:=by
 unfold Bc o5
 by_cases h0:d=0
 ·subst h0;rfl
 simp only[tf hn,tf hd,mr hn,mr hd,aj,Ef,uF]
 have e1:((IR n.natAbs d.natAbs:Int)==0)=ad6:=by simp;omega
 unfold CK uC
 by_cases h3:n=0
 ·subst h3
  have z: ∀k:Int,aa .u64 (abK (((0:Int).natAbs:Nat):Int) k)=0:=λk=>by rw[show(((0:Int).natAbs:Nat):Int)=0 from rfl,Int.zero_tdiv];rfl
  have z2:aa .i64 0=0:=rfl;have z3:aa .i64 (0-0)=0:=rfl;simp only[z,z2,z3,];cases(!(ad6==ad7 (d<0)))<;>simp
 grind
noncomputable def met(p q:Pt):Int×Int:=((o5 (p.2.1-q.2.1) (q.2.2-p.2.2)).getD ((0,0),0)).1
theorem TA{n d:Int}(hn: -2097152<=n/\n<=2097152)(hd: -2097152<=d/\d<=2097152)(h0:d≠0): ∃r,o5 n d=ad3 (r,0)/\bo r/\jb r/\r.1*d=n*r.2:=by
 have hn':B4 n:=by omega
 have hd':B4 d:=by omega
 unfold o5;have e0:(d==0)=ad6:=by simpa using h0
 have hp:0<IR n.natAbs d.natAbs:=Nat.gcd_pos_of_pos_right _ (by omega);have e1:((IR n.natAbs d.natAbs:Int)==0)=ad6:=by simp;omega
 simp only[e0,mr hn',mr hd',aj,uF,e1];have q1:abK (n.natAbs:Int) (IR n.natAbs d.natAbs:Int)=((n.natAbs / IR n.natAbs d.natAbs:Nat):Int):=by rfl
 have q2:abK (d.natAbs:Int) (IR n.natAbs d.natAbs:Int)=((d.natAbs / IR n.natAbs d.natAbs:Nat):Int):=by rfl
 rw[q1,q2];have l1:n.natAbs / IR n.natAbs d.natAbs<=2097152:=acG (aci _ _) (by omega);have l2:d.natAbs / IR n.natAbs d.natAbs<=2097152:=acG (aci _ _) (by omega);have l3:=Nat.div_pos (Nat.le_of_dvd (by omega) (abC _ _)) hp;have co:IR (d.natAbs / IR n.natAbs d.natAbs) (n.natAbs / IR n.natAbs d.natAbs)=1:=by
  grind[abw,Nat.gcd_div,abU,abC,Nat.div_self]
 have v1:n.natAbs=IR n.natAbs d.natAbs*(n.natAbs / IR n.natAbs d.natAbs):=(abN (abU _ _)).symm;have v2:d.natAbs=IR n.natAbs d.natAbs*(d.natAbs / IR n.natAbs d.natAbs):=(abN (abC _ _)).symm;have val:(n.natAbs:Int)*((d.natAbs / IR n.natAbs d.natAbs:Nat):Int)=(d.natAbs:Int)*((n.natAbs / IR n.natAbs d.natAbs:Nat):Int):=by
  generalize n.natAbs / IR n.natAbs d.natAbs=a at*;generalize d.natAbs / IR n.natAbs d.natAbs=b at*;generalize IR n.natAbs d.natAbs=g at*;rw[v1,v2,ack,ack,acF,acF,Int.mul_comm _ (b:Int)]
 generalize n.natAbs / IR n.natAbs d.natAbs=a at*;generalize d.natAbs / IR n.natAbs d.natAbs=b at*;have w1:aa .u64 (a:Int)=a:=by rw[wu];omega
 have w2:aa .u64 (b:Int)=b:=by rw[wu];omega
 have made: ∀s:Bool,uC s (ad6,0,(a:Int)) (ad6,0,(b:Int))=ad3 ((if s=ad5 then -(a:Int)else a,(b:Int)),0):=by
  unfold uC;have v1:aa .i64 (a:Int)=a:=by rw[wi];omega
  have v2:aa .i64 (b:Int)=b:=by rw[wi];omega
  have v3:aa .i64 (0- (a:Int))= -(a:Int):=by rw[wi];omega
  grind
 have fin: ∀s:Bool,(if s=ad5 then -(a:Int)else a)*d=n*b-> ∃r,(ad3 ((if s=ad5 then -(a:Int)else a,(b:Int)),(0:Int)):Option _)=ad3 (r,0)/\bo r/\jb r/\r.1*d=n*r.2:=by
  intro s hv;refine⟨_,rfl,?_,?_,hv⟩
  ·unfold bo
   dsimp only;refine⟨by omega,?_,?_⟩
   ·cases s
    ·simp only[Bool.false_eq_true,];omega
    simp;omega
   rw[show(if s=ad5 then -(a:Int)else(a:Int)).natAbs=a by cases s<;>simp,show((b:Int)).natAbs=b by omega];exact co
  omega
 simp only[w1,w2,made,]
 by_cases h1:(!(ad7 (n<0)==ad7 (d<0)))=ad5
 ·rw[h1]
  refine fin _ ?_
  grind
 rw[abV]at h1;rw[h1]
 refine fin ad6 ?_
 grind
theorem EZ{p q:Pt}(hp:fM p)(hq:fM q)(h:p.2.2≠q.2.2):o5 (p.2.1-q.2.1) (q.2.2-p.2.2)=ad3 (met p q,0)/\bo (met p q)/\jb (met p q)/\(met p q).1*(q.2.2-p.2.2)=(p.2.1-q.2.1)*(met p q).2:=by
 obtain⟨a1,a2,a3,a4,a5,a6⟩:=hp;obtain⟨b1,b2,b3,b4,b5,b6⟩:=hq;obtain⟨r,h1,h2,h3⟩:=TA (n:=p.2.1-q.2.1) (d:=q.2.2-p.2.2) (by omega) (by omega) (by omega);have:met p q=r:=by unfold met;rw[h1];rfl
 grind
theorem M1{p q:Pt}(hp:fM p)(hq:fM q):aa .i64 (p.2.1-q.2.1)=p.2.1-q.2.1/\aa .i64 (q.2.2-p.2.2)=q.2.2-p.2.2/\B4 (p.2.1-q.2.1)/\B4 (q.2.2-p.2.2):=by
 obtain⟨a1,a2,a3,a4,a5,a6⟩:=hp;obtain⟨b1,b2,b3,b4,b5,b6⟩:=hq
 grind[fN]
noncomputable def jl(h l:Pt)(t:Int×Int):(Int×Int)×Bool:=if leads l h t then(t,ad5)else if h.2.2<l.2.2 then(met h l,ad5)else((0,0),ad6)
theorem ag'{p q:Pt}(hp:fM p)(hq:fM q)(h:p.2.2≠q.2.2):DE p q=ad3 (met p q):=by
 obtain⟨w1,w2,_,_⟩:=M1 hp hq;unfold DE
 grind[EZ]
theorem TB{h l:Pt}{t:Int×Int}(hh:fM h)(hl:fM l)(ht:jb t):vd h l t=ad3 (jl h l t):=by
 unfold vd jl;rw[CU hl hh ht];simp
 grind[ag']
theorem aaq:bo (0,1):=by unfold bo;decide
theorem IL{h l:Pt}{t:Int×Int}(ht:jb t):
 wV h l t=ad3 (if fM h/\fM l/\bo t/\h.1≠l.1 then((jl h l t).1,(jl h l t).2,0)else((0,0),ad6,if fM h/\fM l/\bo t then 2 else 8)):=by
 unfold wV;rw[zu ht]
 by_cases h1:fM h/\fM l/\bo t
 ·rw[AC h1]
  by_cases h2:h.1=l.1
  ·simp[h1,h2]
  obtain⟨hh,hl,hr⟩:=h1
  rw[Do h2,AC ⟨hh,hl,hr,h2⟩];simp[yV hl hh ht];unfold jl
  by_cases h3:leads l h t
  ·have:ad7 (0<aao l h t)=ad5:=by simpa using(KF l h t).2 h3
   rw[this];simp[h3]
  have:=decide_eq_false λk=>h3 ((KF l h t).1 k)
  rw[this,Do h3]
  by_cases h4:h.2.2<l.2.2
  ·have e:ad7 (l.2.2<=h.2.2)=ad6:=by simp;omega
   rw[e,AC h4];unfold CL;obtain⟨w1,w2,i1,i2⟩:=M1 hh hl;have e2:(h.2.2==l.2.2)=ad6:=by simp;omega
   rw[zu (by constructor<;>constructor<;>decide),AC ⟨hh,hl,aaq⟩,Do h2];simp only[e2,w1,w2,adk i1 i2,(EZ hh hl (by omega)).1];rfl
  have e:ad7 (l.2.2<=h.2.2)=ad5:=by simp;omega
  rw[e,Do h4];rfl
 grind
theorem F6{h l:Pt}{t:Int×Int}(hh:fM h)(hl:fM l)(ht:jb t)(hr:bo t)(h2:(jl h l t).2=ad5):bo (jl h l t).1/\jb (jl h l t).1:=by
 unfold jl at*
 by_cases h3:leads l h t
 ·grind
 rw[Do h3]at h2 ⊢
 by_cases h4:h.2.2<l.2.2
 ·rw[AC h4];have:=(EZ hh hl (by omega)).2;exact⟨this.1,this.2.1⟩
 grind
theorem TC: ∀(n:Nat) (l:List Nat),l.Nodup->(∀x∈l,x<n)->acI l<=n
 |0,l,_,h=>by
  cases l with
  |nil=>simp
  |cons a l=>exact absurd (h a (by simp)) (by omega)
 |n+1,l,hd,h=>by
  have h1:=TC n (l.filter (λx=>x≠n)) (hd.filter _) (by
   grind)
  have h2:(acI l)<=(l.filter (λx=>x≠n)).length+1:=by
   induction l with
   |nil=>simp
   |cons a l ih=>
    rw[abv]at hd
    by_cases ha:a=n
    ·subst ha
     have e:l.filter (λx=>decide (x≠a))=l:=by rw[List.filter_eq_self];intro x hx;simp;rintro rfl;exact hd.1 hx
     rw[List.filter_cons_of_neg (by simp),e];simp
    grind
  omega
theorem Ij{n:Nat}{l:List Nat}(hd:l.Nodup)(h: ∀x∈l,x<n)(hn:n<=acI l): ∀x,x<n->x∈l:=by
 intro x hx;refine NE λhc=>?_
 have:=TC n _ (by rw[abv];exact⟨hc,hd⟩) (by
  intro y hy;rcases List.mem_cons.1 hy with rfl|hy
  ·exact hx
  exact h y hy)
 grind
def eu(l:List Pt):Prop:= ∀i,i+1<acI l->(l[i]!).1<(l[i+1]!).1
def aR(l:List Pt):Prop:=acI l<=64/\(∀p∈l,fM p)/\eu l
noncomputable def jS(l:List Pt):Int:=if 64<(acI l)then 4 else if¬(∀p∈l,fM p)then 8 else if¬eu l then 32 else 0
theorem dM{l:List Pt}:jS l=0↔aR l:=by
 unfold jS aR
 grind
theorem aM{n:Nat}(h:n<1000000000):aa .i64 ((n:Int)+1)=((n+1:Nat):Int):=by rw[wi];omega
theorem vt{n:Nat}(h:n<1000000000)(h1:1<=n):aa .i64 ((n:Int)-1)=((n-1:Nat):Int):=by rw[wi];omega
theorem aK(n:Nat):WF n=(n:Int):=rfl
theorem QU(l:List Pt)(h:(acI l)<=64):aq kN (1,l)=ad3 (.done (if eu l then 0 else 32)):=by
 by_cases hl:(acI l)<=1
 ·have:eu l:=λi hi=>by omega
  rw[AC this];refine au ?_;unfold kN
  grind
 have key:=eo (body:=kN) (λi=>(((i+1:Nat):Int),l)) (acI l-1) (λi=>(l[i+1]!).1<=(l[i]!).1) (r:= .done 32) (e:= .done 0) (by
  intro i hi;have e1:ad7 (((i+1:Nat):Int)<((acI l):Int))=ad5:=by simp;omega
  have e2:aa .i64 (((i+1:Nat):Int)-1)=(i:Int):=by rw[wi];omega
  have hb:kN (((i+1:Nat):Int),l)=bif ad7 ((l[i+1]!).1<=(l[i]!).1)then ad3 (.done (.done 32))else ad3 (.next (((i+1+1:Nat):Int),l)):=by unfold kN;simp (disch:=omega) only[aK,e1,v6,e2,ar,aj,aM]
  grind) (by
  unfold kN
  grind)
 by_cases hs:eu l
 ·rw[AC hs]
  refine key.2 λi hi=>?_
  have:=hs i (by omega);omega
 rw[Do hs]
 unfold eu at hs
 grind
theorem CV(f:Field):vK f=ad3 (jS f.am):=by
 unfold vK jS;rw[aK]
 by_cases h:64<acI f.am
 ·grind
 have:ad7 ((64:Int)<((acI f.am):Int))=ad6:=by simp;omega
 rw[this,Do h];generalize f.am=l at*;have key:=eo (body:=oY) (λi=>((i:Int),l)) (acI l) (λi=> ¬fM l[i]!) (r:=8) (e:=if eu l then 0 else 32) (by
  intro i hi;have e1:ad7 ((i:Int)<((acI l):Int))=ad5:=by simp;omega
  have hb:oY ((i:Int),l)=bif(if fM l[i]! then(0:Int)else 8) !=0 then ad3 (.done 8)else ad3 (.next (((i+1:Nat):Int),l)):=by unfold oY;simp (disch:=omega) only[aK,e1,v6,ar,aj,KE,aM]
  grind) (by
  unfold oY;simp_all[QU])
 by_cases hp: ∀p∈l,fM p
 ·grind
 obtain⟨p,hp⟩:=abL.1 hp
 obtain⟨hm,h2⟩:=abT.1 hp;obtain⟨i,hi,rfl⟩:=aN.1 hm
 grind
theorem QV(l:List Pt)(h:(acI l)<=64):aq kH (l,((acI l):Int),0,l)=ad3 (.done (if eu l then 0 else 32)):=by
 have key:=eo (body:=kH) (λi=>(l,((acI l):Int),(i:Int),l)) (acI l) (λi=>0<i/\(l[i]!).1<=(l[i-1]!).1) (r:= .done 32) (e:= .done 0) (by
  intro i hi;have e1:ad7 ((i:Int)<((acI l):Int))=ad5:=by simp;omega
  by_cases h0:0<i
  ·have e3:ad7 ((0:Int)<(i:Int))=ad5:=by simp;omega
   have hb:kH (l,((acI l):Int),(i:Int),l)=bif ad7 ((l[i]!).1<=(l[i-1]!).1)then ad3 (.done (.done 32))else ad3 (.next (l,((acI l):Int),((i+1:Nat):Int),l)):=by unfold kH;simp (disch:=omega) only[e1,e3,v6,ar,vt (by omega) h0,aj,aM]
   grind
  ·have e3:ad7 ((0:Int)<(i:Int))=ad6:=by simp;omega
   constructor
   ·omega
   intro _
   unfold kH;simp (disch:=omega) only[e1,e3,v6,ww,ar,aj,aM]) (by
  unfold kH;simp)
 by_cases hs:eu l
 ·rw[AC hs]
  refine key.2 λi hi=>?_
  rintro⟨h0,h1⟩;have:=hs (i-1) (by omega)
  grind
 rw[Do hs]
 unfold eu at hs
 grind
theorem eW(f:Field):cU f=ad3 (jS f.am):=by
 unfold cU jS;rw[aK]
 by_cases h:64<acI f.am
 ·grind
 have:ad7 ((64:Int)<((acI f.am):Int))=ad6:=by simp;omega
 rw[this,Do h];generalize f.am=l at*;have key:=eo (body:=oT) (λi=>(l,((acI l):Int),(i:Int),l)) (acI l) (λi=> ¬fM l[i]!) (r:=8) (e:=if eu l then 0 else 32) (by
  intro i hi;have e1:ad7 ((i:Int)<((acI l):Int))=ad5:=by simp;omega
  have hb:oT (l,((acI l):Int),(i:Int),l)=bif(if fM l[i]! then(0:Int)else 8) !=0 then ad3 (.done (if fM l[i]! then(0:Int)else 8))else ad3 (.next (l,((acI l):Int),((i+1:Nat):Int),l)):=by unfold oT;simp (disch:=omega) only[e1,v6,ar,aj,lz,aM]
  grind) (by
  unfold oT;simp_all[QV])
 by_cases hp: ∀p∈l,fM p
 ·grind
 obtain⟨p,hp⟩:=abL.1 hp
 obtain⟨hm,h2⟩:=abT.1 hp;obtain⟨i,hi,rfl⟩:=aN.1 hm
 grind
theorem fD{l:List Pt}(h:eu l){i j:Nat}(p8:i<j)(hj:j<acI l):(l[i]!).1<(l[j]!).1:=by
 induction j with
 |zero=>omega
 |succ j ih=>
  have h1:=h j hj
  grind
theorem gT{l:List Pt}(h:eu l){i j:Nat}(hi:i<acI l)(hj:j<acI l)(he:(l[i]!).1=(l[j]!).1):i=j:=by
 rcases Nat.lt_trichotomy i j with h1|h1|h1
 ·have:=fD h h1 hj;omega
 ·exact h1
 have:=fD h h1 hi;omega
theorem Ik(l:List Pt)(id:Int)(hl:(acI l)<=1000000):(∀k,k<acI l->(l[k]!).1=id->(∀j,j<k->(l[j]!).1≠id)->iP ⟨l⟩ id=ad3 (k:Int))/\((∀k,k<acI l->(l[k]!).1≠id)->iP ⟨l⟩ id=ad3 (-1)):=by
 refine pz (λi=>(id,(i:Int),l)) (acI l) (λi=>(l[i]!).1=id) (λi=>(i:Int)) (λi hi=>?_) ?_
 ·have e1:ad7 ((i:Int)<((acI l):Int))=ad5:=by simp;omega
  have hb:yI (id,(i:Int),l)=bif(l[i]!).1==id then ad3 (.done (i:Int))else ad3 (.next (id,((i+1:Nat):Int),l)):=by unfold yI;simp (disch:=omega) only[aK,e1,v6,ar l i hi,aj,aM]
  grind
 unfold yI
 simp
theorem M4{l:List Pt}(hs:eu l)(hl:(acI l)<=1000000){k:Nat}(hk:k<acI l){id:Int}(he:(l[k]!).1=id):iP ⟨l⟩ id=ad3 (k:Int):=by
 refine(Ik l id hl).1 k hk he λj hj hc=>?_
 have:=fD hs hj hk;omega
theorem adl{l:List Pt}(hl:(acI l)<=1000000){id:Int}(h: ∀k,k<acI l->(l[k]!).1≠id):iP ⟨l⟩ id=ad3 (-1):=(Ik l id hl).2 h
theorem QW(f:Nat->Int)(id:Int): ∀(n:Nat),(∀i j,i<j->j<n->f i<f j)-> ∃m,m<=n/\(∀i,i<m->f i<id)/\(∀i,m<=i->i<n->id<=f i)
 |0,_=>⟨0,ac3 _,λi h=>by omega,λi _ h=>by omega⟩
 |n+1,h=>by
  obtain⟨m,h1,h2,h3⟩:=QW f id n λi j a b=>h i j a (by omega)
  by_cases hm:m=n
  ·by_cases hf:f n<id
   ·refine⟨n+1,ac3 _,λi hi=>?_,λi a b=>by omega⟩
    grind
   refine⟨n,by omega,λi hi=>h2 i (by omega),λi a b=>?_⟩
   grind
  refine⟨m,by omega,h2,λi a b=>?_⟩
  grind
theorem bJ{α:Type}[Inhabited α]{l:List α}:l.Nodup↔ ∀i j,i<j->j<acI l->l[i]!≠l[j]!:=by
 grind[List.pairwise_iff_getElem]
theorem cS{α:Type}[Inhabited α]{l:List α}{k:Nat}{x:α}:x∈l.take k↔ ∃i,i<k/\i<acI l/\l[i]! =x:=by
 rw[aN];constructor
 ·grind
 rintro⟨i,h1,h2,rfl⟩
 exact⟨i,by grind,xo h1⟩
theorem da{α:Type}[Inhabited α]{l:List α}{k:Nat}(h:k<acI l):l.take (k+1)=l.take k++[l[k]!]:=by simp_all
def marks(l:List Bool):List Int->List Bool
 | []=>l
 |x::r=>marks (cQ l x ad5) r
theorem pY: ∀(r:List Int) (l:List Bool),(marks l r).length=acI l
 | [],_=>rfl
 |x::r,l=>by rw[marks,pY r,Cs]
theorem E0: ∀(r:List Int) (l:List Bool) (x:Int),marks l (r++[x])=cQ (marks l r) x ad5
 | [],_,_=>rfl
 |y::r,l,x=>by show marks _ (r++[x])=_;rw[E0 r];rfl
theorem rF: ∀(r:List Int) (l:List Bool) (i:Nat),(∀x∈r,0<=x)->i<acI l->(marks l r)[i]! =(l[i]!||ad7 ((i:Int)∈r))
 | [],l,i,_,_=>by simp[marks]
 |x::r,l,i,h,hi=>by
  rw[marks,rF r _ i (λy hy=>h y (by simp[hy])) (by rw[Cs];exact hi)];obtain⟨k,rfl⟩:=abr (h x (by simp));rw[fI,cw]
  grind
theorem KG(l:List Bool)(h:(acI l)<=1000000):fF l ad6=ad3 (ad7 (ad6∈l)):=by
 unfold fF sB;have key:=pz (body:=jf) (λi=>(l,ad6,((acI l):Int),(i:Int))) (acI l) (λi=>l[i]! =ad6) (λi=>(i:Int)) (e:= -1) (λi hi=>by
  have e1:ad7 ((i:Int)<((acI l):Int))=ad5:=by simp;omega
  have hb:jf (l,ad6,((acI l):Int),(i:Int))=bif ad6==l[i]! then ad3 (.done (i:Int))else ad3 (.next (l,ad6,((acI l):Int),((i+1:Nat):Int))):=by unfold jf;simp (disch:=omega) only[e1,v6,ar l i hi,aj,aM]
  constructor
  ·intro hc;rw[hb,hc];rfl
  ·intro hc
   have:l[i]! =ad5:=by simpa using hc
   rw[hb,this];rfl) (by
  unfold jf;simp)
 rw[aK]
 by_cases hx:ad6∈l
 ·obtain⟨i,hi,he⟩:=aN.1 hx
  obtain⟨k,h1,h2,h3⟩:=least (c:=λi=>l[i]! =ad6) ⟨i,hi,he⟩;have:=key.1 k h1 h2 h3;rw[show((0:Nat):Int)=0 from rfl]at this;rw[this];have e:ad7 ((0:Int)<=(k:Int))=ad5:=by simp
  simp[hx]
 grind
structure iE(s:bF):Prop where
 n1:1<=acI s.ay
 n2:(acI s.ay)<=200
 ul:(acI s.be)=acI s.ay
 fr: ∀x∈s.bi,0<=x/\x<acI s.ay
 fd:s.bi.Nodup
 uf: ∀i,i<acI s.ay->(s.be[i]! =ad5↔(i:Int)∉s.bi)
 us: ∀i,i<acI s.ay->0<=s.ay[i]!/\s.ay[i]!<=1000000/\(s.be[i]! =ad5->1<=s.ay[i]!)
theorem TD(ay:List Int)(be:List Bool)(fr:List Int)(h1:(acI ay)<=200)(h2:(acI be)=acI ay):
 aq ja (ay,((acI ay):Int),0,ay,be,fr)=ad3 (.done (if∀i,i<acI ay->0<=ay[i]!/\ay[i]!<=1000000/\(be[i]! =ad5->1<=ay[i]!)then 0 else 8)):=by
 have key:=eo (body:=ja) (λi=>(ay,((acI ay):Int),(i:Int),ay,be,fr)) (acI ay) (λi=> ¬(0<=ay[i]!/\ay[i]!<=1000000/\(be[i]! =ad5->1<=ay[i]!))) (r:= .done 8) (e:= .done 0) (λi hi=>by
  have e1:ad7 ((i:Int)<((acI ay):Int))=ad5:=by simp;omega
  have hb:ja (ay,((acI ay):Int),(i:Int),ay,be,fr)=bif ad7 (ay[i]!<0)then ad3 (.done (.done 8))else bif ad7 (1000000<ay[i]!)then ad3 (.done (.done 8))else bif ay[i]! ==0 then(bif be[i]! then ad3 (.done (.done 8))else ad3 (.next (ay,((acI ay):Int),((i+1:Nat):Int),ay,be,fr)))else ad3 (.next (ay,((acI ay):Int),((i+1:Nat):Int),ay,be,fr)):=by unfold ja;simp (disch:=omega) only[e1,v6,ar,aj,aM]
  rw[hb];generalize ay[i]! =u at*
  by_cases a1:u<0
  ·simp[a1];omega
  ·by_cases a2:1000000<u
   ·simp[a2];omega
   by_cases a3:u=0
   ·subst a3
    cases be[i]!<;>simp
   have a4:1<=u:=by omega
   simp[a1,a2,jA a3,a4,]) (by
  unfold ja;simp)
 grind
theorem zw(s:bF)(hf:(acI s.bi)<=1000000):uw s=ad3 (if iE s then 0 else 8):=by
 obtain⟨ay,be,fr⟩:=s;dsimp only at hf;unfold uw;simp[]
 by_cases a1:(acI ay)<1
 ·have e:ad7 (((acI ay):Int)<1)=ad5:=by simp;omega
  rw[e,Do (λh=>by have:=h.n1;grind)];rfl
 have e1:ad7 (((acI ay):Int)<1)=ad6:=by simp;omega
 by_cases a2:200<acI ay
 ·have e:ad7 (200<((acI ay):Int))=ad5:=by simp;omega
  rw[e1,e,Do (λh=>by have:=h.n2;grind)];rfl
 have e2:ad7 (200<((acI ay):Int))=ad6:=by simp;omega
 by_cases a3:(acI be)=acI ay
 case neg=>
  have e:(((acI be):Int) !=((acI ay):Int))=ad5:=by simp;omega
  rw[e1,e2,e,Do (λh=>a3 h.ul)];rfl
 have e3:(((acI be):Int) !=((acI ay):Int))=ad6:=by simp;omega
 simp (disch:=omega) only[e1,e2,e3,ww,cM,aj];have M5:=TD ay be fr (by omega) a3;have key:=eo (body:=u0 be) (λk=>(fr,((acI fr):Int),(k:Int),ay,be,fr,((acI ay):Int),marks be (fr.take k))) (acI fr)
  (λk=>fr[k]!<0\/((acI ay):Int)<=fr[k]!\/(marks be (fr.take k))[(fr[k]!).toNat]! =ad5) (r:=8)
  (e:=if ad6∈marks be fr then 8 else if∀i,i<acI ay->0<=ay[i]!/\ay[i]!<=1000000/\(be[i]! =ad5->1<=ay[i]!)then 0 else 8) (λk hk=>by
   have f1:ad7 ((k:Int)<((acI fr):Int))=ad5:=by simp;omega
   have f2:((marks be (fr.take k)).length==acI be)=ad5:=by rw[pY];simp
   have f3:ad7 ((0:Int)<=(k:Int))=ad5:=by simp
   have f4: ∀x:Int,((cQ (marks be (fr.take k)) x ad5).length==(marks be (fr.take k)).length)=ad5:=by simp
   have f5:marks be (fr.take (k+1))=cQ (marks be (fr.take k)) fr[k]! ad5:=by rw[da hk,E0]
   unfold u0;simp (disch:=omega) only[f1,f2,f3,f4,v6,beq_self_eq_true,ar fr k hk,aj,aM,f5];clear f5;generalize fr[k]! =x
   by_cases b1:x<0
   ·simp[b1]
   ·by_cases b2:((acI ay):Int)<=x
    ·simp[b1,b2]
    simp
    grind[kT,pY,aj]) (by
   have f1:ad7 (((acI fr):Int)<((acI fr):Int))=ad6:=by simp
   unfold u0;simp;rw[KG _ (by rw[pY];omega)];have f2:((marks be fr).length==acI be)=ad5:=by rw[pY];simp
   grind)
 have h0:marks be (fr.take 0)=be:=rfl;rw[show((0:Nat):Int)=0 from rfl,h0]at key
 by_cases bad: ∃k,k<acI fr/\(fr[k]!<0\/((acI ay):Int)<=fr[k]!\/(marks be (fr.take k))[(fr[k]!).toNat]! =ad5)
 ·rw[key.1 bad,Do]
  intro ok;obtain⟨k,hk,hb⟩:=bad;have hr:=ok.fr fr[k]! (aE hk);dsimp only at hr;rcases hb with hb|hb|hb
  ·omega
  ·omega
  rw[rF _ _ _ (λx hx=>(ok.fr x (aaQ hx)).1) (by omega)]at hb
  have hi:((fr[k]!).toNat:Int)=fr[k]!:=by omega
  rw[hi,Bool.or_eq_true]at hb;rcases hb with hb|hb
  ·have:=(ok.uf (fr[k]!).toNat (by show _<acI ay;omega)).1 hb
   grind
  have hm:fr[k]!∈fr.take k:=by simpa using hb
  obtain⟨j,h1,h2,h3⟩:=cS.1 hm;exact bJ.1 ok.fd j k h1 hk h3
 have aar: ∀k,k<acI fr->0<=fr[k]!/\fr[k]!<acI ay/\(marks be (fr.take k))[(fr[k]!).toNat]! =ad6:=by
  grind
 rw[key.2 λk hk hb=>bad ⟨k,hk,hb⟩];have Vg: ∀x∈fr,0<=x/\x<((acI ay):Int):=by
  intro x hx;obtain⟨k,hk,rfl⟩:=aN.1 hx
  grind
 have g2: ∀k,k<acI fr->be[(fr[k]!).toNat]! =ad6/\fr[k]!∉fr.take k:=by
  intro k hk;obtain⟨c1,c2,c3⟩:=aar k hk;rw[rF _ _ _ (λx hx=>(Vg x (aaQ hx)).1) (by omega),show((fr[k]!).toNat:Int)=fr[k]! by omega,abM]at c3
  grind
 have nd:=bJ.2 λi j p8 hj he=>(g2 j hj).2 (cS.2 ⟨i,p8,by omega,he⟩)
 by_cases hx:ad6∈marks be fr
 ·rw[AC hx,Do]
  intro ok;obtain⟨i,hi,he⟩:=aN.1 hx;rw[pY]at hi;rw[rF _ _ _ (λx hx=>(Vg x hx).1) hi,abM]at he;have h3:(i:Int)∉fr:=by simpa using he.2
  have:=(ok.uf i (by show _<acI ay;omega)).2 h3;rw[he.1]at this;cases this
 rw[Do hx]
 by_cases hu: ∀i,i<acI ay->0<=ay[i]!/\ay[i]!<=1000000/\(be[i]! =ad5->1<=ay[i]!)
 ·rw[AC hu,AC]
  refine⟨by show 1<=acI ay;omega,by show(acI ay)<=200;omega,a3,Vg,nd,λi hi=>?_,hu⟩;dsimp only at hi ⊢;constructor
  ·intro h1 h2
   obtain⟨k,hk,he⟩:=aN.1 h2;have:=(g2 k hk).1;rw[he,show((i:Int)).toNat=i by omega,h1]at this;cases this
  intro h1
  refine NE λh2=>hx ?_
  refine aN.2 ⟨i,by rw[pY];omega,?_⟩;rw[rF _ _ _ (λx hx=>(Vg x hx).1) (by omega)];have:be[i]! =ad6:=by simpa using h2
  rw[this];simpa using h1
 rw[Do hu,Do]
 intro ok;exact hu ok.us
theorem iE.fl{s:bF}(ok:iE s):(acI s.bi)<=(acI s.ay):=by
 have h:=TC (acI s.ay) _ (by
  rw[bJ];intro i j p8 hj he;rw[acl]at hj;have e: ∀k,k<acI s.bi->(s.bi.map Int.toNat)[k]! =(s.bi[k]!).toNat:=by intro k hk;rw[getElem!_pos _ k (by simpa using hk),List.getElem_map,getElem!_pos s.bi k hk]
  rw[e i (by omega),e j hj]at he;have h1:=(ok.fr _ (aE (show i<(acI s.bi) by omega))).1;have h2:=(ok.fr _ (aE hj)).1;exact bJ.1 ok.fd i j p8 hj (by omega)) (by
  intro x hx;obtain⟨y,hy,rfl⟩:=abu.1 hx;have:=ok.fr y hy;omega)
 grind
def Af(s:bF)(h:Int×Int):Prop:=0<=h.1/\h.1<acI s.ay/\s.be[h.1.toNat]! =ad5/\s.ay[h.1.toNat]! =h.2
def qj(s:bF)(h:Int×Int):bF:=⟨s.ay,s.be.set h.1.toNat ad6,s.bi++[h.1]⟩
def mA(s:bF):Nat:=(s.bi[acI s.bi-1]!).toNat
def CW(s:bF):Prop:=0<acI s.bi/\s.ay[mA s]!<1000000
def pB(s:bF):bF:=⟨s.ay.set (mA s) (s.ay[mA s]!+1),s.be.set (mA s) ad5,s.bi.take (acI s.bi-1)⟩
def xd(s:bF):Int×Int:=((mA s:Int),s.ay[mA s]!+1)
theorem Il{s:bF}(ok:iE s)(h:Int×Int):CN s h=ad3 (ad7 (Af s h),0):=by
 have hl:=ok.fl;have hn:=ok.n2;have hu:=ok.ul;unfold CN Af;rw[zw s (by omega),AC ok];simp only[aK]
 by_cases a1:0<=h.1
 ·by_cases a2:h.1<acI s.ay
  ·have e2:ad7 (h.1<((acI s.be):Int))=ad5:=by simp;omega
   simp (disch:=omega) only[a1,a2,e2,kT,];generalize s.ay[h.1.toNat]! =u;cases s.be[h.1.toNat]!<;>simp[adg]
  grind
 simp[a1]
theorem OI{s:bF}(ok:iE s){h:Int×Int}(lv:Af s h):DB s h=ad3 (qj s h,0):=by have hl:=ok.fl;have hn:=ok.n2;have hu:=ok.ul;unfold DB;rw[Il ok,decide_eq_true lv];unfold wb;obtain⟨l1,l2,l3,l4⟩:=lv;have e1:cQ s.be h.1 ad6=s.be.set h.1.toNat ad6:=rfl;simp (disch:=omega) only[aj,show((0:Int) !=0)=ad6 from rfl,ww,aai,cM,bG (show(acI s.bi)+[h.1].length<=1048576 by simp;omega),kT,e1,qj]
theorem aas{s:bF}(ok:iE s){h:Int×Int}(lv:Af s h):iE (qj s h):=by
 have hu:=ok.ul;obtain⟨l1,l2,l3,l4⟩:=lv;have nf:h.1∉s.bi:=by
  have:=(ok.uf h.1.toNat (by omega)).1 l3
  grind
 refine⟨ok.n1,ok.n2,?_,?_,?_,?_,?_⟩
 ·show(s.be.set _ _).length=_;rw[If];exact hu
 ·intro x hx
  rcases abE.1 hx with hx|hx
  ·exact ok.fr x hx
  rw[abS]at hx;subst hx;exact⟨l1,l2⟩
 ·show(s.bi++[h.1]).Nodup
  rw[List.nodup_append];refine⟨ok.fd,by simp,?_⟩
  grind
 ·intro i hi
  change i<(acI s.ay)at hi;show(s.be.set h.1.toNat ad6)[i]! =ad5↔(i:Int)∉s.bi++[h.1];rw[cw,abE,abS]
  by_cases e:i=h.1.toNat
  ·grind
  rw[Do (λk=>e k.1),ok.uf i hi]
  grind
 intro i hi
 obtain⟨u1,u2,u3⟩:=ok.us i hi;refine⟨u1,u2,?_⟩;show(s.be.set h.1.toNat ad6)[i]! =ad5->_;rw[cw];split
 ·intro h;cases h
 exact u3
theorem DK{s:bF}(ok:iE s)(h:0<acI s.bi):mA s<acI s.ay/\(mA s:Int)=s.bi[acI s.bi-1]!/\(mA s:Int)∈s.bi:=by
 have hm:=aE (l:=s.bi) (i:=acI s.bi-1) (by omega);have:=ok.fr _ hm;have e:(mA s:Int)=s.bi[acI s.bi-1]!:=by unfold mA;omega
 grind
theorem rG{α:Type}(l:List α)(n:Nat)(h:n<=acI l):jE l 0 (n:Int)=ad3 (l.take n):=by
 unfold jE
 grind
theorem F7{s:bF}(ok:iE s):DC s=ad3 (if CW s then(pB s,xd s,0)else(⟨[],[],[]⟩,(0,0),18)):=by
 have hl:=ok.fl;have hn:=ok.n2;have hu:=ok.ul;unfold DC CW;rw[zw s (by omega),AC ok];simp only[aj,show((0:Int) !=0)=ad6 from rfl,]
 by_cases a1:0<acI s.bi
 ·obtain⟨n1,n2,n3⟩:=DK ok a1
  have e1:(((acI s.bi):Int)==0)=ad6:=jA (by omega);have e2:aa .i64 _=((acI s.bi-1:Nat):Int):=vt (by omega) (by omega);unfold xO;simp (disch:=omega) only[e1,aK,e2,rG,aj,cM (show(s.bi.take (acI s.bi-1)).length<=1048576 by rw[abX];omega),ar,<-n2,];obtain⟨u1,u2,u3⟩:=ok.us _ n1
  by_cases a2:s.ay[mA s]! =1000000
  ·have e3:(s.ay[mA s]! ==1000000)=ad5:=by simpa using a2
   rw[e3,Do (by omega)];rfl
  have e3:(s.ay[mA s]! ==1000000)=ad6:=by simpa using a2
  have e4:aa .i64 (s.ay[mA s]!+1)=s.ay[mA s]!+1:=by rw[wi];omega
  rw[e3,AC (by omega)];simp (disch:=omega) only[ww,cM,aj,ar,e4,fI,ar (s.ay.set (mA s) (s.ay[mA s]!+1)) _ (by rw[If];exact n1),cw,n1,and_self,if_true,pB,xd]
 grind
theorem aat{s:bF}(ok:iE s)(h:CW s):iE (pB s):=by
 have hn:=ok.n2;have hu:=ok.ul;obtain⟨a1,a2⟩:=h;obtain⟨n1,n2,n3⟩:=DK ok a1;have mt: ∀x:Int,x∈s.bi.take (acI s.bi-1)↔(x∈s.bi/\x≠(mA s:Int)):=by
  intro x;rw[cS];constructor
  ·rintro⟨i,h1,h2,rfl⟩
   refine⟨aE h2,?_⟩;rw[n2];exact bJ.1 ok.fd i _ h1 (by omega)
  rintro⟨h1,h2⟩
  obtain⟨i,hi,rfl⟩:=aN.1 h1
  grind
 refine⟨?_,?_,?_,?_,?_,?_,?_⟩
 ·show 1<=(s.ay.set _ _).length;grind
 ·show(s.ay.set _ _).length<=200;grind
 ·show(s.be.set _ _).length=(s.ay.set _ _).length;grind
 ·intro x hx
  show 0<=x/\x<((s.ay.set _ _).length:Int);rw[If];exact ok.fr x ((mt x).1 hx).1
 ·exact ok.fd.sublist (List.take_sublist _ _)
 ·intro i hi
  change i<(s.ay.set _ _).length at hi;rw[If]at hi;show(s.be.set _ ad5)[i]! =ad5↔(i:Int)∉s.bi.take _;rw[cw,mt]
  by_cases e:i=mA s
  ·grind
  rw[Do (λk=>e k.1),ok.uf i hi]
  grind
 intro i hi
 change i<(s.ay.set _ _).length at hi;rw[If]at hi;obtain⟨u1,u2,u3⟩:=ok.us i hi;show 0<=(s.ay.set _ _)[i]!/\(s.ay.set _ _)[i]!<=1000000/\((s.be.set _ ad5)[i]! =ad5->1<=(s.ay.set _ _)[i]!)
 grind
abbrev Ev:=Int×Int×Int×Int×Int
abbrev Ev.at(x:Ev):Int×Int:=(x.1,x.2.1)
abbrev Ev.num(x:Ev):Int:=x.2.2.1
abbrev Ev.ix(x:Ev):Int:=x.2.2.2.1
abbrev Ev.n(x:Ev):Nat:=x.2.2.2.1.toNat
theorem asr{x y:Ev}(h0:0<=x.ix)(h1:0<=y.ix)(h:x.ix≠y.ix):x.n≠y.n:=by
 grind
def less(x y:Ev):Prop:=gY (x.1,x.2.1) (y.1,y.2.1)<0\/(gY (x.1,x.2.1) (y.1,y.2.1)=0/\x.2.2.1<y.2.2.1)
theorem oH{a b:Int×Int}:gY a b<0↔a.1*b.2<b.1*a.2:=by unfold gY;rcases dU _ _ with⟨h,e⟩|⟨h,e⟩|⟨h,e⟩<;>rw[e]<;>constructor<;>intro<;>omega
theorem Vh{a b:Int×Int}:gY a b=0↔a.1*b.2=b.1*a.2:=by unfold gY;rcases dU _ _ with⟨h,e⟩|⟨h,e⟩|⟨h,e⟩<;>rw[e]<;>constructor<;>intro<;>omega
theorem qQ{x y:Ev}(h:less x y): ¬less y x:=by
 unfold less at*
 grind[oH,Vh]
theorem TE{a1 a2 b1 b2 c1 c2:Int}(ha:1<=a2)(hb:1<=b2)(hc:1<=c2)(h1:a1*b2<=b1*a2)(h2:b1*c2<=c1*b2):a1*c2<=c1*a2:=by
 have e1:a1*b2*c2<=b1*a2*c2:=PP h1 (by omega);have e2:b1*c2*a2<=c1*b2*a2:=PP h2 (by omega);have e3:(a1*c2)*b2<=(c1*a2)*b2:=by
  grind
 exact Int.le_of_mul_le_mul_right e3 (by omega)
theorem qx{a1 a2 b1 b2 c1 c2:Int}(ha:1<=a2)(hb:1<=b2)(hc:1<=c2)(h1:a1*b2<b1*a2)(h2:b1*c2<=c1*b2):a1*c2<c1*a2:=by
 have e1:a1*b2*c2<b1*a2*c2:=abx h1 (by omega);have e2:b1*c2*a2<=c1*b2*a2:=PP h2 (by omega);have e3:(a1*c2)*b2<(c1*a2)*b2:=by
  grind
 exact abA e3 (by omega)
theorem KH{a1 a2 b1 b2 c1 c2:Int}(ha:1<=a2)(hb:1<=b2)(hc:1<=c2)(h1:a1*b2<=b1*a2)(h2:b1*c2<c1*b2):a1*c2<c1*a2:=by
 have e1:a1*b2*c2<=b1*a2*c2:=PP h1 (by omega);have e2:b1*c2*a2<c1*b2*a2:=abx h2 (by omega);have e3:(a1*c2)*b2<(c1*a2)*b2:=by
  grind
 exact abA e3 (by omega)
theorem Ag{x y z:Ev}(hx:1<=x.2.1)(hy:1<=y.2.1)(hz:1<=z.2.1)(h1: ¬less y x)(h2: ¬less z y): ¬less z x:=by unfold less at*;rw[oH,Vh]at*;dsimp only at*;have t1:= @TE x.1 x.2.1 y.1 y.2.1 z.1 z.2.1 hx hy hz;have t2:= @qx x.1 x.2.1 y.1 y.2.1 z.1 z.2.1 hx hy hz;have t3:= @KH x.1 x.2.1 y.1 y.2.1 z.1 z.2.1 hx hy hz;omega
structure F8(n:Nat)(x:Ev)(M:Ev->Prop)(H:List Ev)(W:List Int)(i:Nat):Prop where
 lt:i<n
 hn:n<=acI H
 ix: ∀w,w<n->w≠i->0<=(H[w]!).ix/\(H[w]!).ix<acI W/\W[(H[w]!).n]! =(w:Int)/\(H[w]!).ix≠x.ix
 x0:0<=x.ix
 x1:x.ix<acI W
 mem: ∀e,(∃w,w<n/\w≠i/\H[w]! =e)↔M e
theorem F8.move{n:Nat}{x:Ev}{M:Ev->Prop}{H:List Ev}{W:List Int}{i j:Nat}(h:F8 n x M H W i)(hj:j<n)(p8:j≠i):F8 n x M (H.set i H[j]!) (W.set (H[j]!).n (i:Int)) j:=by
 have hn:=h.hn;have hi:=h.lt;obtain⟨j1,j2,j3,j4⟩:=h.ix j hj p8;have cell: ∀w,(H.set i H[j]!)[w]! =if w=i then H[j]! else H[w]!:=by
  grind
 refine⟨hj,by grind,?_,h.x0,by rw[If];exact h.x1,?_⟩
 ·intro w hw hwj
  rw[cell,If]
  by_cases e:w=i
  ·grind
  rw[Do e,cw]
  obtain⟨k1,k2,k3,k4⟩:=h.ix w hw e
  grind
 intro e
 rw[<-h.mem e];constructor
 ·grind
 rintro⟨w,hw,W3,he⟩
 by_cases c:w=j
 ·refine⟨i,hi,λh=>p8 h.symm,?_⟩
  rw[cell,AC rfl,<-c];exact he
 grind
theorem F8.fill{n:Nat}{x:Ev}{M:Ev->Prop}{H:List Ev}{W:List Int}{i:Nat}(h:F8 n x M H W i):
 (∀w,w<n->0<=((H.set i x)[w]!).ix/\((H.set i x)[w]!).ix<acI W/\(W.set x.n (i:Int))[((H.set i x)[w]!).n]! =(w:Int))/\
  (∀e,(∃w,w<n/\(H.set i x)[w]! =e)↔(e=x\/M e)):=by
 have hn:=h.hn;have hi:=h.lt;have x0:=h.x0;have x1:=h.x1;have cell: ∀w,(H.set i x)[w]! =if w=i then x else H[w]!:=by
  grind
 constructor
 ·intro w hw
  rw[cell]
  by_cases e:w=i
  ·grind
  rw[Do e,cw]
  obtain⟨k1,k2,k3,k4⟩:=h.ix w hw e
  grind
 intro e
 rw[<-h.mem e];constructor
 ·grind
 rintro(he|⟨w,hw,W3,he⟩)
 ·exact⟨i,hi,by rw[cell,AC rfl,he]⟩
 grind
noncomputable def TF(x:Ev):Nat->List Ev->List Int->Nat×List Ev×List Int
 |0,H,W=>(0,H,W)
 |i+1,H,W=>if less x H[i / 2]! then TF x (i / 2) (H.set (i+1) H[i / 2]!) (W.set (H[i / 2]!).n ((i+1:Nat):Int))else(i+1,H,W)
termination_by i=>i
decreasing_by omega
noncomputable def vP(n:Nat)(H:List Ev)(i:Nat):Nat:=if 2*i+2<n/\less H[2*i+2]! H[2*i+1]! then 2*i+2 else 2*i+1
theorem DL(n:Nat)(H:List Ev)(i:Nat):vP n H i=2*i+1\/(vP n H i=2*i+2/\2*i+2<n):=by unfold vP;grind
noncomputable def qd(n:Nat)(x:Ev)(i:Nat)(H:List Ev)(W:List Int):Nat×List Ev×List Int:=
 if _h:2*i+1<n then
  if less H[vP n H i]! x then qd n x (vP n H i) (H.set i H[vP n H i]!) (W.set (H[vP n H i]!).n (i:Int))else(i,H,W)
 else(i,H,W)
termination_by n-i
decreasing_by
 rcases DL n H i with h|h<;>omega
structure Ord(n:Nat)(H:List Ev)(i:Nat):Prop where
 den: ∀w,w<n->1<=(H[w]!).2.1
 ord: ∀k,0<k->k<n->k≠i->(k-1) / 2≠i-> ¬less H[k]! H[(k-1) / 2]!
 QX:0<i-> ∀k,0<k->k<n->(k-1) / 2=i-> ¬less H[k]! H[(i-1) / 2]!
theorem Vi{n : Nat}{x : Ev}{M : Ev -> Prop}(dx : 1 <= x.2.1) : ∀ (i : Nat) (H : List Ev) (W : List Int), F8 n x M H W i -> Ord n H i ->
    ∃ j H1 W1, TF x i H W = (j, H1, W1) /\ F8 n x M H1 W1 j /\ Ord n H1 j /\ (acI H1) = (acI H) /\ (acI W1) = (acI W) /\ (0 < j -> ¬ less x H1[(j - 1) / 2]!) /\
      (∀ k, n <= k -> H1[k]! = H[k]!) /\ (∀ k, (∀ w, w < n -> w ≠ i -> (H[w]!).n ≠ k) -> W1[k]! = W[k]!) /\
      ((∀ k, 0 < k -> k < n -> (k - 1) / 2 = i -> ¬ less H[k]! x) -> ∀ k, 0 < k -> k < n -> (k - 1) / 2 = j -> ¬ less H1[k]! x)
  | 0, H, W, h, o => ⟨0, H, W, by rw[TF], h, o, rfl, rfl, λh => by omega, λ_ _ => rfl, λ_ _ => rfl, λh => h⟩
  | i + 1, H, W, h, o => by
    rw[TF]
    by_cases hl : less x H[i / 2]!
    ·rw[AC hl]
     have hi := h.lt
     have hn := h.hn
     have hp : i / 2 < n := by omega
     have fo : i / 2 ≠ i + 1 := by omega
     have hm := h.move hp fo
     have cell : ∀ w, (H.set (i + 1) H[i / 2]!)[w]! = if w = i + 1 then H[i / 2]! else H[w]! := by
       intro w
       rw[cw]
       by_cases e : w = i + 1
       ·rw[AC ⟨e, by omega⟩, AC e]
       rw[Do (λk => e k.1), Do e]
     have o' : Ord n (H.set (i + 1) H[i / 2]!) (i / 2) := by
       refine⟨?_, ?_, ?_⟩
       ·intro w hw
        rw[cell]
        split
        ·exact o.den _ hp
        exact o.den _ hw
       ·intro k k0 kn k1 k2
        rw[cell, cell]
        by_cases e : k = i + 1
        ·subst e; exact absurd (by omega) k2
        rw[Do e]
        by_cases e2 : (k - 1) / 2 = i + 1
        ·rw[AC e2]
         have := o.QX (by omega) k k0 kn e2
         rwa [show(i + 1 - 1) / 2 = i / 2 by omega]at this
        rw[Do e2]
        exact o.ord k k0 kn e e2
       intro p0 k k0 kn k1
       rw[cell, cell, Do (show(i / 2 - 1) / 2 ≠ i + 1 by omega)]
       have up1 := o.ord (i / 2) p0 hp fo (by omega)
       by_cases e : k = i + 1
       ·rw[AC e]; exact up1
       rw[Do e]
       have up2 : ¬ less H[k]! H[i / 2]! := by
         have := o.ord k k0 kn e (by omega)
         rwa [k1]at this
       exact Ag (o.den _ (by omega)) (o.den _ hp) (o.den _ kn) up1 up2
     obtain⟨j, H1, W1, e1, e3, e4, e5, e6, e7, e8, e9, e10⟩ := Vi dx (i / 2) _ _ hm o'
     rw[If]at e5 e6
     refine⟨j, H1, W1, e1, e3, e4, e5, e6, e7, ?_, ?_, ?_⟩
     ·intro k hk
      rw[e8 k hk, cell, Do (by omega)]
     ·intro k hk
      rw[e9 k ?_, cw, Do (λc => hk (i / 2) hp fo c.1.symm)]
      intro w hw R8
      rw[cell]
      split
      ·exact hk (i / 2) hp fo
      rename_i e; exact hk w hw e
     intro _
     refine e10 λk k0 kn k1 => ?_
     rw[cell]
     by_cases e : k = i + 1
     ·rw[AC e]; exact qQ hl
     rw[Do e]
     have up2 : ¬ less H[k]! H[i / 2]! := by
       have := o.ord k k0 kn e (by omega)
       rwa [k1]at this
     exact Ag dx (o.den _ hp) (o.den _ kn) (qQ hl) up2
    grind
termination_by i=>i
decreasing_by omega
theorem M6{n : Nat}{x : Ev}{M : Ev -> Prop}(dx : 1 <= x.2.1) : ∀ (d i : Nat) (H : List Ev) (W : List Int), n - i <= d -> F8 n x M H W i -> Ord n H i -> (0 < i -> ¬ less x H[(i - 1) / 2]!) ->
    ∃ j H1 W1, qd n x i H W = (j, H1, W1) /\ F8 n x M H1 W1 j /\ Ord n H1 j /\ (acI H1) = (acI H) /\ (acI W1) = (acI W) /\ (0 < j -> ¬ less x H1[(j - 1) / 2]!) /\
      (∀ k, n <= k -> H1[k]! = H[k]!) /\ (∀ k, (∀ w, w < n -> w ≠ i -> (H[w]!).n ≠ k) -> W1[k]! = W[k]!) /\ (∀ k, 0 < k -> k < n -> (k - 1) / 2 = j -> ¬ less H1[k]! x)
  | 0, i, H, W, hd, h, o, u => by have := h.lt; omega
  | d + 1, i, H, W, hd, h, o, u => by
    have hn := h.hn
    rw[qd]
    by_cases hk : 2 * i + 1 < n
    ·rw[dif_pos hk]
     have kc := DL n H i
     have kn : vP n H i < n := by omega
     have kne : vP n H i ≠ i := by omega
     have kp : (vP n H i - 1) / 2 = i := by omega
     have kb : ∀ k, 0 < k -> k < n -> (k - 1) / 2 = i -> ¬ less H[k]! H[vP n H i]! := by
       intro k k0 k1 k2
       have kk : k = 2 * i + 1 \/ k = 2 * i + 2 := by omega
       unfold vP
       split
       ·rename_i hc
        rcases kk with e | e
        ·rw[e]; exact qQ hc.2
        rw[e]; exact λh => qQ h h
       rename_i hc
       rcases kk with e | e
       ·rw[e]; exact λh => qQ h h
       rw[e]at k1 ⊢; exact λh => hc ⟨k1, h⟩
     by_cases hl : less H[vP n H i]! x
     ·rw[AC hl]
      have hm := h.move kn kne
      have cell : ∀ w, (H.set i H[vP n H i]!)[w]! = if w = i then H[vP n H i]! else H[w]! := by
        intro w
        rw[cw]
        by_cases e : w = i
        ·rw[AC ⟨e, by omega⟩, AC e]
        rw[Do (λk => e k.1), Do e]
      have o' : Ord n (H.set i H[vP n H i]!) (vP n H i) := by
        refine⟨?_, ?_, ?_⟩
        ·intro w hw
         rw[cell]
         split
         ·exact o.den _ kn
         exact o.den _ hw
        ·intro k k0 k1 k2 k3
         rw[cell, cell]
         by_cases e : k = i
         ·rw[AC e, Do (by omega)]
          have := o.QX (by omega) (vP n H i) (by omega) kn kp
          rwa [e]
         rw[Do e]
         by_cases e2 : (k - 1) / 2 = i
         ·rw[AC e2]; exact kb k k0 k1 e2
         rw[Do e2]; exact o.ord k k0 k1 e e2
        intro _ k k0 k1 k2
        rw[cell, cell, AC kp, Do (by omega)]
        have := o.ord k k0 k1 (by omega) (by omega)
        rwa [k2]at this
      obtain⟨j, H1, W1, e1, e3, e4, e5, e6, e7, e8, e9, e10⟩ := M6 dx d (vP n H i) _ _ (by omega) hm o' (by
        intro _
        rw[cell, AC kp]
        exact qQ hl)
      rw[If]at e5 e6
      refine⟨j, H1, W1, e1, e3, e4, e5, e6, e7, ?_, ?_, e10⟩
      ·intro k hk
       rw[e8 k hk, cell, Do (by omega)]
      intro k hk
      rw[e9 k ?_, cw, Do (λc => hk (vP n H i) kn kne c.1.symm)]
      intro w hw R8
      rw[cell]
      split
      ·exact hk (vP n H i) kn kne
      rename_i e; exact hk w hw e
     rw[Do hl]
     refine⟨i, H, W, rfl, h, o, rfl, rfl, u, λ_ _ => rfl, λ_ _ => rfl, ?_⟩
     intro k k0 k1 k2
     exact Ag dx (o.den _ kn) (o.den _ k1) hl (kb k k0 k1 k2)
    grind
structure DM(n:Nat)(x:Ev)(M:Ev->Prop)(K:Nat->Prop)(H:List Ev)(W:List Int)(H1:List Ev)(W1:List Int):Prop where
 hl:(acI H1)=acI H
 wl:(acI W1)=acI W
 ix: ∀w,w<n->0<=(H1[w]!).ix/\(H1[w]!).ix<acI W/\W1[(H1[w]!).n]! =(w:Int)
 mem: ∀e,(∃w,w<n/\H1[w]! =e)↔(e=x\/M e)
 ord: ∀k,0<k->k<n-> ¬less H1[k]! H1[(k-1) / 2]!
 out: ∀k,K k->W1[k]! =W[k]!
theorem OJ{n:Nat}{x:Ev}{M:Ev->Prop}{H H1:List Ev}{W W1:List Int}{i j:Nat}(h1:F8 n x M H1 W1 j)(o1:Ord n H1 j)(hl:(acI H1)=acI H)(wl:(acI W1)=acI W)
 (u:0<j-> ¬less x H1[(j-1) / 2]!) (kd: ∀k,0<k->k<n->(k-1) / 2=j-> ¬less H1[k]! x) (out: ∀k,(∀w,w<n->w≠i->(H[w]!).n≠k)->W1[k]! =W[k]!):
 DM n x M (λk=>k≠x.n/\ ∀w,w<n->w≠i->(H[w]!).n≠k) H W (H1.set j x) (W1.set x.n (j:Int)):=by
 have hn:=h1.hn;have hj:=h1.lt;have f:=h1.fill;have cell: ∀w,(H1.set j x)[w]! =if w=j then x else H1[w]!:=by
  intro w;rw[cw]
  by_cases e:w=j
  ·rw[AC ⟨e,by omega⟩,AC e]
  grind
 refine⟨by grind,by grind,?_,f.2,?_,?_⟩
 ·grind
 ·intro k k0 kn
  rw[cell,cell]
  by_cases e:k=j
  ·rw[AC e,Do (by omega),e];exact u (by omega)
  rw[Do e]
  by_cases e2:(k-1) / 2=j
  ·rw[AC e2];exact kd k k0 kn e2
  rw[Do e2];exact o1.ord k k0 kn e e2
 rintro k ⟨k1,k2⟩
 rw[cw,Do (λc=>k1 c.1)];exact out k k2
noncomputable def iN(n:Nat)(x:Ev)(i:Nat)(H:List Ev)(W:List Int):List Ev×List Int:=
 let u:=TF x i H W
 let d:=qd n x u.1 u.2.1 u.2.2
 (d.2.1.set d.1 x,d.2.2.set x.n (d.1:Int))
theorem CX{n:Nat}{x:Ev}{M:Ev->Prop}(dx:1<=x.2.1){i:Nat}{H:List Ev}{W:List Int}(h:F8 n x M H W i)(o:Ord n H i):
 DM n x M (λk=>k≠x.n/\ ∀w,w<n->w≠i->(H[w]!).n≠k) H W (iN n x i H W).1 (iN n x i H W).2:=by
 obtain⟨j,H1,W1,e1,e3,e4,e5,e6,e7,e8,e9,e10⟩:=Vi dx i H W h o;obtain⟨k,H2,W2,f1,f3,f4,f5,f6,f7,f8,f9,f10⟩:=M6 dx n j H1 W1 (by omega) e3 e4 e7;have e:iN n x i H W=(H2.set k x,W2.set x.n (k:Int)):=by unfold iN;rw[e1];dsimp only;rw[f1]
 rw[e];refine OJ f3 f4 (by omega) (by omega) f7 f10 ?_;intro c hc;rw[f9 c ?_,e9 c hc];intro w hw hwj hcw;have hm:=(e3.mem _).1 ⟨w,hw,hwj,rfl⟩;obtain⟨v,v1,v2,v3⟩:=(h.mem _).2 hm
 grind
def Bq(x:Ev):Prop:=bo (x.1,x.2.1)/\jb (x.1,x.2.1)/\0<=x.2.2.1/\x.2.2.1<=1000000
theorem Bq.den{x:Ev}(h:Bq x):1<=x.2.1:=h.1.1
noncomputable def QY(x y:Ev):Int:=if gY (x.1,x.2.1) (y.1,y.2.1)≠0 then gY (x.1,x.2.1) (y.1,y.2.1)else mG x.2.2.1 y.2.2.1
theorem F9(x y:Ev):QY x y<0↔less x y:=by
 unfold QY less
 by_cases h:gY (x.1,x.2.1) (y.1,y.2.1)=0
 ·rw[Do (by simpa using h),h]
  rcases dU x.2.2.1 y.2.2.1 with⟨h1,e⟩|⟨h1,e⟩|⟨h1,e⟩<;>rw[e]<;>constructor<;>intro<;>omega
 omega
theorem eF{x y:Ev}(hx:Bq x)(hy:Bq y):cX x y=ad3 (QY x y):=by unfold cX QY;rw[CT hx.2.1 hy.2.1,AC ⟨hx.1,hy.1⟩];simp[nA,DJ]
theorem Hl{x y:Ev}:ad7 (QY x y<0)=ad7 (less x y):=by simp[F9]
theorem OK{x y:Ev}:ad7 (0<=QY x y)=!ad7 (less x y):=by
 have:=F9 x y
 grind
structure yW(n:Nat)(H:List Ev)(W:List Int):Prop where
 hn:n<=acI H
 hb:(acI H)<=1000000
 ev: ∀w,w<n->Bq H[w]!/\0<=(H[w]!).ix/\(H[w]!).ix<acI W
theorem yW.move{n:Nat}{H:List Ev}{W:List Int}(c:yW n H W){i j:Nat}(_hi:i<n)(hj:j<n)(k:Nat)(v:Int):yW n (H.set i H[j]!) (W.set k v):=by
 have hn:=c.hn;refine⟨by grind,by rw[If];exact c.hb,?_⟩;intro w hw;rw[cw,If];split
 ·exact c.ev j hj
 exact c.ev w hw
theorem I2{H:List Ev}{W:List Int}{x:Ev}{u fr:List Int}{us:List Bool}{i:Nat}(hi:i<acI H)(h0:0<=x.ix)(h1:x.ix<acI W):
 cL (u,us,fr,(i:Int),x.1,x.2.1,x.2.2.1,x.2.2.2.1,x.2.2.2.2,H,W)=ad3 (H.set i x,W.set x.n (i:Int)):=by
 unfold cL;have e1:=ar H i hi;have e2:=kT h0 h1;simp only[e1,e2,Cs,beq_self_eq_true,];rfl
theorem I3{n cap:Nat}{H:List Ev}{W:List Int}{x:Ev}{u fr:List Int}{us:List Bool}{i:Nat}(hi:i<n)(hn:n<=acI H)(h0:0<=x.ix)(h1:x.ix<acI W):
 cK (u,us,fr,n,cap,(i:Int),x.1,x.2.1,x.2.2.1,x.2.2.2.1,x.2.2.2.2,H,W)=ad3 (H.set i x,W.set x.n (i:Int)):=by
 unfold cK;have e1:=ar (H.take n) i (by grind);have e2:=kT h0 h1;simp only[e1,e2,Cs,beq_self_eq_true,];rfl
theorem Hm{i:Nat}(h:i<1000000000):aa .i64 (abK (aa .i64 (((i+1:Nat):Int)-1)) 2)=((i / 2:Nat):Int):=by
 grind[wi,abz]
theorem Hn{i:Nat}(h:i<1000000000):aa .i64 ((aa .i64 (2*(i:Int)))+1)=((2*i+1:Nat):Int):=by
 grind[wi]
theorem TG{c0:List Int×List Bool×List Int×Int×Int×Int×Int×Int×Int×List Ev×List Int}{n i:Nat}{H:List Ev}{W:List Int}{u fr:List Int}{us:List Bool}{x:Ev}
 (c:yW n H W) (hn:(acI H)=n) (hi:i<n) (hx:Bq x) (x0:0<=x.ix) (x1:x.ix<acI W) (l1:(acI c0.2.2.2.2.2.2.2.2.2.1)=n) (l2:(acI c0.2.2.2.2.2.2.2.2.2.2)=acI W):
 iw c0 ((i:Int),((2*i+1:Nat):Int),H,W,u,us,fr,x)=
  ad3 (if 2*i+1<n/\less H[vP n H i]! x then .next (((vP n H i:Nat):Int),((2*vP n H i+1:Nat):Int),H.set i H[vP n H i]!,W.set (H[vP n H i]!).n (i:Int),u,us,fr,x)
   else .done (.done (H.set i x,W.set x.n (i:Int)))):=by
 have hb:=c.hb;have fin:(cL (u,us,fr,(i:Int),x.1,x.2.1,x.2.2.1,x.2.2.2.1,x.2.2.2.2,H,W))=ad3 (H.set i x,W.set x.n (i:Int)):=I2 (by omega) x0 x1;have ln1:(H.set i x).length=(acI c0.2.2.2.2.2.2.2.2.2.1):=by rw[If];omega
 have ln2:(W.set x.n (i:Int)).length=(acI c0.2.2.2.2.2.2.2.2.2.2):=by rw[If];omega
 unfold iw;simp only[aK,hn,fin,aj,ln1,ln2,beq_self_eq_true,]
 by_cases h1:2*i+1<n
 ·have e1:ad7 (((2*i+1:Nat):Int)<(n:Int))=ad5:=by simp;omega
  have e2:aa .i64 (((2*i+1:Nat):Int)+1)=((2*i+2:Nat):Int):=aM (by omega);obtain⟨Eh,a1,a2⟩:=c.ev (2*i+1) h1;have g1:=ar H (2*i+1) (by omega);have s1:(cL (u,us,fr,(i:Int),(H[2*i+1]!).1,(H[2*i+1]!).2.1,(H[2*i+1]!).2.2.1,(H[2*i+1]!).2.2.2.1,(H[2*i+1]!).2.2.2.2,H,W))=ad3 (H.set i H[2*i+1]!,W.set (H[2*i+1]!).n (i:Int)):=I2 (by omega) a1 a2;simp (disch:=omega) only[e1,e2,v6,g1,aj,s1,eF Eh hx,OK,Hn]
  by_cases h2:2*i+2<n
  ·have e3:ad7 (((2*i+2:Nat):Int)<(n:Int))=ad5:=by simp;omega
   obtain⟨ok2,b1,b2⟩:=c.ev (2*i+2) h2;have g2:=ar H (2*i+2) (by omega);have s2:(cL (u,us,fr,(i:Int),(H[2*i+2]!).1,(H[2*i+2]!).2.1,(H[2*i+2]!).2.2.1,(H[2*i+2]!).2.2.2.1,(H[2*i+2]!).2.2.2.2,H,W))=ad3 (H.set i H[2*i+2]!,W.set (H[2*i+2]!).n (i:Int)):=I2 (by omega) b1 b2;simp (disch:=omega) only[e3,v6,g2,aj,s2,eF ok2 hx,eF ok2 Eh,Hl,OK,]
   by_cases h3:less H[2*i+2]! H[2*i+1]!
   ·have k:vP n H i=2*i+2:=by unfold vP;rw[AC ⟨h2,h3⟩]
    rw[k]
    by_cases h4:less H[2*i+2]! x
    ·simp only[h1,h3,h4,decide_true,v6,ww,aai,and_self,if_true]
    simp only[h3,h4,decide_true,decide_false,v6,ab0,and_false,if_false]
   have k:vP n H i=2*i+1:=by unfold vP;rw[Do (λh=>h3 h.2)]
   rw[k]
   by_cases h4:less H[2*i+1]! x
   ·simp only[h1,h3,h4,decide_true,decide_false,ww,aai,and_self,if_true]
   simp only[h3,h4,decide_false,v6,ww,ab0,and_false,if_false]
  have e3:ad7 (((2*i+2:Nat):Int)<(n:Int))=ad6:=by simp;omega
  have k:vP n H i=2*i+1:=by unfold vP;rw[Do (λh=>h2 h.1)]
  rw[k];simp only[e3,ww]
  by_cases h4:less H[2*i+1]! x
  ·simp only[h1,h4,decide_true,ww,aai,and_self,if_true]
  simp only[h1,h4,decide_false,v6,ab0,and_false,if_false]
 grind
theorem Br{c0 : List Int × List Bool × List Int × Int × Int × Int × Int × Int × Int × List Ev × List Int}{n : Nat}{u fr : List Int}{us : List Bool}{x : Ev}(hx : Bq x)(x0 : 0 <= x.ix)(l1 : (acI c0.2.2.2.2.2.2.2.2.2.1) = n) :
    ∀ (d i : Nat) (H : List Ev) (W : List Int), n - i <= d -> yW n H W -> (acI H) = n -> i < n -> x.ix < (acI W) -> (acI c0.2.2.2.2.2.2.2.2.2.2) = (acI W) ->
      aq (iw c0) ((i : Int), ((2 * i + 1 : Nat) : Int), H, W, u, us, fr, x) = ad3 (.done ((qd n x i H W).2.1.set (qd n x i H W).1 x, (qd n x i H W).2.2.set x.n ((qd n x i H W).1 : Int)))
  | 0, i, H, W, hd, c, hn, hi, x1, l2 => by omega
  | d + 1, i, H, W, hd, c, hn, hi, x1, l2 => by
    have r := TG (u := u) (us := us) (fr := fr) c hn hi hx x0 x1 l1 l2
    by_cases h : 2 * i + 1 < n /\ less H[vP n H i]! x
    ·rw[AC h]at r
     have kc := DL n H i
     have kn : vP n H i < n := by omega
     rw[aQ r, Br hx x0 l1 d _ _ _ (by omega) (c.move hi kn _ _) (by grind) kn (by grind) (by grind)]
     have e : qd n x i H W = qd n x (vP n H i) (H.set i H[vP n H i]!) (W.set (H[vP n H i]!).n (i : Int)) := by
       rw[qd, dif_pos h.1, AC h.2]
     rw[e]
    rw[Do h]at r
    rw[au r]
    have e : qd n x i H W = (i, H, W) := by
      rw[qd]
      grind
    rw[e]
theorem KI{c0 : List Int × List Bool × List Int × Int × Int × Int × Int × Int × Int × List Ev × List Int}{n : Nat}{u fr : List Int}{us : List Bool}{x : Ev}(hx : Bq x)(x0 : 0 <= x.ix)(l1 : (acI c0.2.2.2.2.2.2.2.2.2.1) = n) :
    ∀ (i : Nat) (H : List Ev) (W : List Int), yW n H W -> (acI H) = n -> i < n -> x.ix < (acI W) -> (acI c0.2.2.2.2.2.2.2.2.2.2) = (acI W) ->
      aq (fS c0) ((i : Int), H, W, u, us, fr, x) = ad3 (iN n x i H W)
  | 0, H, W, c, hn, hi, x1, l2 => by
    have dn := Br (u := u) (us := us) (fr := fr) hx x0 l1 n 0 H W (by omega) c hn hi x1 l2
    refine(au ?_)
    unfold fS
    have e1 : ad7 ((0 : Int) < ((0 : Nat) : Int)) = ad6 := by simp
    simp (disch := omega) only[e1, ww, Hn]
    rw[dn]
    unfold iN
    rw[TF]
  | i + 1, H, W, c, hn, hi, x1, l2 => by
    have hb := c.hb
    have e1 : ad7 ((0 : Int) < ((i + 1 : Nat) : Int)) = ad5 := decide_eq_true (by omega)
    have hp : i / 2 < n := by omega
    obtain⟨Eh, a1, a2⟩ := c.ev _ hp
    have g1 := ar H (i / 2) (by omega)
    have s1 : (cL (u, us, fr, ((i + 1 : Nat) : Int), (H[i / 2]!).1, (H[i / 2]!).2.1, (H[i / 2]!).2.2.1, (H[i / 2]!).2.2.2.1, (H[i / 2]!).2.2.2.2, H, W)) = ad3 _ := I2 (by omega) a1 a2
    by_cases h : less x H[i / 2]!
    ·have r : fS c0 (((i + 1 : Nat) : Int), H, W, u, us, fr, x) = ad3 (.next (((i / 2 : Nat) : Int), H.set (i + 1) H[i / 2]!, W.set (H[i / 2]!).n ((i + 1 : Nat) : Int), u, us, fr, x)) := by
       unfold fS
       simp (disch := omega) only[e1, v6, Hm, g1, aj, eF hx Eh, Hl, h, decide_true, s1]
     rw[aQ r, KI hx x0 l1 _ _ _ (c.move hi hp _ _) (by grind) hp (by grind) (by grind)]
     have e : TF x (i + 1) H W = TF x (i / 2) (H.set (i + 1) H[i / 2]!) (W.set (H[i / 2]!).n ((i + 1 : Nat) : Int)) := by
       rw[TF, AC h]
     unfold iN
     rw[e]
    have dn := Br (u := u) (us := us) (fr := fr) hx x0 l1 n (i + 1) H W (by omega) c hn hi x1 l2
    refine(au ?_)
    unfold fS
    simp (disch := omega) only[e1, v6, Hm, g1, aj, eF hx Eh, Hl, h, decide_false, ww, Hn]
    rw[dn]
    unfold iN
    rw[TF, Do h]
termination_by i=>i
decreasing_by omega
theorem KJ{n:Nat}{u fr:List Int}{us:List Bool}{x:Ev}(hx:Bq x)(x0:0<=x.ix){i:Nat}{H:List Ev}{W:List Int}(c:yW n H W)(hn:(acI H)=n)(hi:i<n)(x1:x.ix<acI W):
 fX (u,us,fr,(i:Int),x.1,x.2.1,x.2.2.1,x.2.2.2.1,x.2.2.2.2,H,W)=ad3 (iN n x i H W):=by
 unfold fX
 grind[KI]
theorem xl{l:List Ev}{n i:Nat}(h:i<n)(hn:n<=acI l):aF (l.take n) (i:Int)=ad3 l[i]!:=by
 grind[ar,abX,xo]
theorem TH{c0:List Int×List Bool×List Int×Nat×Nat×Int×Int×Int×Int×Int×Int×List Ev×List Int}{n cap i:Nat}{H:List Ev}{W:List Int}{u fr:List Int}{us:List Bool}{x:Ev}
 (c:yW n H W) (hi:i<n) (hx:Bq x) (x0:0<=x.ix) (x1:x.ix<acI W) (l1:(acI c0.2.2.2.2.2.2.2.2.2.2.2.1)=acI H) (l2:(acI c0.2.2.2.2.2.2.2.2.2.2.2.2)=acI W):
 iv c0 ((i:Int),((2*i+1:Nat):Int),H,W,u,us,fr,n,cap,x)=
  ad3 (if 2*i+1<n/\less H[vP n H i]! x then .next (((vP n H i:Nat):Int),((2*vP n H i+1:Nat):Int),H.set i H[vP n H i]!,W.set (H[vP n H i]!).n (i:Int),u,us,fr,n,cap,x)
   else .done (.done (H.set i x,W.set x.n (i:Int)))):=by
 have hb:=c.hb;have hnn:=c.hn;have fin:(cK (u,us,fr,n,cap,(i:Int),x.1,x.2.1,x.2.2.1,x.2.2.2.1,x.2.2.2.2,H,W))=ad3 (H.set i x,W.set x.n (i:Int)):=I3 (by omega) c.hn x0 x1;have ln1:(H.set i x).length=(acI c0.2.2.2.2.2.2.2.2.2.2.2.1):=by rw[If];omega
 have ln2:(W.set x.n (i:Int)).length=(acI c0.2.2.2.2.2.2.2.2.2.2.2.2):=by rw[If];omega
 unfold iv;simp only[aK,fin,aj,ln1,ln2,beq_self_eq_true,]
 by_cases h1:2*i+1<n
 ·have e1:ad7 (((2*i+1:Nat):Int)<(n:Int))=ad5:=by simp;omega
  have e2:aa .i64 (((2*i+1:Nat):Int)+1)=((2*i+2:Nat):Int):=aM (by omega);obtain⟨Eh,a1,a2⟩:=c.ev (2*i+1) h1;have g1:=xl (by omega) c.hn;have s1:(cK (u,us,fr,n,cap,(i:Int),(H[2*i+1]!).1,(H[2*i+1]!).2.1,(H[2*i+1]!).2.2.1,(H[2*i+1]!).2.2.2.1,(H[2*i+1]!).2.2.2.2,H,W))=ad3 (H.set i H[2*i+1]!,W.set (H[2*i+1]!).n (i:Int)):=I3 (by omega) c.hn a1 a2;simp (disch:=omega) only[e1,e2,v6,g1,aj,s1,eF Eh hx,OK,Hn]
  by_cases h2:2*i+2<n
  ·have e3:ad7 (((2*i+2:Nat):Int)<(n:Int))=ad5:=by simp;omega
   obtain⟨ok2,b1,b2⟩:=c.ev (2*i+2) h2;have g2:=xl (by omega) c.hn;have s2:(cK (u,us,fr,n,cap,(i:Int),(H[2*i+2]!).1,(H[2*i+2]!).2.1,(H[2*i+2]!).2.2.1,(H[2*i+2]!).2.2.2.1,(H[2*i+2]!).2.2.2.2,H,W))=ad3 (H.set i H[2*i+2]!,W.set (H[2*i+2]!).n (i:Int)):=I3 (by omega) c.hn b1 b2;simp (disch:=omega) only[e3,v6,g2,aj,s2,eF ok2 hx,eF ok2 Eh,Hl,OK,]
   by_cases h3:less H[2*i+2]! H[2*i+1]!
   ·have k:vP n H i=2*i+2:=by unfold vP;rw[AC ⟨h2,h3⟩]
    rw[k]
    by_cases h4:less H[2*i+2]! x
    ·simp only[h1,h3,h4,decide_true,v6,ww,aai,and_self,if_true]
    simp only[h3,h4,decide_true,decide_false,v6,ab0,and_false,if_false]
   have k:vP n H i=2*i+1:=by unfold vP;rw[Do (λh=>h3 h.2)]
   rw[k]
   by_cases h4:less H[2*i+1]! x
   ·simp only[h1,h3,h4,decide_true,decide_false,ww,aai,and_self,if_true]
   simp only[h3,h4,decide_false,v6,ww,ab0,and_false,if_false]
  have e3:ad7 (((2*i+2:Nat):Int)<(n:Int))=ad6:=by simp;omega
  have k:vP n H i=2*i+1:=by unfold vP;rw[Do (λh=>h2 h.1)]
  rw[k];simp only[e3,ww]
  by_cases h4:less H[2*i+1]! x
  ·simp only[h1,h4,decide_true,ww,aai,and_self,if_true]
  simp only[h1,h4,decide_false,v6,ab0,and_false,if_false]
 grind
theorem Bs{c0 : List Int × List Bool × List Int × Nat × Nat × Int × Int × Int × Int × Int × Int × List Ev × List Int}{n cap : Nat}{u fr : List Int}{us : List Bool}{x : Ev}(hx : Bq x)(x0 : 0 <= x.ix) :
    ∀ (d i : Nat) (H : List Ev) (W : List Int), n - i <= d -> yW n H W -> (acI c0.2.2.2.2.2.2.2.2.2.2.2.1) = (acI H) -> i < n -> x.ix < (acI W) -> (acI c0.2.2.2.2.2.2.2.2.2.2.2.2) = (acI W) ->
      aq (iv c0) ((i : Int), ((2 * i + 1 : Nat) : Int), H, W, u, us, fr, n, cap, x) = ad3 (.done ((qd n x i H W).2.1.set (qd n x i H W).1 x, (qd n x i H W).2.2.set x.n ((qd n x i H W).1 : Int)))
  | 0, i, H, W, hd, c, hn, hi, x1, l2 => by omega
  | d + 1, i, H, W, hd, c, hn, hi, x1, l2 => by
    have r := TH (u := u) (us := us) (fr := fr) (cap := cap) c hi hx x0 x1 hn l2
    by_cases h : 2 * i + 1 < n /\ less H[vP n H i]! x
    ·rw[AC h]at r
     have kc := DL n H i
     have kn : vP n H i < n := by omega
     rw[aQ r, Bs hx x0 d _ _ _ (by omega) (c.move hi kn _ _) (by grind) kn (by grind) (by grind)]
     have e : qd n x i H W = qd n x (vP n H i) (H.set i H[vP n H i]!) (W.set (H[vP n H i]!).n (i : Int)) := by
       rw[qd, dif_pos h.1, AC h.2]
     rw[e]
    rw[Do h]at r
    rw[au r]
    have e : qd n x i H W = (i, H, W) := by
      rw[qd]
      grind
    rw[e]
theorem KK{c0 : List Int × List Bool × List Int × Nat × Nat × Int × Int × Int × Int × Int × Int × List Ev × List Int}{n cap : Nat}{u fr : List Int}{us : List Bool}{x : Ev}(hx : Bq x)(x0 : 0 <= x.ix) :
    ∀ (i : Nat) (H : List Ev) (W : List Int), yW n H W -> (acI c0.2.2.2.2.2.2.2.2.2.2.2.1) = (acI H) -> i < n -> x.ix < (acI W) -> (acI c0.2.2.2.2.2.2.2.2.2.2.2.2) = (acI W) ->
      aq (fR c0) ((i : Int), H, W, u, us, fr, n, cap, x) = ad3 (iN n x i H W)
  | 0, H, W, c, hn, hi, x1, l2 => by
    have dn := Bs (u := u) (us := us) (fr := fr) (cap := cap) hx x0 n 0 H W (by omega) c hn hi x1 l2
    refine(au ?_)
    unfold fR
    have e1 : ad7 ((0 : Int) < ((0 : Nat) : Int)) = ad6 := by simp
    simp (disch := omega) only[e1, ww, Hn]
    rw[dn]
    unfold iN
    rw[TF]
  | i + 1, H, W, c, hn, hi, x1, l2 => by
    have hb := c.hb
    have hnn := c.hn
    have e1 : ad7 ((0 : Int) < ((i + 1 : Nat) : Int)) = ad5 := decide_eq_true (by omega)
    have hp : i / 2 < n := by omega
    obtain⟨Eh, a1, a2⟩ := c.ev (i / 2) hp
    have g1 := xl (by omega) c.hn
    have s1 : (cK (u, us, fr, n, cap, ((i + 1 : Nat) : Int), (H[i / 2]!).1, (H[i / 2]!).2.1, (H[i / 2]!).2.2.1, (H[i / 2]!).2.2.2.1, (H[i / 2]!).2.2.2.2, H, W)) = ad3 (H.set (i + 1) H[i / 2]!, W.set (H[i / 2]!).n ((i + 1 : Nat) : Int)) := I3 (by omega) c.hn a1 a2
    by_cases h : less x H[i / 2]!
    ·have r : fR c0 (((i + 1 : Nat) : Int), H, W, u, us, fr, n, cap, x) = ad3 (.next (((i / 2 : Nat) : Int), H.set (i + 1) H[i / 2]!, W.set (H[i / 2]!).n ((i + 1 : Nat) : Int), u, us, fr, n, cap, x)) := by
       unfold fR
       simp (disch := omega) only[e1, v6, Hm, g1, aj, eF hx Eh, Hl, h, decide_true, s1]
     rw[aQ r, KK hx x0 (i / 2) _ _ (c.move hi hp _ _) (by grind) hp (by grind) (by grind)]
     have e : TF x (i + 1) H W = TF x (i / 2) (H.set (i + 1) H[i / 2]!) (W.set (H[i / 2]!).n ((i + 1 : Nat) : Int)) := by
       rw[TF, AC h]
     unfold iN
     rw[e]
    have dn := Bs (u := u) (us := us) (fr := fr) (cap := cap) hx x0 n (i + 1) H W (by omega) c hn hi x1 l2
    refine(au ?_)
    unfold fR
    simp (disch := omega) only[e1, v6, Hm, g1, aj, eF hx Eh, Hl, h, decide_false, ww, Hn]
    rw[dn]
    unfold iN
    rw[TF, Do h]
termination_by i=>i
decreasing_by omega
theorem TI{n cap:Nat}{u fr:List Int}{us:List Bool}{x:Ev}(hx:Bq x)(x0:0<=x.ix){i:Nat}{H:List Ev}{W:List Int}(c:yW n H W)(hi:i<n)(x1:x.ix<acI W):
 mJ (u,us,fr,n,cap,(i:Int),x.1,x.2.1,x.2.2.1,x.2.2.2.1,x.2.2.2.2,H,W)=ad3 (iN n x i H W):=by
 unfold mJ
 grind[KK]
theorem aA{p:Prop}[Decidable p](h: ¬p):decide p=ad6:=decide_eq_false h
theorem az{p:Prop}[Decidable p](h:p):decide p=ad5:=decide_eq_true h
theorem QZ(ay:List Int)(be:List Bool)(fr:List Int)(fl:List Bool)(h1:(acI ay)<=200)(h2:(acI be)=acI ay)(h3:(acI fl)=acI ay):
 ((∀i,i<acI ay->0<=ay[i]!/\ay[i]!<=1000000/\be[i]!≠fl[i]!/\(be[i]! =ad5->1<=ay[i]!))->aq ni (((acI ay):Int),0,ay,be,fr,fl)=ad3 (.done 0))/\
 (¬(∀i,i<acI ay->0<=ay[i]!/\ay[i]!<=1000000/\be[i]!≠fl[i]!/\(be[i]! =ad5->1<=ay[i]!))->aq ni (((acI ay):Int),0,ay,be,fr,fl)=ad3 (.done 8)):=by
 have key:=eo (body:=ni) (λi=>(((acI ay):Int),(i:Int),ay,be,fr,fl)) (acI ay) (λi=> ¬(0<=ay[i]!/\ay[i]!<=1000000/\be[i]!≠fl[i]!/\(be[i]! =ad5->1<=ay[i]!))) (r:= .done 8) (e:= .done 0) (λi hi=>by
  have e1:ad7 ((i:Int)<((acI ay):Int))=ad5:=az (by omega);unfold ni;simp (disch:=omega) only[e1,ar,aj,aM];generalize ay[i]! =u;generalize be[i]! =a;generalize fl[i]! =b
  by_cases a1:u<0
  ·simp only[a1,decide_true,v6];exact⟨λ_=>trivial,λh=>absurd (UV.1 h).1 (by omega)⟩
  ·by_cases a2:1000000<u
   ·simp only[a1,a2,decide_true,decide_false,v6,ww];exact⟨λ_=>trivial,λh=>absurd (UV.1 h).2.1 (by omega)⟩
   simp[a1,a2,]
   by_cases a3:u<1
   ·cases a<;>cases b<;>simp[a3]<;>omega
   cases a<;>cases b<;>simp[a3]<;>omega) (by
  unfold ni;simp)
 grind
theorem Q0{α:Type}{n:Nat}(z:α)(h:n<=1048576):oE (n:Int) z=ad3 (EQ n z):=by
 unfold oE
 grind
theorem KL(s:bF)(hf:(acI s.bi)<=1000000):yK s=ad3 (if iE s then 0 else 8):=by
 obtain⟨ay,be,fr⟩:=s;dsimp only at hf;unfold yK;simp only[aK]
 by_cases a1:(acI ay)<1
 ·have e:ad7 (((acI ay):Int)<1)=ad5:=az (by omega)
  rw[e,Do (λh=>by have:=h.n1;grind)];rfl
 have e1:ad7 (((acI ay):Int)<1)=ad6:=aA (by omega)
 by_cases a2:200<acI ay
 ·have e:ad7 (200<((acI ay):Int))=ad5:=az (by omega)
  rw[e1,e,Do (λh=>by have:=h.n2;grind)];rfl
 have e2:ad7 (200<((acI ay):Int))=ad6:=aA (by omega)
 by_cases a3:(acI be)=acI ay
 case neg=>have e:(((acI be):Int) !=((acI ay):Int))=ad5:=dV (by omega);rw[e1,e2,e,Do (λh=>a3 h.ul)];rfl
 have e3:(((acI be):Int) !=((acI ay):Int))=ad6:=bw (by omega)
 by_cases a4:(acI ay)<acI fr
 ·have e:ad7 (((acI ay):Int)<((acI fr):Int))=ad5:=az (by omega)
  rw[e1,e2,e3,e,Do (λh=>by have:=h.fl;grind)];rfl
 have e4:ad7 (((acI ay):Int)<((acI fr):Int))=ad6:=aA (by omega);simp (disch:=omega) only[e1,e2,e3,e4,ww,beq_self_eq_true,v6,Q0,aj];have ml: ∀k,(marks (EQ (acI ay) ad6) (fr.take k)).length=(acI ay):=λk=>by rw[pY,aaP]
 have ml':(marks (EQ (acI ay) ad6) fr).length=(acI ay):=by rw[pY,aaP]
 have rep: ∀i:Nat,(EQ (acI ay) ad6)[i]! =ad6:=by
  intro i
  by_cases h:i<acI ay
  ·rw[getElem!_pos _ i (by simpa using h),List.getElem_replicate]
  simp_all
 have M5:=QZ ay be fr (marks (EQ (acI ay) ad6) fr) (by omega) a3 ml';have key:=eo (body:=sQ) (λk=>(((acI ay):Int),(k:Int),ay,be,fr,marks (EQ (acI ay) ad6) (fr.take k))) (acI fr)
  (λk=>fr[k]!<0\/((acI ay):Int)<=fr[k]!\/(marks (EQ (acI ay) ad6) (fr.take k))[(fr[k]!).toNat]! =ad5) (r:=8)
  (e:=if(∀i,i<acI ay->0<=ay[i]!/\ay[i]!<=1000000/\be[i]!≠(marks (EQ (acI ay) ad6) fr)[i]!/\(be[i]! =ad5->1<=ay[i]!))then 0 else 8) (λk hk=>by
   have f1:ad7 ((k:Int)<((acI fr):Int))=ad5:=az (by omega);have f5:marks (EQ (acI ay) ad6) (fr.take (k+1))=cQ (marks (EQ (acI ay) ad6) (fr.take k)) fr[k]! ad5:=by rw[da hk,E0]
   unfold sQ;simp (disch:=omega) only[aK,f1,v6,ar fr k hk,aj,aM,f5];clear f5;generalize fr[k]! =x
   by_cases b1:x<0
   ·simp[b1]
   ·by_cases b2:((acI ay):Int)<=x
    ·simp[b1,b2]
    simp
    grind[kT,aj]) (by
   have f1:=aA (by omega);unfold sQ
   grind)
 have h0:marks (EQ (acI ay) ad6) (fr.take 0)=EQ (acI ay) ad6:=rfl;rw[show((0:Nat):Int)=0 from rfl,h0]at key
 by_cases bad: ∃k,k<acI fr/\(fr[k]!<0\/((acI ay):Int)<=fr[k]!\/(marks (EQ (acI ay) ad6) (fr.take k))[(fr[k]!).toNat]! =ad5)
 ·rw[key.1 bad,Do]
  intro ok;obtain⟨k,hk,hb⟩:=bad;have hr:=ok.fr fr[k]! (aE hk);dsimp only at hr;rcases hb with hb|hb|hb
  ·omega
  ·omega
  rw[rF _ _ _ (λx hx=>(ok.fr x (aaQ hx)).1) (by grind),rep,abP]at hb
  have hi:((fr[k]!).toNat:Int)=fr[k]!:=by omega
  rw[hi]at hb;have hm:=of_decide_eq_true hb;obtain⟨j,h1,h2,h3⟩:=cS.1 hm;exact bJ.1 ok.fd j k h1 hk h3
 have aar: ∀k,k<acI fr->0<=fr[k]!/\fr[k]!<acI ay/\(marks (EQ (acI ay) ad6) (fr.take k))[(fr[k]!).toNat]! =ad6:=by
  intro k hk;refine⟨?_,?_,?_⟩
  ·exact Int.not_lt.1 λh=>bad ⟨k,hk,.inl h⟩
  ·exact Int.not_le.1 λh=>bad ⟨k,hk,.inr (.inl h)⟩
  exact abV _▸λh=>bad ⟨k,hk,.inr (.inr h)⟩
 rw[key.2 λk hk hb=>bad ⟨k,hk,hb⟩];have Vg: ∀x∈fr,0<=x/\x<((acI ay):Int):=by intro x hx;obtain⟨k,hk,rfl⟩:=aN.1 hx;exact⟨(aar k hk).1,(aar k hk).2.1⟩
 have g2: ∀k,k<acI fr->fr[k]!∉fr.take k:=by intro k hk;obtain⟨c1,c2,c3⟩:=aar k hk;rw[rF _ _ _ (λx hx=>(Vg x (aaQ hx)).1) (by rw[aaP];omega),show((fr[k]!).toNat:Int)=fr[k]! by omega,rep,abP]at c3;exact of_decide_eq_false c3
 have nd:=bJ.2 λi j p8 hj he=>g2 j hj (cS.2 ⟨i,p8,by omega,he⟩)
 have fl: ∀i,i<acI ay->(marks (EQ (acI ay) ad6) fr)[i]! =ad7 ((i:Int)∈fr):=by intro i hi;rw[rF _ _ _ (λx hx=>(Vg x hx).1) (by rw[aaP];omega),rep,abP]
 by_cases hx:(∀i,i<acI ay->0<=ay[i]!/\ay[i]!<=1000000/\be[i]!≠(marks (EQ (acI ay) ad6) fr)[i]!/\(be[i]! =ad5->1<=ay[i]!))
 ·rw[AC hx,AC]
  refine⟨by show 1<=acI ay;omega,by show(acI ay)<=200;omega,a3,Vg,nd,λi hi=>?_,λi hi=>?_⟩
  ·have:=(hx i hi).2.2.1
   rw[fl i hi]at this;dsimp only;cases h:be[i]! with
   |true=>rw[h]at this;refine⟨λ_ hm=>?_,λ_=>rfl⟩;rw[az hm]at this;exact this rfl
   |false=>rw[h]at this;refine⟨λh=>(by cases h),λhm=>?_⟩;rw[aA hm]at this;exact absurd rfl this
  have:=hx i hi
  exact⟨this.1,this.2.1,this.2.2.2⟩
 rw[Do hx,Do]
 intro ok;refine hx λi hi=>?_
 obtain⟨u1,u2,u3⟩:=ok.us i hi;refine⟨u1,u2,?_,u3⟩;rw[fl i hi];have:=ok.uf i hi;dsimp only at this;intro he
 by_cases hm:(i:Int)∈fr
 ·rw[az hm]at he;exact(this.1 he) hm
 rw[aA hm]at he
 have:=this.2 hm;rw[he]at this;cases this
structure CY(a:aS):Prop where
 fr:(acI a.ai.bi)<=1000000
 hp:(acI a.bv)<=1000000
 wh:(acI a.aC)<=1000000
 aau: ∀w,w<acI a.bv->jb ((a.bv[w]!).1,(a.bv[w]!).2.1)
structure gb(a:aS):Prop where
 so:iE a.ai
 wl:(acI a.aC)=acI a.ai.ay
 hl:(acI a.bv)+acI a.ai.bi=acI a.ai.ay
 fwd: ∀i,i<acI a.ai.ay->a.ai.be[i]! =ad5->0<=a.aC[i]!/\a.aC[i]!<acI a.bv/\(Ev.ix a.bv[(a.aC[i]!).toNat]!)=i/\(a.bv[(a.aC[i]!).toNat]!).2.2.2.2=a.ai.ay[i]!
 un: ∀i,i<acI a.ai.ay->a.ai.be[i]! =ad6->a.aC[i]! = -1
 ev: ∀w,w<acI a.bv->Bq a.bv[w]!
 nd: ∀v w,v<w->w<acI a.bv->(Ev.num a.bv[v]!)≠(Ev.num a.bv[w]!)
 ord: ∀k,0<k->k<acI a.bv-> ¬less a.bv[k]! a.bv[(k-1) / 2]!
theorem cover: ∀(n:Nat) (l:List Nat),(∀x,x<n->x∈l)->n<=acI l
 |0,_,_=>Nat.zero_le _
 |n+1,l,h=>by
  have:=cover n (l.erase n) (λx hx=>by rw[List.mem_erase_of_ne (by omega)];exact h x (by omega))
  grind
def Q1(s:bF):List Nat:=(List.range (acI s.ay)).filter λi=>s.be[i]!
theorem DN{s:bF}{i:Nat}:i∈Q1 s↔i<acI s.ay/\s.be[i]! =ad5:=by unfold Q1;simp
theorem DO{α β:Type}{f:α->β}: ∀{l:List α},l.Nodup->(∀x∈l,∀y∈l,f x=f y->x=y)->(l.map f).Nodup
 | [],_,_=>by simp
 |a::l,h,hf=>by
  rw[abv]at h;rw[List.map_cons,abv];refine⟨?_,DO h.2 λx hx y hy=>hf x (by simp[hx]) y (by simp[hy])⟩
  grind
theorem gb.back{a:aS}(ok:gb a){w:Nat}(hw:w<acI a.bv):0<=(Ev.ix a.bv[w]!)/\(Ev.ix a.bv[w]!)<acI a.ai.ay/\a.ai.be[(Ev.n a.bv[w]!)]! =ad5/\a.ai.ay[(Ev.n a.bv[w]!)]! =(a.bv[w]!).2.2.2.2/\a.aC[(Ev.n a.bv[w]!)]! =(w:Int):=by
 have so:=ok.so;have len:(acI a.ai.ay)<=(Q1 a.ai).length+(acI a.ai.bi):=by
  have:=cover (acI a.ai.ay) (Q1 a.ai++a.ai.bi.map Int.toNat) (λx hx=>by
   rw[abE]
   by_cases hu:a.ai.be[x]! =ad5
   ·exact .inl (DN.2 ⟨hx,hu⟩)
   right
   have:=so.uf x hx;have hm:=NE λhc=>hu (this.2 hc)
   exact abu.2 ⟨_,hm,by omega⟩)
  grind
 have f0:=λi hi=>ok.fwd i (DN.1 hi).1 (DN.1 hi).2
 have full:=Ij (l:=(Q1 a.ai).map λi=>(a.aC[i]!).toNat) (by
  refine DO ?_ ?_
  ·exact List.Pairwise.filter _ List.nodup_range
  grind) (by
  simp_all) (by
  rw[acl];have:=ok.hl;omega) w hw
 obtain⟨i,hi,e⟩:=abu.1 full;obtain⟨c1,c2,c3,c4⟩:=f0 i hi;obtain⟨d1,d2⟩:=DN.1 hi;rw[e]at c3 c4;have hn:(Ev.n a.bv[w]!)=i:=by show((Ev.ix a.bv[w]!)).toNat=i;omega
 rw[hn];refine⟨by omega,by omega,d2,c4.symm,by omega⟩
noncomputable def TJ(x y:Ev):Int:=if bo (x.1,x.2.1)/\bo (y.1,y.2.1)then QY x y else mG x.2.2.1 y.2.2.1
theorem E2{x y:Ev}(hx:jb (x.1,x.2.1))(hy:jb (y.1,y.2.1)):cX x y=ad3 (TJ x y):=by
 unfold cX TJ QY;rw[CT hx hy]
 by_cases h:bo (x.1,x.2.1)/\bo (y.1,y.2.1)
 ·rw[AC h,AC h]
  simp[nA,DJ]
 simp_all[Do,nA,DJ]
def OL(a:aS)(i:Nat):Prop:=(a.ai.be[i]! =ad5->0<=a.aC[i]!/\a.aC[i]!<acI a.bv/\(Ev.ix a.bv[(a.aC[i]!).toNat]!)=i/\(a.bv[(a.aC[i]!).toNat]!).2.2.2.2=a.ai.ay[i]!)/\(a.ai.be[i]! =ad6->a.aC[i]! = -1)
def Q2(H:List Ev)(k:Nat):Prop:=bo ((H[k]!).1,(H[k]!).2.1)/\0<=(H[k]!).2.2.1/\(H[k]!).2.2.1<=1000000/\(∀j,j<k->(H[j]!).2.2.1≠(H[k]!).2.2.1)/\(0<k-> ¬TJ H[k]! H[(k-1) / 2]!<0)
theorem gb.of{a:aS}(fit:CY a)(so:iE a.ai)(wl:(acI a.aC)=acI a.ai.ay)(hl:(acI a.bv)+acI a.ai.bi=acI a.ai.ay)(wh: ∀i,i<acI a.ai.ay->OL a i)(hp: ∀k,k<acI a.bv->Q2 a.bv k):gb a:=by
 have ev: ∀w,w<acI a.bv->Bq a.bv[w]!:=λw hw=>⟨(hp w hw).1,fit.aau w hw,(hp w hw).2.1,(hp w hw).2.2.1⟩
 refine⟨so,wl,hl,λi hi=>(wh i hi).1,λi hi=>(wh i hi).2,ev,λv w hv hw=>(hp w hw).2.2.2.1 v hv,λk k0 hk=>?_⟩;have:=(hp k hk).2.2.2.2 k0;unfold TJ at this;rw[AC ⟨(hp k hk).1,(hp _ (by omega)).1⟩,F9]at this;exact this
theorem gb.to{a:aS}(ok:gb a):(∀i,i<acI a.ai.ay->OL a i)/\(∀k,k<acI a.bv->Q2 a.bv k):=by refine⟨λi hi=>⟨ok.fwd i hi,ok.un i hi⟩,λk hk=>?_⟩;have e:=ok.ev k hk;refine⟨e.1,e.2.2.1,e.2.2.2,λj hj=>ok.nd j k hj hk,λk0=>?_⟩;unfold TJ;rw[AC ⟨e.1,(ok.ev _ (by omega)).1⟩,F9];exact ok.ord k k0 hk
theorem M7(H:List Ev)(k:Nat)(n:Int):sg [n] ((H.take k).map λx=>[x.2.2.1])=ad5:=by unfold sg;rw[List.all_eq_true];intro x hx;obtain⟨y,hy,rfl⟩:=abu.1 hx;rfl
theorem M8(H:List Ev)(k:Nat)(n:Int):IE ((H.take k).map λx=>[x.2.2.1]) [n]=ad7 (∃j,j<k/\j<acI H/\(H[j]!).2.2.1=n):=by
 unfold IE;rw[Bool.eq_iff_iff,List.any_eq_true,decide_eq_true_iff];constructor
 ·rintro⟨x,hx,he⟩
  obtain⟨y,hy,rfl⟩:=abu.1 hx;obtain⟨j,h1,h2,rfl⟩:=cS.1 hy
  grind
 rintro⟨j,h1,h2,h3⟩
 refine⟨[(H[j]!).2.2.1],abu.2 ⟨H[j]!,cS.2 ⟨j,h1,h2,rfl⟩,rfl⟩,?_⟩;rw[h3];simp
theorem OM(H:List Ev)(u fr W:List Int)(us:List Bool)(hl:(acI H)<=1000000)(dX: ∀w,w<acI H->jb ((H[w]!).1,(H[w]!).2.1)):
 ((∀k,k<acI H->Q2 H k)->aq ly (H,((acI H):Int),0,u,us,fr,H,W,[])=ad3 (.done 0))/\(¬(∀k,k<acI H->Q2 H k)->aq ly (H,((acI H):Int),0,u,us,fr,H,W,[])=ad3 (.done 8)):=by
 have key:=eo (body:=ly) (λk=>(H,((acI H):Int),(k:Int),u,us,fr,H,W,(H.take k).map λx=>[x.2.2.1])) (acI H) (λk=> ¬Q2 H k) (e:= .done 0) (λk hk=>by
  have e1:ad7 ((k:Int)<((acI H):Int))=ad5:=az (by omega);have ins: ∀n:Int,¬(∃j,j<k/\j<acI H/\(H[j]!).2.2.1=n)->Qj ((H.take k).map λx=>[x.2.2.1]) [n]=ad3 (((H.take k).map λx=>[x.2.2.1])++[[n]]):=by intro n hn;unfold Qj YV;rw[M7,M8,aA hn];rfl
  have has: ∀n:Int,Qi ((H.take k).map λx=>[x.2.2.1]) [n]=ad3 (ad7 (∃j,j<k/\j<acI H/\(H[j]!).2.2.1=n)):=by intro n;unfold Qi;rw[M7,M8];rfl
  have nx:(H.take (k+1)).map (λx=>[x.2.2.1])=((H.take k).map λx=>[x.2.2.1])++[[(H[k]!).2.2.1]]:=by rw[da hk,List.map_append];rfl
  unfold ly;simp (disch:=omega) only[e1,ar H k hk,aj,cZ (dX k hk),aM,has,nx]
  by_cases b1:bo ((H[k]!).1,(H[k]!).2.1)
  case neg=>rw[Do b1];exact⟨λ_=>rfl,λh=>absurd (UV.1 h).1 b1⟩
  rw[AC b1]
  by_cases b2:(H[k]!).2.2.1<0
  ·rw[az b2]
   exact⟨λ_=>rfl,λh=>absurd (UV.1 h).2.1 (by omega)⟩
  by_cases b3:1000000<(H[k]!).2.2.1
  ·rw[aA b2,az b3]
   exact⟨λ_=>rfl,λh=>absurd (UV.1 h).2.2.1 (by omega)⟩
  rw[aA b2,aA b3]
  by_cases b4: ∃j,j<k/\j<acI H/\(H[j]!).2.2.1=(H[k]!).2.2.1
  ·rw[az b4]
   refine⟨λ_=>rfl,λh=>?_⟩;obtain⟨j,j1,j2,j3⟩:=b4;exact absurd j3 ((UV.1 h).2.2.2.1 j j1)
  rw[aA b4,ins _ b4];have b4':=λj hj he=>b4 ⟨j,hj,by omega,he⟩
  by_cases b5:0<k
  ·obtain⟨m,rfl⟩: ∃m,k=m+1:=⟨k-1,by omega⟩
   have f1:ad7 ((0:Int)<((m+1:Nat):Int))=ad5:=az (by omega);simp (disch:=omega) only[Hm,ar,aj,E2 (dX (m+1) hk) (dX (m / 2) (by omega)),by omega]
   by_cases b6:TJ H[m+1]! H[m / 2]!<0
   ·rw[az b6]
    exact⟨λ_=>rfl,λh=>absurd b6 ((UV.1 h).2.2.2.2 (by omega))⟩
   rw[aA b6]
   exact⟨λh=>absurd ⟨b1,by omega,by omega,b4',λ_=>b6⟩ h,λ_=>rfl⟩
  ·have f1:ad7 ((0:Int)<(k:Int))=ad6:=aA (by omega)
   rw[f1];exact⟨λh=>absurd ⟨b1,by omega,by omega,b4',λh=>absurd h b5⟩ h,λ_=>rfl⟩) (by
  unfold ly;simp)
 grind
end Go.Proofs.YtkdikjnhkfffjaaGreat
