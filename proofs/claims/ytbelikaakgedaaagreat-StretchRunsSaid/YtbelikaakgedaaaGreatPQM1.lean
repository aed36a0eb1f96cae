/- Plain laws (1). -/
import Derived.Test.YtbelikaakgedaaaGreatPVm2
import Derived.Test.YtbelikaakgedaaaGreatPVm1
import Derived.Test.YtbelikaakgedaaaGreatPQS4
open List renaming length_set->If,replicate->IR,length_replicate->Md,mem_of_mem_take->KJ,mem_map->Mi,nodup_cons->SG,mem_append->YJ,set_comm->al,mem_singleton->Pg,set_set->Vf,length_take->g',length_map->Vg,length->OH
open Bool renaming not_false->NE,not_true->PP,or_eq_false_iff->Mg,false_or->KL,not_eq_true->Su,true->D5,false->hi
open Nat renaming gcd->Y,gcd_comm->YH,gcd_dvd_right->GH,mul_div_cancel'->Sv,gcd_zero_right->YF,gcd_dvd_left->xc,le_refl->Ih,strongRecOn->Ml,div_le_self->KO,le_trans->SN
open Classical renaming byContradiction->WF,not_not->Sw,not_forall->SK,not_imp->D8
open Int renaming mul_le_mul_of_nonneg_right->Pc,mul_neg_of_neg_of_pos->YG,eq_ofNat_of_zero_le->Xc,mul_lt_mul_of_pos_right->EE,mul_le_mul->SI,tdiv_eq_ediv_of_nonneg->SH,lt_of_mul_lt_mul_right->Mp,lt_trichotomy->YI,mul_nonneg->Mq,tdiv->SJ,natCast_mul->SL,ofNat_tmod->SM,mul_assoc->vk
open Option.some renaming injEq->Ii
open Prod.mk renaming injEq->QK
open Option renaming some->Sy
open Decidable renaming decide->h2
namespace Go.Vm
instance lpN:LP:=⟨none⟩
section
variable {σ ρ : Type}
theorem A5{body:σ->O _}{x:σ}{r:ρ}:au body x=Sy r↔ ∃n,tH body n x=Sy r:=hse
theorem aD{body:σ->O (Step σ ρ)}{x y:σ}(h:body x=Sy (.next y)):au body x=au body y:=by
 apply Option.ext;intro r;rw[A5,A5];constructor
 ·rintro⟨n,hn⟩
  cases n with
  |zero=>cases hn
  |succ n=>simp[tH,]at hn;grind
 rintro⟨n,hn⟩
 exact⟨n+1,by simp[tH,h];exact hn⟩
theorem ar{body:σ->O _}{x:σ}{r:ρ}(h:body x=Sy (.done r)):au body x=Sy r:=
 A5.2 ⟨1,by simp[tH,h]⟩
end
end Go.Vm
namespace Go.Proofs.YtbelikaakgedaaaGreat
open Go.Vm
abbrev Em(n:Int):Prop:= -9223372036854775808<=n/\n<9223372036854775808
abbrev KR(n:Int):Prop:=0<=n/\n<18446744073709551616
theorem wi(n:Int):M d5 n=(n+9223372036854775808)%18446744073709551616-9223372036854775808:=by
 rw[zu];simp[IntKind.wrap,IntKind.bits,IntKind.signed,]
 grind
theorem wu(n:Int):M .u64 n=n%18446744073709551616:=by rw[zu];rfl
theorem dN{n:Int}(h:Em n):M d5 n=n:=by rw[wi];omega
theorem cC{a b:Int}(h:a≠b):(a !=b)=D5:=by simpa using h
theorem aY{a b:Int}(h:a=b):(a !=b)=hi:=by simpa using h
theorem ju{a b:Int}(h:a=b):(a==b)=D5:=by simpa using h
theorem hO{a b:Int}(h:a≠b):(a==b)=hi:=by simpa using h
theorem agI(a b:Int):(a==b)=h2 (a=b):=by rfl
theorem lt_or_ge(a b:Int):a<b\/b<=a:=by omega
theorem ak6(a:Int):lR .u64 a 32=a / 4294967296:=by
 unfold lR;rw[show(min _ _)=32 from by decide,show(2:Int)^32=4294967296 from by decide]
 grind
theorem Wf{a:Int}(h:KR a):uC .u64 a 4294967295=a%4294967296:=by
 obtain⟨n,rfl⟩:=Xc h.1;unfold uC;have e:(BitVec.ofInt _ (n:Int)&&&BitVec.ofInt (IntKind.bits .u64) 4294967295).toNat=n%4294967296:=by
  rw[BitVec.toNat_and];have e1:(BitVec.ofInt (IntKind.bits .u64) (n:Int)).toNat=n:=by
   rw[BitVec.toNat_ofInt];have:((2^(IntKind.bits .u64):Nat):Int)=18446744073709551616:=by decide
   rw[this];omega
  have e2:(BitVec.ofInt (IntKind.bits .u64) (4294967295:Int)).toNat=2^32-1:=by decide
  rw[e1,e2,Nat.and_two_pow_sub_one_eq_mod]
 rw[e];have:=wu ((n%4294967296:Nat):Int)
 grind[zu]
theorem agJ{a b:Nat}(ha:a<1000000000)(hb:b<1000000000):M d5 (lR .u64 (M .u64 (M d5 ((a:Int)+(b:Int)))) 1)=(((a+b) / 2:Nat):Int):=by unfold lR;rw[show(min _ _)=1 from by decide,show(2:Int)^1=2 from by decide,Int.fdiv_eq_ediv_of_nonneg _ (by decide),wi _,wu,wi];omega
section
variable {σ ρ : Type} {body : σ -> O (Step σ ρ)}
theorem bc(st:Nat->σ)(n:Nat)(h: ∀i,i<n->body (st i)=Sy (.next (st (i+1)))):au body (st 0)=au body (st n):=by
 induction n with
 |zero=>rfl
 |succ n ih=>
  grind[aD]
theorem dX(st:Nat->σ)(n:Nat)(c:Nat->Prop){r e:ρ}(h: ∀i,i<n->(c i->body (st i)=Sy (.done r))/\(¬c i->body (st i)=Sy (.next (st (i+1)))))
 (Rx:body (st n)=Sy (.done e)):((∃i,i<n/\c i)->au body (st 0)=Sy r)/\((∀i,i<n-> ¬c i)->au body (st 0)=Sy e):=by
 constructor
 ·rintro⟨i,N,hc⟩
  have key: ∀k,k<=n->(∃i,i<n/\n-k<=i/\c i)->au body (st (n-k))=Sy r:=by
   intro k
   induction k with
   |zero=>omega
   |succ k ih=>
    rintro hk ⟨i,D,S,h3⟩
    by_cases hc:c (n- (k+1))
    ·exact ar ((h _ (by omega)).1 hc)
    rw[aD ((h _ (by omega)).2 hc),show n- (k+1)+1=n-k by omega]
    refine ih (by omega) ⟨i,D,?_,h3⟩
    by_cases he:i=n- (k+1)
    ·subst he;exact absurd h3 hc
    omega
  have:=key n (Ih n) ⟨i,N,by omega,hc⟩
  grind
 intro hn
 rw[bc st n λi N=>(h i N).2 (hn i N)];exact ar Rx
theorem least{c:Nat->Prop}: ∀{n:Nat},(∃i,i<n/\c i)-> ∃k,k<n/\c k/\ ∀j,j<k-> ¬c j
 |0,h=>by omega
 |n+1,h=>by
  by_cases X: ∃i,i<n/\c i
  ·obtain⟨k,D,S,h3⟩:=least X
   exact⟨k,by omega,S,h3⟩
  grind
theorem jK(st:Nat->σ)(n:Nat)(c:Nat->Prop)(r:Nat->ρ){e:ρ}(h: ∀i,i<n->(c i->body (st i)=Sy (.done (r i)))/\(¬c i->body (st i)=Sy (.next (st (i+1)))))
 (Rx:body (st n)=Sy (.done e)):(∀k,k<n->c k->(∀j,j<k-> ¬c j)->au body (st 0)=Sy (r k))/\((∀i,i<n-> ¬c i)->au body (st 0)=Sy e):=by
 constructor
 ·intro k hk hc hj
  rw[bc st k λi N=>(h i (by omega)).2 (hj i N)]
  grind[ar]
 intro hn
 rw[bc st n λi N=>(h i N).2 (hn i N)];exact ar Rx
theorem Kk(st:Nat->Nat->σ)(n m:Nat)(c:Nat->Prop)
 (h: ∀lo N,lo<N->N<=n->(c ((lo+N) / 2)->body (st lo N)=Sy (.next (st ((lo+N) / 2+1) N)))/\(¬c ((lo+N) / 2)->body (st lo N)=Sy (.next (st lo ((lo+N) / 2)))))
 (D: ∀i,i<m->c i) (S: ∀i,m<=i->i<n-> ¬c i): ∀d lo N,N-lo<=d->lo<=m->m<=N->N<=n->au body (st lo N)=au body (st m m)
 |0,lo,N,hd,a,b,_=>by
  grind
 |d+1,lo,N,hd,a,b,e=>by
  by_cases I:lo<N
  ·by_cases hc:c ((lo+N) / 2)
   ·rw[aD ((h lo N I e).1 hc)]
    refine Kk st n m c h D S d _ _ (by omega) ?_ b e;refine WF λX=>?_
    exact S _ (by omega) (by omega) hc
   rw[aD ((h lo N I e).2 hc)]
   refine Kk st n m c h D S d _ _ (by omega) a ?_ (by omega);refine WF λX=>?_
   exact hc (D ((lo+N) / 2) (by omega))
  grind
end
section
variable {α : Type} [Inhabited α]
theorem aq(l:J α)(n:Nat)(h:n<OH l):az l (n:Int)=Sy l[n]!:=by
 show l[n]? =Sy l[n]!
 grind
theorem fh{l:J α}{i:Int}(h0:0<=i)(h:i<OH l):az l i=Sy l[i.toNat]!:=by
 grind[Xc,aq]
theorem cA{β:Type}(l:J β)(n:Nat)(a:β):bu l (n:Int) a=l.set n a:=rfl
theorem bQ(l:J α)(n m:Nat)(a:α):(l.set n a)[m]! =if m=n/\n<(OH l)then a else l[m]!:=by
 grind
theorem aU{l:J α}{x:α}:x∈l↔ ∃i,i<OH l/\l[i]! =x:=by
 rw[List.mem_iff_getElem];constructor
 ·rintro⟨i,h,rfl⟩;exact⟨i,h,getElem!_pos l i h⟩
 grind
theorem aJ{l:J α}{i:Nat}(h:i<OH l):l[i]!∈l:=aU.2 ⟨i,h,rfl⟩
theorem jx{l m:J α}{i:Nat}(h:i<OH l):(l++m)[i]! =l[i]!:=by
 grind
theorem zZ{l m:J α}{i:Nat}(h:(OH l)<=i):(l++m)[i]! =m[i-(OH l)]!:=by
 grind
theorem rz{l:J α}{n i:Nat}(h:i<n):(l.take n)[i]! =l[i]!:=by
 grind
theorem Cs{l:J α}{n i:Nat}:(l.drop n)[i]! =l[n+i]!:=by simp
theorem nj{l m:J α}(I:(OH l)=OH m)(h: ∀i,i<OH l->l[i]! =m[i]!):l=m:=by
 grind[List.ext_getElem]
theorem Ny{l:J α}{i:Nat}(h:i<OH l):l=l.take i++l[i]!::l.drop (i+1):=by simp_all
end
theorem bJ{α:Type}{l:J α}(h:(OH l)<=1048576):bL l=Sy l:=by unfold bL;rw[Do h]
theorem ba{α:Type}{l m:J α}(h:(OH l)+OH m<=1048576):aQ l m=Sy (l++m):=by unfold aQ;rw[Do h]
@[simp] theorem aj{α β:Type}(a:α)(f:α->O β):(Sy a).bind f=f a:=rfl
end Go.Proofs.YtbelikaakgedaaaGreat
namespace Go.Proofs.YtbelikaakgedaaaGreat
open Go.Vm Classical
theorem nF{n:Int}(h:Em n):kK n=Sy (n.natAbs:Int):=by
 unfold kK;simp[wi,wu]
 grind
theorem o6{n:Int}(h:Em n):oh n=Sy (n.natAbs:Int):=by
 unfold oh;simp[wu]
 grind
theorem wV(m n:Nat):vo m n=Sy (Y m n:Int):=by
 unfold vo
 induction n using Ml generalizing m with
 |ind n ih=>
  by_cases h0:n=0
  ·subst h0
   rw[YF];exact ar (by rfl)
  have e:yo ((m:Int),(n:Int))=Sy (.next ((n:Int),((m%n:Nat):Int))):=by
   have D:((n:Int) !=0)=D5:=by simp;omega
   have S:((n:Int)==0)=hi:=by simp;omega
   simp only[yo,D,S,ww,AC,SM]
  rw[aD e,ih _ (Nat.mod_lt _ (by omega)) n,YH m n,Nat.gcd_rec n m,YH]
theorem hf0(m n:Nat):Cl m n=Sy (Y m n:Int):=by
 unfold Cl
 induction n using Ml generalizing m with
 |ind n ih=>
  by_cases h0:n=0
  ·subst h0
   rw[YF];exact ar (by rfl)
  have e:Df ((m:Int),(n:Int))=Sy (.next ((n:Int),((m%n:Nat):Int))):=by
   have D:h2 (0<(n:Int))=D5:=by simp;omega
   have S:((n:Int)==0)=hi:=by simp;omega
   simp only[Df,D,S,ww,AC,SM]
  rw[aD e,ih _ (Nat.mod_lt _ (by omega)) n,YH m n,Nat.gcd_rec n m,YH]
def bI(r:Int×Int):Prop:=1<=r.2/\r.1≠ -9223372036854775808/\Y r.2.natAbs r.1.natAbs=1
abbrev jo(r:Int×Int):Prop:=Em r.1/\Em r.2
theorem bR{r:Int×Int}(h:jo r):dP r=Sy (if bI r then 0 else 8):=by
 obtain⟨a,b⟩:=r;obtain⟨ha,hb⟩:=h;unfold dP bI
 by_cases D:b<1
 ·grind
 have e3:M .u64 b=(b.natAbs:Int):=by rw[wu];omega
 simp[o6 ha,e3,hf0];have hp:0<Y b.natAbs a.natAbs:=Nat.gcd_pos_of_pos_left _ (by omega)
 grind
theorem jL{r:Int×Int}(h:jo r):m9 r=Sy (if bI r then 0 else 8):=by
 obtain⟨a,b⟩:=r;obtain⟨ha,hb⟩:=h;unfold m9 bI
 by_cases D:b<1
 ·grind
 by_cases S:a= -9223372036854775808
 ·grind
 have e3:M .u64 b=(b.natAbs:Int):=by rw[wu];omega
 simp[nF ha,e3,wV]
 grind
theorem adf(x y:Int)(X:KR x)(hy:KR y): ∃p q r s:Int,0<=p/\p<=18446744065119617025/\0<=q/\q<=18446744065119617025/\0<=r/\r<=18446744065119617025/\0<=s/\s<=18446744065119617025/\
 x / 4294967296*(y / 4294967296)=p/\x / 4294967296*(y%4294967296)=q/\x%4294967296*(y / 4294967296)=r/\x%4294967296*(y%4294967296)=s/\
 x*y=p*18446744073709551616+(q+r)*4294967296+s:=by
 have Pq:0<=x / 4294967296/\x / 4294967296<=4294967295:=by omega
 have Q2:0<=x%4294967296/\x%4294967296<=4294967295:=by omega
 have XL:0<=y / 4294967296/\y / 4294967296<=4294967295:=by omega
 have Zl:0<=y%4294967296/\y%4294967296<=4294967295:=by omega
 have ex:x=x / 4294967296*4294967296+x%4294967296:=by omega
 have ey:y=y / 4294967296*4294967296+y%4294967296:=by omega
 generalize x / 4294967296=a at*;generalize x%4294967296=b at*;generalize y / 4294967296=c at*;generalize y%4294967296=d at*;have bd: ∀{u v:Int},0<=u/\u<=4294967295->0<=v/\v<=4294967295->0<=u*v/\u*v<=18446744065119617025:=by
  intro u v hu hv;refine⟨Mq hu.1 hv.1,?_⟩
  calc u*v<=4294967295*4294967295:=SI hu.2 hv.2 hv.1 (by decide)
   _=_:=by decide
 refine⟨a*c,a*d,b*c,b*d,(bd Pq XL).1,(bd Pq XL).2,(bd Pq Zl).1,(bd Pq Zl).2,(bd Q2 XL).1,(bd Q2 XL).2,(bd Q2 Zl).1,(bd Q2 Zl).2,rfl,rfl,rfl,rfl,?_⟩
 grind
theorem IX{x y:Int}(X:KR x)(hy:KR y):iW x y=Sy (x*y / 18446744073709551616,x*y%18446744073709551616):=by
 unfold iW;obtain⟨p,q,r,s,F,p1,q0,q1,r0,r1,s0,s1,ad1,eq,er,es,exy⟩:=adf x y X hy;have key: ∀z:Int,uC .u64 _ 4294967295=z%18446744073709551616%4294967296:=λz=>Wf (by constructor<;>omega)
 simp[ak6,Wf X,Wf hy,wu,key,];omega
theorem cho{x y:Int}(X:KR x)(hy:KR y):xu x y=Sy (hi,x*y / 18446744073709551616,x*y%18446744073709551616):=by
 unfold xu;obtain⟨p,q,r,s,F,p1,q0,q1,r0,r1,s0,s1,ad1,eq,er,es,exy⟩:=adf x y X hy;have t1: ∀a:Int,0<=a->SJ a 4294967296=a / 4294967296:=λa h=>SH h
 have t2: ∀a:Int,0<=a->Int.tmod a 4294967296=a%4294967296:=λa h=>Int.tmod_eq_emod_of_nonneg h
 simp[wu];rw[t1 x X.1,t1 y hy.1,t2 x X.1,t2 y hy.1];have f1:x / 4294967296%18446744073709551616=x / 4294967296:=by omega
 have f2:y / 4294967296%18446744073709551616=y / 4294967296:=by omega
 simp[f1,f2,];have g: ∀a:Int,SJ _ 4294967296=a%18446744073709551616 / 4294967296:=λa=>t1 _ (by omega)
 have g2: ∀a:Int,Int.tmod _ 4294967296=a%18446744073709551616%4294967296:=λa=>t2 _ (by omega)
 simp[g,g2,];omega
abbrev XX(a:Bool×Int×Int):Prop:=KR a.2.1/\KR a.2.2
theorem Gi{n:Int}(h:Em n):KR (n.natAbs:Int):=by omega
theorem Gj{n:Int}(h:Em n):(n.natAbs:Int)<=9223372036854775808:=by omega
theorem IY(a b:Int):((a.natAbs:Int)*(b.natAbs:Int))=((a*b).natAbs:Int):=by rw[Int.natAbs_mul];rfl
theorem z6{a b:Int}(ha:Em a)(hb:Em b):((a*b).natAbs:Int)<=85070591730234615865843651857942052864:=by
 rw[<-IY]
 calc (a.natAbs:Int)*(b.natAbs:Int)<=9223372036854775808*9223372036854775808:=SI (Gj ha) (Gj hb) (by omega) (by decide)
  _=_:=by decide
theorem DF{a b:Int}(ha:Em a)(hb:Em b):
 nD a b=Sy (h2 (a*b<0),((a*b).natAbs:Int) / 18446744073709551616,((a*b).natAbs:Int)%18446744073709551616):=by
 unfold nD;simp[nF ha,nF hb,cho (Gi ha) (Gi hb),IY];have hs:(a*b<0)↔((a<0/\0<b)\/(0<a/\b<0)):=by
  constructor
  ·intro h
   rcases YI a 0 with D|D|D
   ·rcases YI b 0 with S|S|S
    ·have:=Int.mul_pos_of_neg_of_neg D S;omega
    ·subst S;simp at h
    omega
   ·grind
   rcases YI b 0 with S|S|S
   ·omega
   ·grind
   have:=Int.mul_pos D S;omega
  rintro(⟨D,S⟩|⟨D,S⟩)
  ·exact YG D S
  exact Int.mul_neg_of_pos_of_neg D S
 have hd:h2 (a*b<0)=h2 ((a<0/\0<b)\/(0<a/\b<0)):=by simp[hs]
 rw[hd]
 by_cases D:a<0
 ·have Pn: ¬0<a:=by omega
  have aFn:(a !=0)=D5:=cC (by omega)
  by_cases S:b<0
  ·grind
  by_cases h3:b=0
  ·grind
  have ZV:0<b:=by omega
  grind
 by_cases h0:a=0
 ·grind
 have Pn:0<a:=by omega
 by_cases S:b<0
 ·have Vq:(b !=0)=D5:=cC (by omega)
  simp[D,S,Pn,cC h0,Vq]
 grind
theorem aa2{a b:Int}(ha:Em a)(hb:Em b):
 xT a b=Sy (!(h2 (a<0)==h2 (b<0)),((a*b).natAbs:Int) / 18446744073709551616,((a*b).natAbs:Int)%18446744073709551616):=by
 unfold xT;simp[o6 ha,o6 hb,IX (Gi ha) (Gi hb),IY]
def nS(a b:Int):Int:=if a<b then -1 else if b<a then 1 else 0
theorem aa3(a b:Int):mS a b=Sy (nS a b):=by
 unfold mS sy nS
 grind
theorem aaj(a b:Int):lW a b=Sy (nS a b):=by
 unfold lW q8 nS
 grind
theorem oE(a b:Int):fV a b=Sy (nS a b):=by
 unfold fV cmp_isNaN_int nS
 grind
theorem eJ(a b:Int):(a<b/\nS a b= -1)\/(a=b/\nS a b=0)\/(b<a/\nS a b=1):=by unfold nS;omega
theorem Rq(a b:Bool×Int×Int)(ha:XX a)(hb:XX b):wQ a b=Sy (nS (a.2.1*18446744073709551616+a.2.2) (b.2.1*18446744073709551616+b.2.2)):=by
 obtain⟨t,l1',bl⟩:=b;unfold wQ nS
 grind
theorem ahd(a b:Bool×Int×Int)(ha:XX a)(hb:XX b):xj a b=Sy (nS (a.2.1*18446744073709551616+a.2.2) (b.2.1*18446744073709551616+b.2.2)):=by
 obtain⟨t,l1',bl⟩:=b;unfold xj;simp[aaj,];unfold nS
 grind
theorem A6(a:Bool){n:Int}(h0:0<=n)(h:n<=85070591730234615865843651857942052864):XX (a,n / 18446744073709551616,n%18446744073709551616):=by
 grind
theorem Rr{n:Int}(h:(n.natAbs:Int)<=85070591730234615865843651857942052864):o4 (h2 (n<0),(n.natAbs:Int) / 18446744073709551616,(n.natAbs:Int)%18446744073709551616)=Sy (nS n 0):=by
 unfold o4 nS
 grind
def jq(a b:Int×Int):Int:=nS (a.1*b.2) (b.1*a.2)
theorem DG{a b:Int×Int}(ha:jo a)(hb:jo b):pM a b=Sy (jq a b):=by
 unfold pM jq;have n1:=z6 ha.1 hb.2;have n2:=z6 hb.1 ha.2;simp[DF ha.1 hb.2,DF hb.1 ha.2,Rr n1,Rr n2];generalize a.1*b.2=x at*;generalize b.1*a.2=y at*;rw[Rq _ _ (A6 _ (by omega) n1) (A6 _ (by omega) n2),Rq _ _ (A6 _ (by omega) n2) (A6 _ (by omega) n1)];simp;rcases eJ x 0 with⟨D,e1⟩|⟨D,e1⟩|⟨D,e1⟩<;>rcases eJ y 0 with⟨S,e2⟩|⟨S,e2⟩|⟨S,e2⟩<;>rw[e1,e2]<;>simp<;>
  unfold nS<;>(repeat' split)<;>first|rfl|omega
theorem agK{a b:Int×Int}(ha:jo a)(hb:jo b):Dg a b=Sy (if bI a/\bI b then 0 else 8):=by
 unfold Dg
 grind[bR,aj]
theorem yp{a b:Int×Int}(ha:jo a)(hb:jo b):pK a b=Sy (if bI a/\bI b then(jq a b,0)else(0,8)):=by
 unfold pK;rw[agK ha hb]
 by_cases h:bI a/\bI b
 ·rw[Do h,Do h]
  obtain⟨⟨a1,a2,a3⟩,b1,b2,b3⟩:=h;have n1:=z6 ha.1 hb.2;have n2:=z6 hb.1 ha.2;simp[aa3,aa2 ha.1 hb.2,aa2 hb.1 ha.2];rw[ahd _ _ (A6 _ (by omega) n1) (A6 _ (by omega) n2)];have ex:((a.1*b.2).natAbs:Int) / 18446744073709551616*18446744073709551616+((a.1*b.2).natAbs:Int)%18446744073709551616=((a.1*b.2).natAbs:Int):=by omega
  have ey:((b.1*a.2).natAbs:Int) / 18446744073709551616*18446744073709551616+((b.1*a.2).natAbs:Int)%18446744073709551616=((b.1*a.2).natAbs:Int):=by omega
  simp[ex,ey,];unfold jq;have s1:(a.1<0↔a.1*b.2<0):=by
   constructor
   ·intro h;exact YG h (by omega)
   intro h;rcases lt_or_ge a.1 0 with D|D
   ·exact D
   have:=Mq D (show 0<=b.2 by omega);omega
  have s2:(b.1<0↔b.1*a.2<0):=by
   constructor
   ·intro h;exact YG h (by omega)
   intro h;rcases lt_or_ge b.1 0 with D|D
   ·exact D
   have:=Mq D (show 0<=a.2 by omega);omega
  generalize a.1*b.2=x at*;generalize b.1*a.2=y at*
  by_cases D:a.1<0<;>by_cases S:b.1<0
  ·have h3:=s1.1 D;have h4:=s2.1 S
   have:M d5 (-nS (x.natAbs:Int) (y.natAbs:Int))=nS x y:=by rw[wi];unfold nS;(repeat' split)<;>omega
   simp[D,S,this]
  ·have h3:=s1.1 D;have h4:=λh=>S (s2.2 h)
   have:nS a.1 b.1=nS x y:=by unfold nS;(repeat' split)<;>omega
   simp[D,S,this]
  ·have h3:=λh=>D (s1.2 h);have h4:=s2.1 S
   have:nS a.1 b.1=nS x y:=by unfold nS;(repeat' split)<;>omega
   simp[D,S,this]
  have:nS (x.natAbs:Int) (y.natAbs:Int)=nS x y:=by unfold nS;(repeat' split)<;>omega
  simp[D,S,this]
 grind
abbrev Pt:=Int×Int×Int
def gO(p:Pt):Prop:=0<=p.1/\p.1<=65535/\ -1048576<=p.2.1/\p.2.1<=1048576/\ -1048576<=p.2.2/\p.2.2<=1048576
theorem hM(p:Pt):mR p=Sy (if gO p then 0 else 8):=by
 unfold mR uR gO
 grind
theorem jM(p:Pt):ug p=Sy (if gO p then 0 else 8):=by
 unfold ug gO
 grind
theorem Gk{x y:Int}(X:Em x)(hy:Em y): -85070591730234615865843651857942052864<=x*y/\x*y<=85070591730234615865843651857942052864:=by have:=z6 X hy;omega
theorem aiH{x y:Int}(X:Em x)(hy:Em y):(x%18446744073709551616)*(y%18446744073709551616)=x*y+(if x<0 then y else 0)*18446744073709551616+(if y<0 then x else 0)*18446744073709551616+(if x<0/\y<0 then 340282366920938463463374607431768211456 else 0):=by
 by_cases D:x<0<;>by_cases S:y<0
 ·have e1:x%18446744073709551616=x+18446744073709551616:=by omega
  have e2:y%18446744073709551616=y+18446744073709551616:=by omega
  rw[e1,e2,Do D,Do S,Do ⟨D,S⟩];grind
 ·have e1:x%18446744073709551616=x+18446744073709551616:=by omega
  have e2:y%18446744073709551616=y:=by omega
  rw[e1,e2,Do D,EQ S,EQ (λh=>S h.2)];grind
 ·have e1:x%18446744073709551616=x:=by omega
  have e2:y%18446744073709551616=y+18446744073709551616:=by omega
  rw[e1,e2,EQ D,Do S,EQ (λh=>D h.1)];grind
 grind
theorem ai8{a b:Int}(ha:0<=a)(hb:0<=b):wF a b 0=Sy ((a+b)%18446744073709551616,(a+b) / 18446744073709551616):=by unfold wF;simp[ha,hb]
theorem adg{a b c d u v:Int}(ha:Em a)(hb:Em b):rU (a,b,c,d,0,u,v,0,0)=Sy (.next (a,b,c,d,1,u,v,a*b / 18446744073709551616,a*b%18446744073709551616)):=by
 unfold rU;have hm:=IX (x:=M .u64 a) (y:=M .u64 b) (by grind[wu]) (by grind[wu]);have Vl:=Gk ha hb;have hu:=aiH ha hb;simp[hm,];simp[wu,]
 by_cases D:a<0<;>by_cases S:b<0
 all_goals
  simp[D,S,];rw[ai8 (by omega) (by omega)];simp[wi,];omega
theorem adh{a b c d u v h l:Int}(hc:Em c)(hd:Em d)(I:KR l)
 (_hh: -9223372036854775808<=h/\h<9223372036854775808) (hs: -170141183460469231731687303715884105728<=h*18446744073709551616+l+c*d/\h*18446744073709551616+l+c*d<170141183460469231731687303715884105728):
 rU (a,b,c,d,1,u,v,h,l)=Sy (.next (a,b,c,d,2,u,v,(h*18446744073709551616+l+c*d) / 18446744073709551616,(h*18446744073709551616+l+c*d)%18446744073709551616)):=by
 unfold rU;have hm:=IX (x:=M .u64 c) (y:=M .u64 d) (by grind[wu]) (by grind[wu]);have hu:=aiH hc hd;simp[hm,];simp[wu,hu]
 by_cases D:c<0<;>by_cases S:d<0
 all_goals
  simp[D,S,];rw[ai8 (by omega) (by omega)];simp[wi,];omega
theorem got{a b c d:Int}(ha:Em a)(hb:Em b)(hc:Em c)(hd:Em d)(hs: -170141183460469231731687303715884105728<=a*b+c*d/\a*b+c*d<170141183460469231731687303715884105728):
 Dh (a,b,c,d)=Sy ((a*b+c*d) / 18446744073709551616,(a*b+c*d)%18446744073709551616):=by
 unfold Dh;have Vl:=Gk ha hb;have e:a*b / 18446744073709551616*18446744073709551616+a*b%18446744073709551616+c*d=a*b+c*d:=by omega
 rw[aD (adg ha hb),aD (adh hc hd (by omega) (by omega) (by rw[e];exact hs)),e];exact ar rfl
def G2(p q:Pt)(t:Int×Int):Int:=(p.2.1-q.2.1)*t.2+(p.2.2-q.2.2)*t.1
def leads(p q:Pt)(t:Int×Int):Prop:=0<G2 p q t\/(G2 p q t=0/\(q.2.2<p.2.2\/(p.2.2=q.2.2/\p.1<q.1)))
def T0(p q:Pt)(t:Int×Int):Int:=if G2 p q t<0 then -1 else if 0<G2 p q t then 1 else if p.2.2<q.2.2 then -1 else if q.2.2<p.2.2 then 1 else nS q.1 p.1
theorem Nz(p q:Pt)(t:Int×Int):0<T0 p q t↔leads p q t:=by
 unfold T0 leads
 by_cases D:G2 p q t<0
 ·omega
 by_cases S:0<G2 p q t
 ·omega
 rcases eJ q.1 p.1 with⟨h,e⟩|⟨h,e⟩|⟨h,e⟩<;>rw[e]<;>omega
theorem Gl(a b:Int):zL [a,b]=Sy (if a≠0 then a else b):=by
 unfold zL
 by_cases D:a=0
 ·subst D
  rw[aD (y:=(0,[0,b],2,1)) (by rfl)]
  by_cases S:b=0
  ·subst S
   rw[aD (by rfl)];exact ar rfl
  refine(ar (r:=b) ?_).trans (by simp)
  have e:Bv (0,[0,b],2,1)=(bif b !=0 then Sy _ else Sy _):=rfl
  grind
 refine(ar (r:=a) ?_).trans (by simp[D])
 have e:Bv (0,[a,b],Int.ofNat [a,b].length,0)=(bif a !=0 then Sy _ else Sy _):=rfl
 grind
theorem adj{p q:Pt}{t:Int×Int}(hp:gO p)(hq:gO q)(ht:jo t):Em (p.2.1-q.2.1)/\Em (p.2.2-q.2.2)/\ -170141183460469231731687303715884105728<=G2 p q t/\G2 p q t<170141183460469231731687303715884105728:=by
 obtain⟨a1,a2,a3,a4,a5,a6⟩:=hp;obtain⟨b1,b2,b3,b4,b5,b6⟩:=hq;have D:Em (p.2.1-q.2.1):=by omega
 have S:Em (p.2.2-q.2.2):=by omega
 have k: ∀{x y:Int},-2097152<=x/\x<=2097152->Em y-> -19342813113834066795298816<=x*y/\x*y<=19342813113834066795298816:=by
  intro x y X hy;have:((x*y).natAbs:Int)<=2097152*9223372036854775808:=by rw[<-IY];exact SI (by omega) (Gj hy) (by omega) (by decide)
  omega
 have k1:=k (x:=p.2.1-q.2.1) (by omega) ht.2;have k2:=k (x:=p.2.2-q.2.2) (by omega) ht.1;unfold G2;omega
theorem k0'{p q:Pt}{t:Int×Int}(hp:gO p)(hq:gO q)(ht:jo t):qt p q t=Sy (T0 p q t):=by
 obtain⟨g1,g2,g3⟩:=adj hp hq ht;unfold qt;rw[dN g1,dN g2,got g1 ht.2 g2 ht.1 g3];simp[aa3,oE,Gl];rw[show(p.2.1-q.2.1)*t.2+(p.2.2-q.2.2)*t.1=G2 p q t from rfl];unfold T0;generalize G2 p q t=n at*
 by_cases D:n<0
 ·grind
 by_cases S:0<n
 ·grind
 unfold nS
 grind
theorem agL {x y:Int} (X: -85070591730234615865843651857942052864<=x/\x<=85070591730234615865843651857942052864) (hy: -85070591730234615865843651857942052864<=y/\y<=85070591730234615865843651857942052864):
 Du (h2 (x<0),(x.natAbs:Int) / 18446744073709551616,(x.natAbs:Int)%18446744073709551616) (h2 (y<0),(y.natAbs:Int) / 18446744073709551616,(y.natAbs:Int)%18446744073709551616)=
  Sy (h2 (x+y<0),((x+y).natAbs:Int) / 18446744073709551616,((x+y).natAbs:Int)%18446744073709551616):=by
 have n1:(x.natAbs:Int)<=85070591730234615865843651857942052864:=by omega
 have n2:(y.natAbs:Int)<=85070591730234615865843651857942052864:=by omega
 unfold Du;rw [Rq _ _ (A6 _ (by omega) n1) (A6 _ (by omega) n2)];have ex:((x.natAbs:Int) / 18446744073709551616)*18446744073709551616+(x.natAbs:Int)%18446744073709551616=(x.natAbs:Int):=by omega
 have ey:((y.natAbs:Int) / 18446744073709551616)*18446744073709551616+(y.natAbs:Int)%18446744073709551616=(y.natAbs:Int):=by omega
 simp only [ex,ey,aj];have same: ∀{Sx vx Z:Int},0<=Sx->0<=vx->Sx<=85070591730234615865843651857942052864->vx<=85070591730234615865843651857942052864->Z=Sx+vx-> ∀b:Bool,
  (bif h2 (M .u64 (Sx%18446744073709551616+vx%18446744073709551616)<Sx%18446744073709551616) then Sy (b,M .u64 (M .u64 (Sx / 18446744073709551616+vx / 18446744073709551616)+1),M .u64 (Sx%18446744073709551616+vx%18446744073709551616))
   else Sy (b,M .u64 (Sx / 18446744073709551616+vx / 18446744073709551616),M .u64 (Sx%18446744073709551616+vx%18446744073709551616)))=Sy (b,Z / 18446744073709551616,Z%18446744073709551616):=by
  intro Sx vx Z D S h3 h4 h5 b;subst h5;simp only [wu]
  by_cases h:(Sx%18446744073709551616+vx%18446744073709551616)%18446744073709551616<Sx%18446744073709551616
  · simp only [h,decide_true,ww,Ii,QK,true_and];constructor<;>omega
  simp only [h,decide_false,AC,Ii,QK,true_and];constructor<;>omega
 have minus: ∀{Sx vx Z:Int} (b c:Bool),0<=Sx->0<=vx->Sx<=85070591730234615865843651857942052864->vx<=Sx->Z=Sx-vx->xZ (b,Sx / 18446744073709551616,Sx%18446744073709551616) (c,vx / 18446744073709551616,vx%18446744073709551616)=Sy (hi,Z / 18446744073709551616,Z%18446744073709551616):=by
  intro Sx vx Z b c D S h3 h4 h5;subst h5;unfold xZ;simp only [wu]
  by_cases h:Sx%18446744073709551616<vx%18446744073709551616
  · simp only [h,decide_true,ww,Ii,QK,true_and];constructor<;>omega
  simp only [h,decide_false,AC,Ii,QK,true_and];constructor<;>omega
 by_cases D:x<0<;>by_cases S:y<0
 · have h3:x+y<0:=by omega
   simp only [D,S,h3,decide_true,beq_self_eq_true,ww];exact same (by omega) (by omega) n1 n2 (by omega) D5
 · simp only [D,S,decide_true,decide_false,show (D5==hi)=hi from rfl,AC,ww]
   by_cases h3:(y.natAbs:Int)<=(x.natAbs:Int)
   · have e:h2 (0<=nS (x.natAbs:Int) (y.natAbs:Int))=D5:=by
      rcases eJ (x.natAbs:Int) (y.natAbs:Int) with ⟨h,e⟩|⟨h,e⟩|⟨h,e⟩<;>rw [e]<;>first|rfl|omega
     rw [e,minus (Z:=((x+y).natAbs:Int)) _ _ (by omega) (by omega) n1 h3 (by omega)];simp only [ww,aj]
     by_cases h4:x+y=0
     · rw [h4];rfl
     have h5:x+y<0:=by omega
     by_cases h6:0<((x+y).natAbs:Int) / 18446744073709551616
     · simp [h5,h6]
     have h7:0<((x+y).natAbs:Int)%18446744073709551616:=by omega
     simp only [h5,h6,h7,decide_true,decide_false,AC]
   have e:h2 (0<=nS (x.natAbs:Int) (y.natAbs:Int))=hi:=by
    rcases eJ (x.natAbs:Int) (y.natAbs:Int) with ⟨h,e⟩|⟨h,e⟩|⟨h,e⟩<;>rw [e]<;>first|rfl|omega
   rw [e,minus (Z:=((x+y).natAbs:Int)) _ _ (by omega) (by omega) n2 (by omega) (by omega)];have h5: ¬(x+y<0):=by omega
   simp [h5]
 · simp only [D,S,decide_true,decide_false,show (hi==D5)=hi from rfl,AC]
   by_cases h3:(y.natAbs:Int)<=(x.natAbs:Int)
   · have e:h2 (0<=nS (x.natAbs:Int) (y.natAbs:Int))=D5:=by
      rcases eJ (x.natAbs:Int) (y.natAbs:Int) with ⟨h,e⟩|⟨h,e⟩|⟨h,e⟩<;>rw [e]<;>first|rfl|omega
     rw [e,minus (Z:=((x+y).natAbs:Int)) _ _ (by omega) (by omega) n1 h3 (by omega)];have h5: ¬(x+y<0):=by omega
     simp [h5]
   have e:h2 (0<=nS (x.natAbs:Int) (y.natAbs:Int))=hi:=by
    rcases eJ (x.natAbs:Int) (y.natAbs:Int) with ⟨h,e⟩|⟨h,e⟩|⟨h,e⟩<;>rw [e]<;>first|rfl|omega
   rw [e,minus (Z:=((x+y).natAbs:Int)) _ _ (by omega) (by omega) n2 (by omega) (by omega)];have h5:x+y<0:=by omega
   simp [h5]
 grind
theorem ak7{p q:Pt}{t:Int×Int}(hp:gO p)(hq:gO q)(ht:jo t):Gb p q t=Sy (nS (G2 p q t) 0):=by
 obtain⟨g1,g2,g3⟩:=adj hp hq ht;unfold Gb;rw[dN g1,dN g2,DF g1 ht.2,DF g2 ht.1];simp only[aj];rw[agL (Gk g1 ht.2) (Gk g2 ht.1)];simp only[aj];rw[show(p.2.1-q.2.1)*t.2+(p.2.2-q.2.2)*t.1=G2 p q t from rfl];obtain⟨a1,a2,a3,a4,a5,a6⟩:=hp;obtain⟨b1,b2,b3,b4,b5,b6⟩:=hq;have k: ∀{x y:Int},-2097152<=x/\x<=2097152->Em y-> -19342813113834066795298816<=x*y/\x*y<=19342813113834066795298816:=by
  intro x y X hy;have:((x*y).natAbs:Int)<=2097152*9223372036854775808:=by rw[<-IY];exact SI (by omega) (Gj hy) (by omega) (by decide)
  omega
 have k1:=k (x:=p.2.1-q.2.1) (by omega) ht.2;have k2:=k (x:=p.2.2-q.2.2) (by omega) ht.1;have:((G2 p q t).natAbs:Int)<=85070591730234615865843651857942052864:=by unfold G2;omega
 rw[Rr this];rfl
theorem Ct{p q:Pt}{t:Int×Int}(hp:gO p)(hq:gO q)(ht:jo t):na p q t=Sy (h2 (leads p q t)):=by
 unfold na leads;rw[ak7 hp hq ht];simp;rcases eJ _ 0 with⟨h,e⟩|⟨h,e⟩|⟨h,e⟩<;>rw[e]
 ·have D: ¬(0<G2 p q t):=by omega
  have S: ¬(G2 p q t=0):=by omega
  simp[D,S]
 ·grind
 simp[h]
theorem BI{p q:Pt}{t:Int×Int}(ht:jo t):wK p q t=Sy (if gO p/\gO q/\bI t then(if p.1=q.1 then 2 else 0)else 8):=by
 unfold wK;simp[hM,bR ht,]
 grind
theorem agM{n d:Int}(hn:Em n)(hd:Em d):Di n d=qH n d:=by
 unfold Di qH
 by_cases h0:d=0
 ·subst h0;rfl
 simp only[o6 hn,o6 hd,nF hn,nF hd,aj,hf0,wV]
 have e1:((Y n.natAbs d.natAbs:Int)==0)=hi:=by simp;omega
 unfold Fb wR
 by_cases h3:n=0
 ·subst h3
  have z: ∀k:Int,M .u64 (SJ (((0:Int).natAbs:Nat):Int) k)=0:=λk=>by rw[show(((0:Int).natAbs:Nat):Int)=0 from rfl,Int.zero_tdiv];rfl
  have z2:M d5 0=0:=rfl;have z3:M d5 (0-0)=0:=rfl;simp only[z,z2,z3,];cases(!(hi==h2 (d<0)))<;>simp
 grind
noncomputable def met(p q:Pt):Int×Int:=((qH (p.2.1-q.2.1) (q.2.2-p.2.2)).getD ((0,0),0)).1
theorem ahf{n d:Int}(hn: -2097152<=n/\n<=2097152)(hd: -2097152<=d/\d<=2097152)(h0:d≠0): ∃r,qH n d=Sy (r,0)/\bI r/\jo r/\r.1*d=n*r.2:=by
 have T1:Em n:=by omega
 have hd':Em d:=by omega
 unfold qH;have e0:(d==0)=hi:=by simpa using h0
 have hp:0<Y n.natAbs d.natAbs:=Nat.gcd_pos_of_pos_right _ (by omega);have e1:((Y n.natAbs d.natAbs:Int)==0)=hi:=by simp;omega
 simp only[e0,nF T1,nF hd',aj,wV,e1];have q1:SJ (n.natAbs:Int) (Y n.natAbs d.natAbs:Int)=((n.natAbs / Y n.natAbs d.natAbs:Nat):Int):=by rfl
 have q2:SJ (d.natAbs:Int) (Y n.natAbs d.natAbs:Int)=((d.natAbs / Y n.natAbs d.natAbs:Nat):Int):=by rfl
 rw[q1,q2];have l1:n.natAbs / Y n.natAbs d.natAbs<=2097152:=SN (KO _ _) (by omega);have l2:d.natAbs / Y n.natAbs d.natAbs<=2097152:=SN (KO _ _) (by omega);have l3:=Nat.div_pos (Nat.le_of_dvd (by omega) (GH _ _)) hp;have co:Y (d.natAbs / Y n.natAbs d.natAbs) (n.natAbs / Y n.natAbs d.natAbs)=1:=by
  grind[YH,Nat.gcd_div,xc,GH,Nat.div_self]
 have v1:n.natAbs=Y n.natAbs d.natAbs*(n.natAbs / Y n.natAbs d.natAbs):=(Sv (xc _ _)).symm;have v2:d.natAbs=Y n.natAbs d.natAbs*(d.natAbs / Y n.natAbs d.natAbs):=(Sv (GH _ _)).symm;have val:(n.natAbs:Int)*((d.natAbs / Y n.natAbs d.natAbs:Nat):Int)=(d.natAbs:Int)*((n.natAbs / Y n.natAbs d.natAbs:Nat):Int):=by
  generalize n.natAbs / Y n.natAbs d.natAbs=a at*;generalize d.natAbs / Y n.natAbs d.natAbs=b at*;generalize Y n.natAbs d.natAbs=g at*;rw[v1,v2,SL,SL,vk,vk,Int.mul_comm _ (b:Int)]
 generalize n.natAbs / Y n.natAbs d.natAbs=a at*;generalize d.natAbs / Y n.natAbs d.natAbs=b at*;have w1:M .u64 (a:Int)=a:=by rw[wu];omega
 have w2:M .u64 (b:Int)=b:=by rw[wu];omega
 have made: ∀s:Bool,wR s (hi,0,(a:Int)) (hi,0,(b:Int))=Sy ((if s=D5 then -(a:Int)else a,(b:Int)),0):=by
  unfold wR;have v1:M d5 (a:Int)=a:=by rw[wi];omega
  have v2:M d5 (b:Int)=b:=by rw[wi];omega
  have v3:M d5 (0- (a:Int))= -(a:Int):=by rw[wi];omega
  grind
 have fin: ∀s:Bool,(if s=D5 then -(a:Int)else a)*d=n*b-> ∃r,(Sy ((if s=D5 then -(a:Int)else a,(b:Int)),(0:Int)):O _)=Sy (r,0)/\bI r/\jo r/\r.1*d=n*r.2:=by
  intro s hv;refine⟨_,rfl,?_,?_,hv⟩
  ·unfold bI
   dsimp only;refine⟨by omega,?_,?_⟩
   ·cases s
    ·simp only[Bool.false_eq_true,];omega
    simp;omega
   rw[show(if s=D5 then -(a:Int)else(a:Int)).natAbs=a by cases s<;>simp,show((b:Int)).natAbs=b by omega];exact co
  omega
 simp only[w1,w2,made,]
 by_cases D:(!(h2 (n<0)==h2 (d<0)))=D5
 ·rw[D]
  refine fin _ ?_
  grind
 rw[Su]at D;rw[D]
 refine fin hi ?_
 grind
theorem HM{p q:Pt}(hp:gO p)(hq:gO q)(h:p.2.2≠q.2.2):qH (p.2.1-q.2.1) (q.2.2-p.2.2)=Sy (met p q,0)/\bI (met p q)/\jo (met p q)/\(met p q).1*(q.2.2-p.2.2)=(p.2.1-q.2.1)*(met p q).2:=by
 obtain⟨a1,a2,a3,a4,a5,a6⟩:=hp;obtain⟨b1,b2,b3,b4,b5,b6⟩:=hq;obtain⟨r,D,S,h3⟩:=ahf (n:=p.2.1-q.2.1) (d:=q.2.2-p.2.2) (by omega) (by omega) (by omega);have:met p q=r:=by unfold met;rw[D];rfl
 grind
theorem g1'{p q:Pt}(hp:gO p)(hq:gO q):M d5 (p.2.1-q.2.1)=p.2.1-q.2.1/\M d5 (q.2.2-p.2.2)=q.2.2-p.2.2/\Em (p.2.1-q.2.1)/\Em (q.2.2-p.2.2):=by
 obtain⟨a1,a2,a3,a4,a5,a6⟩:=hp;obtain⟨b1,b2,b3,b4,b5,b6⟩:=hq
 grind[dN]
noncomputable def kg(h l:Pt)(t:Int×Int):(Int×Int)×Bool:=if leads l h t then(t,D5)else if h.2.2<l.2.2 then(met h l,D5)else((0,0),hi)
theorem ak8{p q:Pt}(hp:gO p)(hq:gO q)(h:p.2.2≠q.2.2):Gc p q=Sy (met p q):=by
 obtain⟨w1,w2,_,_⟩:=g1' hp hq;unfold Gc
 grind[HM]
theorem ck4{h l:Pt}{t:Int×Int}(hh:gO h)(I:gO l)(ht:jo t):xw h l t=Sy (kg h l t):=by
 unfold xw kg;rw[Ct I hh ht];simp
 grind[ak8]
theorem adk:bI (0,1):=by unfold bI;decide
theorem aea{h l:Pt}{t:Int×Int}(ht:jo t):
 yW h l t=Sy (if gO h/\gO l/\bI t/\h.1≠l.1 then((kg h l t).1,(kg h l t).2,0)else((0,0),hi,if gO h/\gO l/\bI t then 2 else 8)):=by
 unfold yW;rw[BI ht]
 by_cases D:gO h/\gO l/\bI t
 ·rw[Do D]
  by_cases S:h.1=l.1
  ·simp[D,S]
  obtain⟨hh,I,hr⟩:=D
  rw[EQ S,Do ⟨hh,I,hr,S⟩];simp[k0' I hh ht];unfold kg
  by_cases h3:leads l h t
  ·have:h2 (0<T0 l h t)=D5:=by simpa using(Nz l h t).2 h3
   rw[this];simp[h3]
  have:=decide_eq_false λk=>h3 ((Nz l h t).1 k)
  rw[this,EQ h3]
  by_cases h4:h.2.2<l.2.2
  ·have e:h2 (l.2.2<=h.2.2)=hi:=by simp;omega
   rw[e,Do h4];unfold Fc;obtain⟨w1,w2,i1,i2⟩:=g1' hh I;have e2:(h.2.2==l.2.2)=hi:=by simp;omega
   rw[BI (by constructor<;>constructor<;>decide),Do ⟨hh,I,adk⟩,EQ S];simp only[e2,w1,w2,agM i1 i2,(HM hh I (by omega)).1];rfl
  have e:h2 (l.2.2<=h.2.2)=D5:=by simp;omega
  rw[e,EQ h4];rfl
 grind
theorem IZ{h l:Pt}{t:Int×Int}(hh:gO h)(I:gO l)(ht:jo t)(hr:bI t)(S:(kg h l t).2=D5):bI (kg h l t).1/\jo (kg h l t).1:=by
 unfold kg at*
 by_cases h3:leads l h t
 ·grind
 rw[EQ h3]at S ⊢
 by_cases h4:h.2.2<l.2.2
 ·rw[Do h4];have:=(HM hh I (by omega)).2;exact⟨this.1,this.2.1⟩
 grind
theorem Wk: ∀(n:Nat) (l:J Nat),l.Nodup->(∀x∈l,x<n)->OH l<=n
 |0,l,_,h=>by
  cases l with
  |nil=>simp
  |cons a l=>exact absurd (h a (by simp)) (by omega)
 |n+1,l,hd,h=>by
  have D:=Wk n (l.filter (λx=>x≠n)) (hd.filter _) (by
   grind)
  have S:(OH l)<=(l.filter (λx=>x≠n)).length+1:=by
   induction l with
   |nil=>simp
   |cons a l ih=>
    rw[SG]at hd
    by_cases ha:a=n
    ·subst ha
     have e:l.filter (λx=>decide (x≠a))=l:=by rw[List.filter_eq_self];intro x X;simp;rintro rfl;exact hd.1 X
     rw[List.filter_cons_of_neg (by simp),e];simp
    grind
  omega
theorem aa4{n:Nat}{l:J Nat}(hd:l.Nodup)(h: ∀x∈l,x<n)(hn:n<=OH l): ∀x,x<n->x∈l:=by
 intro x X;refine WF λhc=>?_
 have:=Wk n _ (by rw[SG];exact⟨hc,hd⟩) (by
  intro y hy;rcases List.mem_cons.1 hy with rfl|hy
  ·exact X
  exact h y hy)
 grind
def fQ(l:J Pt):Prop:= ∀i,i+1<OH l->(l[i]!).1<(l[i+1]!).1
def aS(l:J Pt):Prop:=OH l<=64/\(∀p∈l,gO p)/\fQ l
noncomputable def z7(l:J Pt):Int:=if 64<(OH l)then 4 else if¬(∀p∈l,gO p)then 8 else if¬fQ l then 32 else 0
theorem eV{l:J Pt}:z7 l=0↔aS l:=by
 unfold z7 aS
 grind
theorem aN{n:Nat}(h:n<1000000000):M d5 ((n:Int)+1)=((n+1:Nat):Int):=by rw[wi];omega
theorem p5{n:Nat}(h:n<1000000000)(D:1<=n):M d5 ((n:Int)-1)=((n-1:Nat):Int):=by rw[wi];omega
theorem aB(n:Nat):Int.ofNat n=(n:Int):=rfl
theorem rc2(l:J Pt)(h:(OH l)<=64):au mh (1,l)=Sy (.done (if fQ l then 0 else 32)):=by
 by_cases I:(OH l)<=1
 ·have:fQ l:=λi N=>by omega
  rw[Do this];refine ar ?_;unfold mh
  grind
 have key:=dX (body:=mh) (λi=>(((i+1:Nat):Int),l)) (OH l-1) (λi=>(l[i+1]!).1<=(l[i]!).1) (r:= .done 32) (e:= .done 0) (by
  intro i N;have e1:h2 (((i+1:Nat):Int)<((OH l):Int))=D5:=by simp;omega
  have e2:M d5 (((i+1:Nat):Int)-1)=(i:Int):=by rw[wi];omega
  have hb:mh (((i+1:Nat):Int),l)=bif h2 ((l[i+1]!).1<=(l[i]!).1)then Sy (.done (.done 32))else Sy (.next (((i+1+1:Nat):Int),l)):=by unfold mh;simp (disch:=omega) only[aB,e1,ww,e2,aq,aj,aN]
  grind) (by
  unfold mh
  grind)
 by_cases hs:fQ l
 ·rw[Do hs]
  refine key.2 λi N=>?_
  have:=hs i (by omega);omega
 rw[EQ hs]
 unfold fQ at hs
 grind
theorem qS(f:Field):jI f=Sy (z7 f.am):=by
 unfold jI z7;rw[aB]
 by_cases h:64<OH f.am
 ·grind
 have:h2 ((64:Int)<((OH f.am):Int))=hi:=by simp;omega
 rw[this,EQ h];generalize f.am=l at*;have key:=dX (body:=qF) (λi=>((i:Int),l)) (OH l) (λi=> ¬gO l[i]!) (r:=8) (e:=if fQ l then 0 else 32) (by
  intro i N;have e1:h2 ((i:Int)<((OH l):Int))=D5:=by simp;omega
  have hb:qF ((i:Int),l)=bif(if gO l[i]! then(0:Int)else 8) !=0 then Sy (.done 8)else Sy (.next (((i+1:Nat):Int),l)):=by unfold qF;simp (disch:=omega) only[aB,e1,ww,aq,aj,jM,aN]
  grind) (by
  unfold qF;simp_all[rc2])
 by_cases hp: ∀p∈l,gO p
 ·grind
 obtain⟨p,hp⟩:=SK.1 hp
 obtain⟨hm,S⟩:=D8.1 hp;obtain⟨i,N,rfl⟩:=aU.1 hm
 grind
theorem rc3(l:J Pt)(h:(OH l)<=64):au lV (l,((OH l):Int),0,l)=Sy (.done (if fQ l then 0 else 32)):=by
 have key:=dX (body:=lV) (λi=>(l,((OH l):Int),(i:Int),l)) (OH l) (λi=>0<i/\(l[i]!).1<=(l[i-1]!).1) (r:= .done 32) (e:= .done 0) (by
  intro i N;have e1:h2 ((i:Int)<((OH l):Int))=D5:=by simp;omega
  by_cases h0:0<i
  ·have e3:h2 ((0:Int)<(i:Int))=D5:=by simp;omega
   have hb:lV (l,((OH l):Int),(i:Int),l)=bif h2 ((l[i]!).1<=(l[i-1]!).1)then Sy (.done (.done 32))else Sy (.next (l,((OH l):Int),((i+1:Nat):Int),l)):=by unfold lV;simp (disch:=omega) only[e1,e3,ww,aq,p5 (by omega) h0,aj,aN]
   grind
  ·have e3:h2 ((0:Int)<(i:Int))=hi:=by simp;omega
   constructor
   ·omega
   intro _
   unfold lV;simp (disch:=omega) only[e1,e3,ww,AC,aq,aj,aN]) (by
  unfold lV;simp)
 by_cases hs:fQ l
 ·rw[Do hs]
  refine key.2 λi N=>?_
  rintro⟨h0,D⟩;have:=hs (i-1) (by omega)
  grind
 rw[EQ hs]
 unfold fQ at hs
 grind
theorem fR(f:Field):dm f=Sy (z7 f.am):=by
 unfold dm z7;rw[aB]
 by_cases h:64<OH f.am
 ·grind
 have:h2 ((64:Int)<((OH f.am):Int))=hi:=by simp;omega
 rw[this,EQ h];generalize f.am=l at*;have key:=dX (body:=qp) (λi=>(l,((OH l):Int),(i:Int),l)) (OH l) (λi=> ¬gO l[i]!) (r:=8) (e:=if fQ l then 0 else 32) (by
  intro i N;have e1:h2 ((i:Int)<((OH l):Int))=D5:=by simp;omega
  have hb:qp (l,((OH l):Int),(i:Int),l)=bif(if gO l[i]! then(0:Int)else 8) !=0 then Sy (.done (if gO l[i]! then(0:Int)else 8))else Sy (.next (l,((OH l):Int),((i+1:Nat):Int),l)):=by unfold qp;simp (disch:=omega) only[e1,ww,aq,aj,hM,aN]
  grind) (by
  unfold qp;simp_all[rc3])
 by_cases hp: ∀p∈l,gO p
 ·grind
 obtain⟨p,hp⟩:=SK.1 hp
 obtain⟨hm,S⟩:=D8.1 hp;obtain⟨i,N,rfl⟩:=aU.1 hm
 grind
theorem eW{l:J Pt}(h:fQ l){i j:Nat}(rE:i<j)(hj:j<OH l):(l[i]!).1<(l[j]!).1:=by
 induction j with
 |zero=>omega
 |succ j ih=>
  have D:=h j hj
  grind
theorem o7{l:J Pt}(h:fQ l){i j:Nat}(N:i<OH l)(hj:j<OH l)(he:(l[i]!).1=(l[j]!).1):i=j:=by
 rcases Nat.lt_trichotomy i j with D|D|D
 ·have:=eW h D hj;omega
 ·exact D
 have:=eW h D N;omega
theorem hu0(l:J Pt)(id:Int)(I:(OH l)<=1000000):(∀k,k<OH l->(l[k]!).1=id->(∀j,j<k->(l[j]!).1≠id)->fO ⟨l⟩ id=Sy (k:Int))/\((∀k,k<OH l->(l[k]!).1≠id)->fO ⟨l⟩ id=Sy (-1)):=by
 refine jK (λi=>(id,(i:Int),l)) (OH l) (λi=>(l[i]!).1=id) (λi=>(i:Int)) (λi N=>?_) ?_
 ·have e1:h2 ((i:Int)<((OH l):Int))=D5:=by simp;omega
  have hb:AQ (id,(i:Int),l)=bif(l[i]!).1==id then Sy (.done (i:Int))else Sy (.next (id,((i+1:Nat):Int),l)):=by unfold AQ;simp (disch:=omega) only[aB,e1,ww,aq l i N,aj,aN]
  grind
 unfold AQ
 simp
theorem Cu{l:J Pt}(hs:fQ l)(I:(OH l)<=1000000){k:Nat}(hk:k<OH l){id:Int}(he:(l[k]!).1=id):fO ⟨l⟩ id=Sy (k:Int):=by
 refine(hu0 l id I).1 k hk he λj hj hc=>?_
 have:=eW hs hj hk;omega
theorem agN{l:J Pt}(I:(OH l)<=1000000){id:Int}(h: ∀k,k<OH l->(l[k]!).1≠id):fO ⟨l⟩ id=Sy (-1):=(hu0 l id I).2 h
theorem hgv(f:Nat->Int)(id:Int): ∀(n:Nat),(∀i j,i<j->j<n->f i<f j)-> ∃m,m<=n/\(∀i,i<m->f i<id)/\(∀i,m<=i->i<n->id<=f i)
 |0,_=>⟨0,Ih _,λi h=>by omega,λi _ h=>by omega⟩
 |n+1,h=>by
  obtain⟨m,D,S,h3⟩:=hgv f id n λi j a b=>h i j a (by omega)
  by_cases hm:m=n
  ·by_cases hf:f n<id
   ·refine⟨n+1,Ih _,λi N=>?_,λi a b=>by omega⟩
    grind
   refine⟨n,by omega,λi N=>S i (by omega),λi a b=>?_⟩
   grind
  refine⟨m,by omega,S,λi a b=>?_⟩
  grind
theorem bO{α:Type}[Inhabited α]{l:J α}:l.Nodup↔ ∀i j,i<j->j<OH l->l[i]!≠l[j]!:=by
 grind[List.pairwise_iff_getElem]
theorem cN{α:Type}[Inhabited α]{l:J α}{k:Nat}{x:α}:x∈l.take k↔ ∃i,i<k/\i<OH l/\l[i]! =x:=by
 rw[aU];constructor
 ·grind
 rintro⟨i,D,S,rfl⟩
 exact⟨i,by grind,rz D⟩
theorem cB{α:Type}[Inhabited α]{l:J α}{k:Nat}(h:k<OH l):l.take (k+1)=l.take k++[l[k]!]:=by simp_all
def marks(l:J Bool):J Int->J Bool
 | []=>l
 |x::r=>marks (bu l x D5) r
theorem rA: ∀(r:J Int) (l:J Bool),(marks l r).length=OH l
 | [],_=>rfl
 |x::r,l=>by rw[marks,rA r,Iy]
theorem HN: ∀(r:J Int) (l:J Bool) (x:Int),marks l (r++[x])=bu (marks l r) x D5
 | [],_,_=>rfl
 |y::r,l,x=>by show marks _ (r++[x])=_;rw[HN r];rfl
theorem uq: ∀(r:J Int) (l:J Bool) (i:Nat),(∀x∈r,0<=x)->i<OH l->(marks l r)[i]! =(l[i]!||h2 ((i:Int)∈r))
 | [],l,i,_,_=>by simp[marks]
 |x::r,l,i,h,N=>by
  rw[marks,uq r _ i (λy hy=>h y (by simp[hy])) (by rw[Iy];exact N)];obtain⟨k,rfl⟩:=Xc (h x (by simp));rw[cA,bQ]
  grind
theorem rc4(l:J Bool)(h:(OH l)<=1000000):fK l hi=Sy (h2 (hi∈l)):=by
 unfold fK uT;have key:=jK (body:=jz) (λi=>(l,hi,((OH l):Int),(i:Int))) (OH l) (λi=>l[i]! =hi) (λi=>(i:Int)) (e:= -1) (λi N=>by
  have e1:h2 ((i:Int)<((OH l):Int))=D5:=by simp;omega
  have hb:jz (l,hi,((OH l):Int),(i:Int))=bif hi==l[i]! then Sy (.done (i:Int))else Sy (.next (l,hi,((OH l):Int),((i+1:Nat):Int))):=by unfold jz;simp (disch:=omega) only[e1,ww,aq l i N,aj,aN]
  constructor
  ·intro hc;rw[hb,hc];rfl
  ·intro hc
   have:l[i]! =D5:=by simpa using hc
   rw[hb,this];rfl) (by
  unfold jz;simp)
 rw[aB]
 by_cases X:hi∈l
 ·obtain⟨i,N,he⟩:=aU.1 X
  obtain⟨k,D,S,h3⟩:=least (c:=λi=>l[i]! =hi) ⟨i,N,he⟩;have:=key.1 k D S h3;rw[show((0:Nat):Int)=0 from rfl]at this;rw[this];have e:h2 ((0:Int)<=(k:Int))=D5:=by simp
  simp[X]
 grind
structure gM(s:bg):Prop where
 n1:1<=OH s.aC
 n2:(OH s.aC)<=200
 ul:(OH s.be)=OH s.aC
 fr: ∀x∈s.bi,0<=x/\x<OH s.aC
 fd:s.bi.Nodup
 uf: ∀i,i<OH s.aC->(s.be[i]! =D5↔(i:Int)∉s.bi)
 us: ∀i,i<OH s.aC->0<=s.aC[i]!/\s.aC[i]!<=1000000/\(s.be[i]! =D5->1<=s.aC[i]!)
theorem rc5(aC:J Int)(be:J Bool)(fr:J Int)(D:(OH aC)<=200)(S:(OH be)=OH aC):
 au jv (aC,((OH aC):Int),0,aC,be,fr)=Sy (.done (if∀i,i<OH aC->0<=aC[i]!/\aC[i]!<=1000000/\(be[i]! =D5->1<=aC[i]!)then 0 else 8)):=by
 have key:=dX (body:=jv) (λi=>(aC,((OH aC):Int),(i:Int),aC,be,fr)) (OH aC) (λi=> ¬(0<=aC[i]!/\aC[i]!<=1000000/\(be[i]! =D5->1<=aC[i]!))) (r:= .done 8) (e:= .done 0) (λi N=>by
  have e1:h2 ((i:Int)<((OH aC):Int))=D5:=by simp;omega
  have hb:jv (aC,((OH aC):Int),(i:Int),aC,be,fr)=bif h2 (aC[i]!<0)then Sy (.done (.done 8))else bif h2 (1000000<aC[i]!)then Sy (.done (.done 8))else bif aC[i]! ==0 then(bif be[i]! then Sy (.done (.done 8))else Sy (.next (aC,((OH aC):Int),((i+1:Nat):Int),aC,be,fr)))else Sy (.next (aC,((OH aC):Int),((i+1:Nat):Int),aC,be,fr)):=by unfold jv;simp (disch:=omega) only[e1,ww,aq,aj,aN]
  rw[hb];generalize aC[i]! =u at*
  by_cases a1:u<0
  ·simp[a1];omega
  ·by_cases a2:1000000<u
   ·simp[a2];omega
   by_cases a3:u=0
   ·subst a3
    cases be[i]!<;>simp
   have a4:1<=u:=by omega
   simp[a1,a2,hO a3,a4,]) (by
  unfold jv;simp)
 grind
theorem BJ (s:bg) (hf:(OH s.bi)<=1000000):wJ s=Sy (if gM s then 0 else 8):=by
 obtain ⟨aC,be,fr⟩:=s;dsimp only at hf;unfold wJ;simp []
 by_cases a1:(OH aC)<1
 · have e:h2 (((OH aC):Int)<1)=D5:=by simp;omega
   rw [e,EQ (fun h=>by have:=h.n1;grind)];rfl
 have e1:h2 (((OH aC):Int)<1)=hi:=by simp;omega
 by_cases a2:200<OH aC
 · have e:h2 (200<((OH aC):Int))=D5:=by simp;omega
   rw [e1,e,EQ (fun h=>by have:=h.n2;grind)];rfl
 have e2:h2 (200<((OH aC):Int))=hi:=by simp;omega
 by_cases a3:(OH be)=OH aC
 case neg=>
  have e:(((OH be):Int) !=((OH aC):Int))=D5:=by simp;omega
  rw [e1,e2,e,EQ (fun h=>a3 h.ul)];rfl
 have e3:(((OH be):Int) !=((OH aC):Int))=hi:=by simp;omega
 simp (disch:=omega) only [e1,e2,e3,AC,bJ,aj];have P3:=rc5 aC be fr (by omega) a3;have key:=dX (body:=xi be) (fun k=>(fr,((OH fr):Int),(k:Int),aC,be,fr,((OH aC):Int),marks be (fr.take k))) (OH fr)
  (fun k=>fr[k]!<0\/((OH aC):Int)<=fr[k]!\/(marks be (fr.take k))[(fr[k]!).toNat]! =D5) (r:=8)
  (e:=if hi∈marks be fr then 8 else if∀i,i<OH aC->0<=aC[i]!/\aC[i]!<=1000000/\(be[i]! =D5->1<=aC[i]!) then 0 else 8) (fun k hk=>by
   have f1:h2 ((k:Int)<((OH fr):Int))=D5:=by simp;omega
   have f2:((marks be (fr.take k)).length==OH be)=D5:=by rw [rA];simp
   have f3:h2 ((0:Int)<=(k:Int))=D5:=by simp
   have f4: ∀x:Int,((bu (marks be (fr.take k)) x D5).length==(marks be (fr.take k)).length)=D5:=by simp
   have f5:marks be (fr.take (k+1))=bu (marks be (fr.take k)) fr[k]! D5:=by rw [cB hk,HN]
   unfold xi;simp (disch:=omega) only [f1,f2,f3,f4,ww,beq_self_eq_true,aq fr k hk,aj,aN,f5];clear f5;generalize fr[k]! =x
   by_cases b1:x<0
   · simp [b1]
   · by_cases b2:((OH aC):Int)<=x
     · simp [b1,b2]
     simp
     grind [fh,rA,aj]) (by
   have f1:h2 (((OH fr):Int)<((OH fr):Int))=hi:=by simp
   unfold xi;simp;rw [rc4 _ (by rw [rA];omega)];have f2:((marks be fr).length==OH be)=D5:=by rw [rA];simp
   grind)
 have h0:marks be (fr.take 0)=be:=rfl;rw [show ((0:Nat):Int)=0 from rfl,h0] at key
 by_cases bad: ∃k,k<OH fr/\(fr[k]!<0\/((OH aC):Int)<=fr[k]!\/(marks be (fr.take k))[(fr[k]!).toNat]! =D5)
 · rw [key.1 bad,EQ]
   intro ok;obtain ⟨k,hk,hb⟩:=bad;have hr:=ok.fr fr[k]! (aJ hk);dsimp only at hr;rcases hb with hb|hb|hb
   · omega
   · omega
   rw [uq _ _ _ (fun x X=>(ok.fr x (KJ X)).1) (by omega)] at hb
   have N:((fr[k]!).toNat:Int)=fr[k]!:=by omega
   rw [N,Bool.or_eq_true] at hb;rcases hb with hb|hb
   · have:=(ok.uf (fr[k]!).toNat (by show _<OH aC;omega)).1 hb
     grind
   have hm:fr[k]!∈fr.take k:=by simpa using hb
   obtain ⟨j,D,S,h3⟩:=cN.1 hm;exact bO.1 ok.fd j k D hk h3
 have Ft: ∀k,k<OH fr->0<=fr[k]!/\fr[k]!<OH aC/\(marks be (fr.take k))[(fr[k]!).toNat]! =hi:=by
  grind
 rw [key.2 fun k hk hb=>bad ⟨k,hk,hb⟩];have Wm: ∀x∈fr,0<=x/\x<((OH aC):Int):=by
  intro x X;obtain ⟨k,hk,rfl⟩:=aU.1 X
  grind
 have g2: ∀k,k<OH fr->be[(fr[k]!).toNat]! =hi/\fr[k]!∉fr.take k:=by
  intro k hk;obtain ⟨c1,c2,c3⟩:=Ft k hk;rw [uq _ _ _ (fun x X=>(Wm x (KJ X)).1) (by omega),show ((fr[k]!).toNat:Int)=fr[k]! by omega,Mg] at c3
  grind
 have nd:=bO.2 fun i j rE hj he=>(g2 j hj).2 (cN.2 ⟨i,rE,by omega,he⟩)
 by_cases X:hi∈marks be fr
 · rw [Do X,EQ]
   intro ok;obtain ⟨i,N,he⟩:=aU.1 X;rw [rA] at N;rw [uq _ _ _ (fun x X=>(Wm x X).1) N,Mg] at he;have h3:(i:Int)∉fr:=by simpa using he.2
   have:=(ok.uf i (by show _<OH aC;omega)).2 h3;rw [he.1] at this;cases this
 rw [EQ X]
 by_cases hu: ∀i,i<OH aC->0<=aC[i]!/\aC[i]!<=1000000/\(be[i]! =D5->1<=aC[i]!)
 · rw [Do hu,Do]
   refine ⟨by show 1<=OH aC;omega,by show (OH aC)<=200;omega,a3,Wm,nd,fun i N=>?_,hu⟩;dsimp only at N ⊢;constructor
   · intro D S
     obtain ⟨k,hk,he⟩:=aU.1 S;have:=(g2 k hk).1;rw [he,show ((i:Int)).toNat=i by omega,D] at this;cases this
   intro D
   refine WF fun S=>X ?_
   refine aU.2 ⟨i,by rw [rA];omega,?_⟩;rw [uq _ _ _ (fun x X=>(Wm x X).1) (by omega)];have:be[i]! =hi:=by simpa using S
   rw [this];simpa using D
 rw [EQ hu,EQ]
 intro ok;exact hu ok.us
theorem gM.fl{s:bg}(ok:gM s):(OH s.bi)<=(OH s.aC):=by
 have h:=Wk (OH s.aC) _ (by
  rw[bO];intro i j rE hj he;rw[Vg]at hj;have e: ∀k,k<OH s.bi->(s.bi.map Int.toNat)[k]! =(s.bi[k]!).toNat:=by intro k hk;rw[getElem!_pos _ k (by simpa using hk),List.getElem_map,getElem!_pos s.bi k hk]
  rw[e i (by omega),e j hj]at he;have D:=(ok.fr _ (aJ (show i<(OH s.bi) by omega))).1;have S:=(ok.fr _ (aJ hj)).1;exact bO.1 ok.fd i j rE hj (by omega)) (by
  intro x X;obtain⟨y,hy,rfl⟩:=Mi.1 X;have:=ok.fr y hy;omega)
 grind
def A8(s:bg)(h:Int×Int):Prop:=0<=h.1/\h.1<OH s.aC/\s.be[h.1.toNat]! =D5/\s.aC[h.1.toNat]! =h.2
def lh(s:bg)(h:Int×Int):bg:=⟨s.aC,s.be.set h.1.toNat hi,s.bi++[h.1]⟩
def mn(s:bg):Nat:=(s.bi[OH s.bi-1]!).toNat
def Ea(s:bg):Prop:=0<OH s.bi/\s.aC[mn s]!<1000000
def jN(s:bg):bg:=⟨s.aC.set (mn s) (s.aC[mn s]!+1),s.be.set (mn s) D5,s.bi.take (OH s.bi-1)⟩
def o8(s:bg):Int×Int:=((mn s:Int),s.aC[mn s]!+1)
theorem hMC{s:bg}(ok:gM s)(h:Int×Int):Fh s h=Sy (h2 (A8 s h),0):=by
 have I:=ok.fl;have hn:=ok.n2;have hu:=ok.ul;unfold Fh A8;rw[BJ s (by omega),Do ok];simp only[aB]
 by_cases a1:0<=h.1
 ·by_cases a2:h.1<OH s.aC
  ·have e2:h2 (h.1<((OH s.be):Int))=D5:=by simp;omega
   simp (disch:=omega) only[a1,a2,e2,fh,];generalize s.aC[h.1.toNat]! =u;cases s.be[h.1.toNat]!<;>simp[agI]
  grind
 simp[a1]
theorem six{s:bg}(ok:gM s){h:Int×Int}(lv:A8 s h):F8 s h=Sy (lh s h,0):=by have I:=ok.fl;have hn:=ok.n2;have hu:=ok.ul;unfold F8;rw[hMC ok,decide_eq_true lv];unfold yl;obtain⟨l1,l2,l3,l4⟩:=lv;have e1:bu s.be h.1 hi=s.be.set h.1.toNat hi:=rfl;simp (disch:=omega) only[aj,show((0:Int) !=0)=hi from rfl,AC,PP,bJ,ba (show(OH s.bi)+[h.1].length<=1048576 by simp;omega),fh,e1,lh]
theorem BK{s:bg}(ok:gM s):qn s=Sy s:=by have I:=ok.fl;have hn:=ok.n2;have hu:=ok.ul;unfold qn;simp (disch:=omega) only[aj,bJ]
theorem alA{s:bg}(ok:gM s){h:Int×Int}(lv:A8 s h):uo s h=Sy (lh s h):=by have I:=ok.fl;have hn:=ok.n2;have hu:=ok.ul;obtain⟨l1,l2,l3,l4⟩:=lv;unfold uo;rw[BK ok];have e1:bu s.be h.1 hi=s.be.set h.1.toNat hi:=rfl;simp (disch:=omega) only[aj,ba (show(OH s.bi)+[h.1].length<=1048576 by simp;omega),fh,e1,lh]
theorem adm{s:bg}(ok:gM s){h:Int×Int}(lv:A8 s h):gM (lh s h):=by
 have hu:=ok.ul;obtain⟨l1,l2,l3,l4⟩:=lv;have nf:h.1∉s.bi:=by
  have:=(ok.uf h.1.toNat (by omega)).1 l3
  grind
 refine⟨ok.n1,ok.n2,?_,?_,?_,?_,?_⟩
 ·show(s.be.set _ _).length=_;rw[If];exact hu
 ·intro x X
  rcases YJ.1 X with X|X
  ·exact ok.fr x X
  rw[Pg]at X;subst X;exact⟨l1,l2⟩
 ·show(s.bi++[h.1]).Nodup
  rw[List.nodup_append];refine⟨ok.fd,by simp,?_⟩
  grind
 ·intro i N
  change i<(OH s.aC)at N;show(s.be.set h.1.toNat hi)[i]! =D5↔(i:Int)∉s.bi++[h.1];rw[bQ,YJ,Pg]
  by_cases e:i=h.1.toNat
  ·grind
  rw[EQ (λk=>e k.1),ok.uf i N]
  grind
 intro i N
 obtain⟨u1,u2,u3⟩:=ok.us i N;refine⟨u1,u2,?_⟩;show(s.be.set h.1.toNat hi)[i]! =D5->_;rw[bQ];split
 ·intro h;cases h
 exact u3
theorem Gm{s:bg}(ok:gM s)(h:0<OH s.bi):mn s<OH s.aC/\(mn s:Int)=s.bi[OH s.bi-1]!/\(mn s:Int)∈s.bi:=by
 have hm:=aJ (l:=s.bi) (i:=OH s.bi-1) (by omega);have:=ok.fr _ hm;have e:(mn s:Int)=s.bi[OH s.bi-1]!:=by unfold mn;omega
 grind
theorem lJ{α:Type}(l:J α)(n:Nat)(h:n<=OH l):gQ l 0 (n:Int)=Sy (l.take n):=by
 unfold gQ
 grind
theorem aa5{s:bg}(ok:gM s):F9 s=Sy (if Ea s then(jN s,o8 s,0)else(⟨[],[],[]⟩,(0,0),18)):=by
 have I:=ok.fl;have hn:=ok.n2;have hu:=ok.ul;unfold F9 Ea;rw[BJ s (by omega),Do ok];simp only[aj,show((0:Int) !=0)=hi from rfl,]
 by_cases a1:0<OH s.bi
 ·obtain⟨n1,n2,n3⟩:=Gm ok a1
  have e1:(((OH s.bi):Int)==0)=hi:=hO (by omega);have e2:M d5 _=((OH s.bi-1:Nat):Int):=p5 (by omega) (by omega);unfold zO;simp (disch:=omega) only[e1,aB,e2,lJ,aj,bJ (show(s.bi.take (OH s.bi-1)).length<=1048576 by rw[g'];omega),aq,<-n2,];obtain⟨u1,u2,u3⟩:=ok.us _ n1
  by_cases a2:s.aC[mn s]! =1000000
  ·have e3:(s.aC[mn s]! ==1000000)=D5:=by simpa using a2
   rw[e3,EQ (by omega)];rfl
  have e3:(s.aC[mn s]! ==1000000)=hi:=by simpa using a2
  have e4:M d5 (s.aC[mn s]!+1)=s.aC[mn s]!+1:=by rw[wi];omega
  rw[e3,Do (by omega)];simp (disch:=omega) only[AC,bJ,aj,aq,e4,cA,aq (s.aC.set (mn s) (s.aC[mn s]!+1)) _ (by rw[If];exact n1),bQ,n1,and_self,if_true,jN,o8]
 grind
theorem xC{s:bg}(ok:gM s):jk s=Sy (h2 (Ea s)):=by
 have I:=ok.fl;have hn:=ok.n2;unfold jk Ea;simp only[aB]
 by_cases a1:0<OH s.bi
 ·obtain⟨n1,n2,n3⟩:=Gm ok a1
  have e1:h2 ((0:Int)<((OH s.bi):Int))=D5:=by simp;omega
  have e2:M d5 _=((OH s.bi-1:Nat):Int):=p5 (by omega) (by omega);simp (disch:=omega) only[e1,e2,ww,aq,aj,<-n2,a1,true_and]
 grind
theorem ckN{s:bg}(ok:gM s)(h:Ea s):A0 s=Sy (jN s,o8 s):=by
 have I:=ok.fl;have hn:=ok.n2;have hu:=ok.ul;obtain⟨a1,a2⟩:=h;obtain⟨n1,n2,n3⟩:=Gm ok a1;obtain⟨u1,u2,u3⟩:=ok.us _ n1;unfold A0;rw[BK ok];have e2:M d5 _=((OH s.bi-1:Nat):Int):=p5 (by omega) (by omega);have e4:M d5 (s.aC[mn s]!+1)=s.aC[mn s]!+1:=by rw[wi];omega
 simp (disch:=omega) only[aj,aB,e2,aq,lJ,<-n2,e4,cA,aq (s.aC.set (mn s) (s.aC[mn s]!+1)) (mn s) (by grind),bQ,n1,and_self,if_true,jN,o8,Int.toNat_natCast]
theorem adn{s:bg}(ok:gM s)(h:Ea s):gM (jN s):=by
 have hn:=ok.n2;have hu:=ok.ul;obtain⟨a1,a2⟩:=h;obtain⟨n1,n2,n3⟩:=Gm ok a1;have mt: ∀x:Int,x∈s.bi.take (OH s.bi-1)↔(x∈s.bi/\x≠(mn s:Int)):=by
  intro x;rw[cN];constructor
  ·rintro⟨i,D,S,rfl⟩
   refine⟨aJ S,?_⟩;rw[n2];exact bO.1 ok.fd i _ D (by omega)
  rintro⟨D,S⟩
  obtain⟨i,N,rfl⟩:=aU.1 D
  grind
 refine⟨?_,?_,?_,?_,?_,?_,?_⟩
 ·show 1<=(s.aC.set _ _).length;grind
 ·show(s.aC.set _ _).length<=200;grind
 ·show(s.be.set _ _).length=(s.aC.set _ _).length;grind
 ·intro x X
  show 0<=x/\x<((s.aC.set _ _).length:Int);rw[If];exact ok.fr x ((mt x).1 X).1
 ·exact ok.fd.sublist (List.take_sublist _ _)
 ·intro i N
  change i<(s.aC.set _ _).length at N;rw[If]at N;show(s.be.set _ D5)[i]! =D5↔(i:Int)∉s.bi.take _;rw[bQ,mt]
  by_cases e:i=mn s
  ·grind
  rw[EQ (λk=>e k.1),ok.uf i N]
  grind
 intro i N
 change i<(s.aC.set _ _).length at N;rw[If]at N;obtain⟨u1,u2,u3⟩:=ok.us i N;show 0<=(s.aC.set _ _)[i]!/\(s.aC.set _ _)[i]!<=1000000/\((s.be.set _ D5)[i]! =D5->1<=(s.aC.set _ _)[i]!)
 grind
abbrev Ev:=Int×Int×Int×Int×Int
abbrev Ev.at(x:Ev):Int×Int:=(x.1,x.2.1)
abbrev Ev.num(x:Ev):Int:=x.2.2.1
abbrev Ev.ix(x:Ev):Int:=x.2.2.2.1
abbrev Ev.n(x:Ev):Nat:=x.2.2.2.1.toNat
theorem azv{x y:Ev}(h0:0<=x.ix)(D:0<=y.ix)(h:x.ix≠y.ix):x.n≠y.n:=by
 grind
def less(x y:Ev):Prop:=jq (x.1,x.2.1) (y.1,y.2.1)<0\/(jq (x.1,x.2.1) (y.1,y.2.1)=0/\x.2.2.1<y.2.2.1)
theorem rB{a b:Int×Int}:jq a b<0↔a.1*b.2<b.1*a.2:=by unfold jq;rcases eJ _ _ with⟨h,e⟩|⟨h,e⟩|⟨h,e⟩<;>rw[e]<;>constructor<;>intro<;>omega
theorem hw'{a b:Int×Int}:jq a b=0↔a.1*b.2=b.1*a.2:=by unfold jq;rcases eJ _ _ with⟨h,e⟩|⟨h,e⟩|⟨h,e⟩<;>rw[e]<;>constructor<;>intro<;>omega
theorem sX{x y:Ev}(h:less x y): ¬less y x:=by
 unfold less at*
 grind[rB,hw']
theorem ckF{a1 a2 b1 b2 c1 c2:Int}(ha:1<=a2)(hb:1<=b2)(hc:1<=c2)(D:a1*b2<=b1*a2)(S:b1*c2<=c1*b2):a1*c2<=c1*a2:=by
 have e1:a1*b2*c2<=b1*a2*c2:=Pc D (by omega);have e2:b1*c2*a2<=c1*b2*a2:=Pc S (by omega);have e3:(a1*c2)*b2<=(c1*a2)*b2:=by
  grind
 exact Int.le_of_mul_le_mul_right e3 (by omega)
theorem sj{a1 a2 b1 b2 c1 c2:Int}(ha:1<=a2)(hb:1<=b2)(hc:1<=c2)(D:a1*b2<b1*a2)(S:b1*c2<=c1*b2):a1*c2<c1*a2:=by
 have e1:a1*b2*c2<b1*a2*c2:=EE D (by omega);have e2:b1*c2*a2<=c1*b2*a2:=Pc S (by omega);have e3:(a1*c2)*b2<(c1*a2)*b2:=by
  grind
 exact Mp e3 (by omega)
theorem ck2{a1 a2 b1 b2 c1 c2:Int}(ha:1<=a2)(hb:1<=b2)(hc:1<=c2)(D:a1*b2<=b1*a2)(S:b1*c2<c1*b2):a1*c2<c1*a2:=by
 have e1:a1*b2*c2<=b1*a2*c2:=Pc D (by omega);have e2:b1*c2*a2<c1*b2*a2:=EE S (by omega);have e3:(a1*c2)*b2<(c1*a2)*b2:=by
  grind
 exact Mp e3 (by omega)
theorem Cv{x y z:Ev}(X:1<=x.2.1)(hy:1<=y.2.1)(hz:1<=z.2.1)(D: ¬less y x)(S: ¬less z y): ¬less z x:=by unfold less at*;rw[rB,hw']at*;dsimp only at*;have t1:= @ckF x.1 x.2.1 y.1 y.2.1 z.1 z.2.1 X hy hz;have t2:= @sj x.1 x.2.1 y.1 y.2.1 z.1 z.2.1 X hy hz;have t3:= @ck2 x.1 x.2.1 y.1 y.2.1 z.1 z.2.1 X hy hz;omega
structure HO(n:Nat)(x:Ev)(B4:Ev->Prop)(H:List Ev)(W:List Int)(i:Nat):Prop where
 lt:i<n
 hn:n<=OH H
 ix: ∀w,w<n->w≠i->0<=(H[w]!).ix/\(H[w]!).ix<OH W/\W[(H[w]!).n]! =(w:Int)/\(H[w]!).ix≠x.ix
 x0:0<=x.ix
 x1:x.ix<OH W
 mem: ∀e,(∃w,w<n/\w≠i/\H[w]! =e)↔B4 e
theorem HO.move{n:Nat}{x:Ev}{B4:Ev->Prop}{H:J Ev}{W:J Int}{i j:Nat}(h:HO n x B4 H W i)(hj:j<n)(rE:j≠i):HO n x B4 (H.set i H[j]!) (W.set (H[j]!).n (i:Int)) j:=by
 have hn:=h.hn;have N:=h.lt;obtain⟨j1,j2,j3,j4⟩:=h.ix j hj rE;have cell: ∀w,(H.set i H[j]!)[w]! =if w=i then H[j]! else H[w]!:=by
  grind
 refine⟨hj,by grind,?_,h.x0,by rw[If];exact h.x1,?_⟩
 ·intro w hw hwj
  rw[cell,If]
  by_cases e:w=i
  ·grind
  rw[EQ e,bQ]
  obtain⟨k1,k2,k3,k4⟩:=h.ix w hw e
  grind
 intro e
 rw[<-h.mem e];constructor
 ·grind
 rintro⟨w,hw,ZS,he⟩
 by_cases c:w=j
 ·refine⟨i,N,λh=>rE h.symm,?_⟩
  rw[cell,Do rfl,<-c];exact he
 grind
theorem HO.fill {n:Nat} {x:Ev} {B4:Ev->Prop} {H:J Ev} {W:J Int} {i:Nat} (h:HO n x B4 H W i):
 (∀w,w<n->0<=((H.set i x)[w]!).ix/\((H.set i x)[w]!).ix<OH W/\(W.set x.n (i:Int))[((H.set i x)[w]!).n]! =(w:Int))/\
  (∀e,(∃w,w<n/\(H.set i x)[w]! =e)↔(e=x\/B4 e)):=by
 have hn:=h.hn;have N:=h.lt;have x0:=h.x0;have x1:=h.x1;have cell: ∀w,(H.set i x)[w]! =if w=i then x else H[w]!:=by
  grind
 constructor
 · intro w hw
   rw [cell]
   by_cases e:w=i
   · grind
   rw [EQ e,bQ]
   obtain ⟨k1,k2,k3,k4⟩:=h.ix w hw e
   grind
 intro e
 rw [<- h.mem e];constructor
 · grind
 rintro (he|⟨w,hw,ZS,he⟩)
 · exact ⟨i,N,by rw [cell,Do rfl,he]⟩
 grind
noncomputable def mJ(x:Ev):Nat->J Ev->J Int->Nat×J Ev×J Int
 |0,H,W=>(0,H,W)
 |i+1,H,W=>if less x H[i / 2]! then mJ x (i / 2) (H.set (i+1) H[i / 2]!) (W.set (H[i / 2]!).n ((i+1:Nat):Int))else(i+1,H,W)
termination_by i=>i
decreasing_by omega
noncomputable def kU(n:Nat)(H:J Ev)(i:Nat):Nat:=if 2*i+2<n/\less H[2*i+2]! H[2*i+1]! then 2*i+2 else 2*i+1
theorem ur(n:Nat)(H:J Ev)(i:Nat):kU n H i=2*i+1\/(kU n H i=2*i+2/\2*i+2<n):=by unfold kU;grind
noncomputable def fj(n:Nat)(x:Ev)(i:Nat)(H:J Ev)(W:J Int):Nat×J Ev×J Int:=
 if _h:2*i+1<n then
  if less H[kU n H i]! x then fj n x (kU n H i) (H.set i H[kU n H i]!) (W.set (H[kU n H i]!).n (i:Int))else(i,H,W)
 else(i,H,W)
termination_by n-i
decreasing_by
 rcases ur n H i with h|h<;>omega
structure Ord(n:Nat)(H:List Ev)(i:Nat):Prop where
 den: ∀w,w<n->1<=(H[w]!).2.1
 ord: ∀k,0<k->k<n->k≠i->(k-1) / 2≠i-> ¬less H[k]! H[(k-1) / 2]!
 TR:0<i-> ∀k,0<k->k<n->(k-1) / 2=i-> ¬less H[k]! H[(i-1) / 2]!
theorem LQ {n : Nat} {x : Ev} {B4 : Ev -> Prop} (dx : 1 <= x.2.1) : ∀ (i : Nat) (H : J Ev) (W : J Int), HO n x B4 H W i -> Ord n H i ->
    ∃ j H1 W1, mJ x i H W = (j, H1, W1) /\ HO n x B4 H1 W1 j /\ Ord n H1 j /\ (OH H1) = (OH H) /\ (OH W1) = (OH W) /\ (0 < j -> ¬ less x H1[(j - 1) / 2]!) /\
      (∀ k, n <= k -> H1[k]! = H[k]!) /\ (∀ k, (∀ w, w < n -> w ≠ i -> (H[w]!).n ≠ k) -> W1[k]! = W[k]!) /\
      ((∀ k, 0 < k -> k < n -> (k - 1) / 2 = i -> ¬ less H[k]! x) -> ∀ k, 0 < k -> k < n -> (k - 1) / 2 = j -> ¬ less H1[k]! x)
  | 0, H, W, h, o => ⟨0, H, W, by rw [mJ], h, o, rfl, rfl, fun h => by omega, fun _ _ => rfl, fun _ _ => rfl, fun h => h⟩
  | i + 1, H, W, h, o => by
    rw [mJ]
    by_cases I : less x H[i / 2]!
    · rw [Do I]
      have N := h.lt
      have hn := h.hn
      have hp : i / 2 < n := by omega
      have fk : i / 2 ≠ i + 1 := by omega
      have hm := h.move hp fk
      have cell : ∀ w, (H.set (i + 1) H[i / 2]!)[w]! = if w = i + 1 then H[i / 2]! else H[w]! := by
        intro w
        rw [bQ]
        by_cases e : w = i + 1
        · rw [Do ⟨e, by omega⟩, Do e]
        rw [EQ (fun k => e k.1), EQ e]
      have o' : Ord n (H.set (i + 1) H[i / 2]!) (i / 2) := by
        refine ⟨?_, ?_, ?_⟩
        · intro w hw
          rw [cell]
          split
          · exact o.den _ hp
          exact o.den _ hw
        · intro k k0 kn k1 k2
          rw [cell, cell]
          by_cases e : k = i + 1
          · subst e; exact absurd (by omega) k2
          rw [EQ e]
          by_cases e2 : (k - 1) / 2 = i + 1
          · rw [Do e2]
            have := o.TR (by omega) k k0 kn e2
            rwa [show (i + 1 - 1) / 2 = i / 2 by omega] at this
          rw [EQ e2]
          exact o.ord k k0 kn e e2
        intro F k k0 kn k1
        rw [cell, cell, EQ (show (i / 2 - 1) / 2 ≠ i + 1 by omega)]
        have up1 := o.ord (i / 2) F hp fk (by omega)
        by_cases e : k = i + 1
        · rw [Do e]; exact up1
        rw [EQ e]
        have WZ : ¬ less H[k]! H[i / 2]! := by
          have := o.ord k k0 kn e (by omega)
          rwa [k1] at this
        exact Cv (o.den _ (by omega)) (o.den _ hp) (o.den _ kn) up1 WZ
      obtain ⟨j, H1, W1, e1, e3, e4, e5, e6, e7, e8, e9, Ys⟩ := LQ dx (i / 2) _ _ hm o'
      rw [If] at e5 e6
      refine ⟨j, H1, W1, e1, e3, e4, e5, e6, e7, ?_, ?_, ?_⟩
      · intro k hk
        rw [e8 k hk, cell, EQ (by omega)]
      · intro k hk
        rw [e9 k ?_, bQ, EQ (fun c => hk (i / 2) hp fk c.1.symm)]
        intro w hw U5
        rw [cell]
        split
        · exact hk (i / 2) hp fk
        rename_i e; exact hk w hw e
      intro _
      refine Ys fun k k0 kn k1 => ?_
      rw [cell]
      by_cases e : k = i + 1
      · rw [Do e]; exact sX I
      rw [EQ e]
      have WZ : ¬ less H[k]! H[i / 2]! := by
        have := o.ord k k0 kn e (by omega)
        rwa [k1] at this
      exact Cv dx (o.den _ hp) (o.den _ kn) (sX I) WZ
    grind
termination_by i=>i
decreasing_by omega
theorem ck3{n:Nat}{x:Ev}{i:Nat}{H:J Ev}{W:J Int}(h: ∀k,0<k->k<n->(k-1) / 2=i-> ¬less H[k]! x):fj n x i H W=(i,H,W):=by
 rw[fj];split
 ·rename_i hk
  rw[EQ]
  grind[ur]
 rfl
theorem aa7 {n : Nat} {x : Ev} {B4 : Ev -> Prop} (dx : 1 <= x.2.1) : ∀ (d i : Nat) (H : J Ev) (W : J Int), n - i <= d -> HO n x B4 H W i -> Ord n H i -> (0 < i -> ¬ less x H[(i - 1) / 2]!) ->
    ∃ j H1 W1, fj n x i H W = (j, H1, W1) /\ HO n x B4 H1 W1 j /\ Ord n H1 j /\ (OH H1) = (OH H) /\ (OH W1) = (OH W) /\ (0 < j -> ¬ less x H1[(j - 1) / 2]!) /\
      (∀ k, n <= k -> H1[k]! = H[k]!) /\ (∀ k, (∀ w, w < n -> w ≠ i -> (H[w]!).n ≠ k) -> W1[k]! = W[k]!) /\ (∀ k, 0 < k -> k < n -> (k - 1) / 2 = j -> ¬ less H1[k]! x)
  | 0, i, H, W, hd, h, o, u => by have := h.lt; omega
  | d + 1, i, H, W, hd, h, o, u => by
    have hn := h.hn
    rw [fj]
    by_cases hk : 2 * i + 1 < n
    · rw [dif_pos hk]
      have kc := ur n H i
      have kn : kU n H i < n := by omega
      have W0 : kU n H i ≠ i := by omega
      have kp : (kU n H i - 1) / 2 = i := by omega
      have kb : ∀ k, 0 < k -> k < n -> (k - 1) / 2 = i -> ¬ less H[k]! H[kU n H i]! := by
        intro k k0 k1 k2
        have kk : k = 2 * i + 1 \/ k = 2 * i + 2 := by omega
        unfold kU
        split
        · rename_i hc
          rcases kk with e | e
          · rw [e]; exact sX hc.2
          rw [e]; exact fun h => sX h h
        rename_i hc
        rcases kk with e | e
        · rw [e]; exact fun h => sX h h
        rw [e] at k1 ⊢; exact fun h => hc ⟨k1, h⟩
      by_cases I : less H[kU n H i]! x
      · rw [Do I]
        have hm := h.move kn W0
        have cell : ∀ w, (H.set i H[kU n H i]!)[w]! = if w = i then H[kU n H i]! else H[w]! := by
          intro w
          rw [bQ]
          by_cases e : w = i
          · rw [Do ⟨e, by omega⟩, Do e]
          rw [EQ (fun k => e k.1), EQ e]
        have o' : Ord n (H.set i H[kU n H i]!) (kU n H i) := by
          refine ⟨?_, ?_, ?_⟩
          · intro w hw
            rw [cell]
            split
            · exact o.den _ kn
            exact o.den _ hw
          · intro k k0 k1 k2 k3
            rw [cell, cell]
            by_cases e : k = i
            · rw [Do e, EQ (by omega)]
              have := o.TR (by omega) (kU n H i) (by omega) kn kp
              rwa [e]
            rw [EQ e]
            by_cases e2 : (k - 1) / 2 = i
            · rw [Do e2]; exact kb k k0 k1 e2
            rw [EQ e2]; exact o.ord k k0 k1 e e2
          intro _ k k0 k1 k2
          rw [cell, cell, Do kp, EQ (by omega)]
          have := o.ord k k0 k1 (by omega) (by omega)
          rwa [k2] at this
        obtain ⟨j, H1, W1, e1, e3, e4, e5, e6, e7, e8, e9, Ys⟩ := aa7 dx d (kU n H i) _ _ (by omega) hm o' (by
          intro _
          rw [cell, Do kp]
          exact sX I)
        rw [If] at e5 e6
        refine ⟨j, H1, W1, e1, e3, e4, e5, e6, e7, ?_, ?_, Ys⟩
        · intro k hk
          rw [e8 k hk, cell, EQ (by omega)]
        intro k hk
        rw [e9 k ?_, bQ, EQ (fun c => hk (kU n H i) kn W0 c.1.symm)]
        intro w hw U5
        rw [cell]
        split
        · exact hk (kU n H i) kn W0
        rename_i e; exact hk w hw e
      rw [EQ I]
      refine ⟨i, H, W, rfl, h, o, rfl, rfl, u, fun _ _ => rfl, fun _ _ => rfl, ?_⟩
      intro k k0 k1 k2
      exact Cv dx (o.den _ kn) (o.den _ k1) I (kb k k0 k1 k2)
    grind
structure Gn(n:Nat)(x:Ev)(B4:Ev->Prop)(K:Nat->Prop)(H:List Ev)(W:List Int)(H1:List Ev)(W1:List Int):Prop where
 I:(OH H1)=OH H
 wl:(OH W1)=OH W
 ix: ∀w,w<n->0<=(H1[w]!).ix/\(H1[w]!).ix<OH W/\W1[(H1[w]!).n]! =(w:Int)
 mem: ∀e,(∃w,w<n/\H1[w]! =e)↔(e=x\/B4 e)
 ord: ∀k,0<k->k<n-> ¬less H1[k]! H1[(k-1) / 2]!
 out: ∀k,K k->W1[k]! =W[k]!
theorem alC{n:Nat}{x:Ev}{B4:Ev->Prop}{H H1:J Ev}{W W1:J Int}{i j:Nat}(D:HO n x B4 H1 W1 j)(o1:Ord n H1 j)(I:(OH H1)=OH H)(wl:(OH W1)=OH W)
 (u:0<j-> ¬less x H1[(j-1) / 2]!) (kd: ∀k,0<k->k<n->(k-1) / 2=j-> ¬less H1[k]! x) (out: ∀k,(∀w,w<n->w≠i->(H[w]!).n≠k)->W1[k]! =W[k]!):
 Gn n x B4 (λk=>k≠x.n/\ ∀w,w<n->w≠i->(H[w]!).n≠k) H W (H1.set j x) (W1.set x.n (j:Int)):=by
 have hn:=D.hn;have hj:=D.lt;have f:=D.fill;have cell: ∀w,(H1.set j x)[w]! =if w=j then x else H1[w]!:=by
  intro w;rw[bQ]
  by_cases e:w=j
  ·rw[Do ⟨e,by omega⟩,Do e]
  grind
 refine⟨by grind,by grind,?_,f.2,?_,?_⟩
 ·grind
 ·intro k k0 kn
  rw[cell,cell]
  by_cases e:k=j
  ·rw[Do e,EQ (by omega),e];exact u (by omega)
  rw[EQ e]
  by_cases e2:(k-1) / 2=j
  ·rw[Do e2];exact kd k k0 kn e2
  rw[EQ e2];exact o1.ord k k0 kn e e2
 rintro k ⟨k1,k2⟩
 rw[bQ,EQ (λc=>k1 c.1)];exact out k k2
noncomputable def eB(n:Nat)(x:Ev)(i:Nat)(H:J Ev)(W:J Int):J Ev×J Int:=
 let u:=mJ x i H W
 let d:=fj n x u.1 u.2.1 u.2.2
 (d.2.1.set d.1 x,d.2.2.set x.n (d.1:Int))
theorem Fo{n:Nat}{x:Ev}{B4:Ev->Prop}(dx:1<=x.2.1){i:Nat}{H:J Ev}{W:J Int}(h:HO n x B4 H W i)(o:Ord n H i):
 Gn n x B4 (λk=>k≠x.n/\ ∀w,w<n->w≠i->(H[w]!).n≠k) H W (eB n x i H W).1 (eB n x i H W).2:=by
 obtain⟨j,H1,W1,e1,e3,e4,e5,e6,e7,e8,e9,Ys⟩:=LQ dx i H W h o;obtain⟨k,aed,W2,f1,f3,f4,f5,f6,f7,f8,f9,f10⟩:=aa7 dx n j H1 W1 (by omega) e3 e4 e7;have e:eB n x i H W=(aed.set k x,W2.set x.n (k:Int)):=by unfold eB;rw[e1];dsimp only;rw[f1]
 rw[e];refine alC f3 f4 (by omega) (by omega) f7 f10 ?_;intro c hc;rw[f9 c ?_,e9 c hc];intro w hw hwj hcw;have hm:=(e3.mem _).1 ⟨w,hw,hwj,rfl⟩;obtain⟨v,v1,v2,v3⟩:=(h.mem _).2 hm
 grind
theorem alD{n:Nat}{x:Ev}{B4:Ev->Prop}(dx:1<=x.2.1){i:Nat}{H:J Ev}{W:J Int}(h:HO n x B4 H W i)(o:Ord n H i)(hk: ∀k,0<k->k<n->(k-1) / 2=i-> ¬less H[k]! x):
 eB n x i H W=((mJ x i H W).2.1.set (mJ x i H W).1 x,(mJ x i H W).2.2.set x.n ((mJ x i H W).1:Int)):=by
 obtain⟨j,H1,W1,e1,e3,e4,e5,e6,e7,e8,e9,Ys⟩:=LQ dx i H W h o;unfold eB;simp_all[ck3]
def wW(x:Ev):Prop:=bI (x.1,x.2.1)/\jo (x.1,x.2.1)/\0<=x.2.2.1/\x.2.2.1<=1000000
theorem wW.den{x:Ev}(h:wW x):1<=x.2.1:=h.1.1
noncomputable def TU(x y:Ev):Int:=if jq (x.1,x.2.1) (y.1,y.2.1)≠0 then jq (x.1,x.2.1) (y.1,y.2.1)else nS x.2.2.1 y.2.2.1
theorem I1(x y:Ev):TU x y<0↔less x y:=by
 unfold TU less
 by_cases h:jq (x.1,x.2.1) (y.1,y.2.1)=0
 ·rw[EQ (by simpa using h),h]
  rcases eJ x.2.2.1 y.2.2.1 with⟨D,e⟩|⟨D,e⟩|⟨D,e⟩<;>rw[e]<;>constructor<;>intro<;>omega
 omega
theorem eO{x y:Ev}(X:wW x)(hy:wW y):cY x y=Sy (TU x y):=by unfold cY TU;rw[yp X.2.1 hy.2.1,Do ⟨X.1,hy.1⟩];simp[oE,Gl]
theorem sD{x y:Ev}(X:wW x)(hy:wW y):fP x y=Sy (h2 (less x y)):=by
 unfold fP less;rw[DG X.2.1 hy.2.1]
 grind
theorem Kl{x y:Ev}:h2 (TU x y<0)=h2 (less x y):=by simp[I1]
theorem Ru{x y:Ev}:h2 (0<=TU x y)=!h2 (less x y):=by
 have:=I1 x y
 grind
structure qT(n:Nat)(H:List Ev)(W:List Int):Prop where
 hn:n<=OH H
 hb:(OH H)<=1000000
 ev: ∀w,w<n->wW H[w]!/\0<=(H[w]!).ix/\(H[w]!).ix<OH W
theorem qT.move{n:Nat}{H:J Ev}{W:J Int}(c:qT n H W){i j:Nat}(_hi:i<n)(hj:j<n)(k:Nat)(v:Int):qT n (H.set i H[j]!) (W.set k v):=by
 have hn:=c.hn;refine⟨by grind,by rw[If];exact c.hb,?_⟩;intro w hw;rw[bQ,If];split
 ·exact c.ev j hj
 exact c.ev w hw
theorem LR{H:J Ev}{W:J Int}{x:Ev}{u fr:J Int}{us:J Bool}{i:Nat}(N:i<OH H)(h0:0<=x.ix)(D:x.ix<OH W):
 cL (u,us,fr,(i:Int),x.1,x.2.1,x.2.2.1,x.2.2.2.1,x.2.2.2.2,H,W)=Sy (H.set i x,W.set x.n (i:Int)):=by
 unfold cL;have e1:=aq H i N;have e2:=fh h0 D;simp only[e1,e2,Iy,beq_self_eq_true,];rfl
theorem LS{n cap:Nat}{H:J Ev}{W:J Int}{x:Ev}{u fr:J Int}{us:J Bool}{i:Nat}(N:i<n)(hn:n<=OH H)(h0:0<=x.ix)(D:x.ix<OH W):
 cK (u,us,fr,n,cap,(i:Int),x.1,x.2.1,x.2.2.1,x.2.2.2.1,x.2.2.2.2,H,W)=Sy (H.set i x,W.set x.n (i:Int)):=by
 unfold cK;have e1:=aq (H.take n) i (by grind);have e2:=fh h0 D;simp only[e1,e2,Iy,beq_self_eq_true,];rfl
theorem yq{i:Nat}(h:i<1000000000):M d5 (SJ (M d5 (((i+1:Nat):Int)-1)) 2)=((i / 2:Nat):Int):=by
 grind[wi,SH]
theorem Fp{i:Nat}(h:i<1000000000):M d5 ((M d5 (2*(i:Int)))+1)=((2*i+1:Nat):Int):=by
 grind[wi]
theorem Fq{n:Nat}{x:Ev}: ∀{i:Nat} {H:J Ev} {W:J Int} {j:Nat} {H1:J Ev} {W1:J Int},qT n H W->i<n->mJ x i H W=(j,H1,W1)-> ∀w,w<n->wW H1[w]!/\0<=(H1[w]!).ix/\(H1[w]!).ix<OH W
 |0,H,W,j,H1,W1,c,N,e=>by rw[mJ]at e;injection e with e1 e;injection e with e2 e3;subst e2;exact c.ev
 |i+1,H,W,j,H1,W1,c,N,e=>by
  rw[mJ]at e;split at e
  ·have:=Fq (c.move N (by omega) (H[i / 2]!).n ((i+1:Nat):Int)) (by omega) e
   grind
  injection e with e1 e;injection e with e2 e3
  subst e2;exact c.ev
termination_by i=>i
decreasing_by omega
theorem aef{c0:J Int×J Bool×J Int×Int×Int×Int×Int×Int×Int×J Ev×J Int}{n i:Nat}{H:J Ev}{W:J Int}{u fr:J Int}{us:J Bool}{x:Ev}
 (c:qT n H W) (hn:(OH H)=n) (N:i<n) (X:wW x) (x0:0<=x.ix) (x1:x.ix<OH W) (l1:(OH c0.2.2.2.2.2.2.2.2.2.1)=n) (l2:(OH c0.2.2.2.2.2.2.2.2.2.2)=OH W):
 iP c0 ((i:Int),((2*i+1:Nat):Int),H,W,u,us,fr,x)=
  Sy (if 2*i+1<n/\less H[kU n H i]! x then .next (((kU n H i:Nat):Int),((2*kU n H i+1:Nat):Int),H.set i H[kU n H i]!,W.set (H[kU n H i]!).n (i:Int),u,us,fr,x)
   else .done (.done (H.set i x,W.set x.n (i:Int)))):=by
 have hb:=c.hb;have fin:(cL (u,us,fr,(i:Int),x.1,x.2.1,x.2.2.1,x.2.2.2.1,x.2.2.2.2,H,W))=Sy (H.set i x,W.set x.n (i:Int)):=LR (by omega) x0 x1;have W3:(H.set i x).length=(OH c0.2.2.2.2.2.2.2.2.2.1):=by rw[If];omega
 have UQ:(W.set x.n (i:Int)).length=(OH c0.2.2.2.2.2.2.2.2.2.2):=by rw[If];omega
 unfold iP;simp only[aB,hn,fin,aj,W3,UQ,beq_self_eq_true,]
 by_cases D:2*i+1<n
 ·have e1:h2 (((2*i+1:Nat):Int)<(n:Int))=D5:=by simp;omega
  have e2:M d5 (((2*i+1:Nat):Int)+1)=((2*i+2:Nat):Int):=aN (by omega);obtain⟨A9,a1,a2⟩:=c.ev (2*i+1) D;have g1:=aq H (2*i+1) (by omega);have s1:(cL (u,us,fr,(i:Int),(H[2*i+1]!).1,(H[2*i+1]!).2.1,(H[2*i+1]!).2.2.1,(H[2*i+1]!).2.2.2.1,(H[2*i+1]!).2.2.2.2,H,W))=Sy (H.set i H[2*i+1]!,W.set (H[2*i+1]!).n (i:Int)):=LR (by omega) a1 a2;simp (disch:=omega) only[e1,e2,ww,g1,aj,s1,eO A9 X,Ru,Fp]
  by_cases S:2*i+2<n
  ·have e3:h2 (((2*i+2:Nat):Int)<(n:Int))=D5:=by simp;omega
   obtain⟨Iu,b1,b2⟩:=c.ev (2*i+2) S;have g2:=aq H (2*i+2) (by omega);have s2:(cL (u,us,fr,(i:Int),(H[2*i+2]!).1,(H[2*i+2]!).2.1,(H[2*i+2]!).2.2.1,(H[2*i+2]!).2.2.2.1,(H[2*i+2]!).2.2.2.2,H,W))=Sy (H.set i H[2*i+2]!,W.set (H[2*i+2]!).n (i:Int)):=LR (by omega) b1 b2;simp (disch:=omega) only[e3,ww,g2,aj,s2,eO Iu X,eO Iu A9,Kl,Ru,]
   by_cases h3:less H[2*i+2]! H[2*i+1]!
   ·have k:kU n H i=2*i+2:=by unfold kU;rw[Do ⟨S,h3⟩]
    rw[k]
    by_cases h4:less H[2*i+2]! x
    ·simp only[D,h3,h4,decide_true,ww,AC,PP,and_self,if_true]
    simp only[h3,h4,decide_true,decide_false,ww,NE,and_false,if_false]
   have k:kU n H i=2*i+1:=by unfold kU;rw[EQ (λh=>h3 h.2)]
   rw[k]
   by_cases h4:less H[2*i+1]! x
   ·simp only[D,h3,h4,decide_true,decide_false,AC,PP,and_self,if_true]
   simp only[h3,h4,decide_false,ww,AC,NE,and_false,if_false]
  have e3:h2 (((2*i+2:Nat):Int)<(n:Int))=hi:=by simp;omega
  have k:kU n H i=2*i+1:=by unfold kU;rw[EQ (λh=>S h.1)]
  rw[k];simp only[e3,AC]
  by_cases h4:less H[2*i+1]! x
  ·simp only[D,h4,decide_true,AC,PP,and_self,if_true]
  simp only[D,h4,decide_false,ww,NE,and_false,if_false]
 grind
theorem DH {c0 : J Int × J Bool × J Int × Int × Int × Int × Int × Int × Int × J Ev × J Int} {n : Nat} {u fr : J Int} {us : J Bool} {x : Ev} (X : wW x) (x0 : 0 <= x.ix) (l1 : (OH c0.2.2.2.2.2.2.2.2.2.1) = n) :
    ∀ (d i : Nat) (H : J Ev) (W : J Int), n - i <= d -> qT n H W -> (OH H) = n -> i < n -> x.ix < (OH W) -> (OH c0.2.2.2.2.2.2.2.2.2.2) = (OH W) ->
      au (iP c0) ((i : Int), ((2 * i + 1 : Nat) : Int), H, W, u, us, fr, x) = Sy (.done ((fj n x i H W).2.1.set (fj n x i H W).1 x, (fj n x i H W).2.2.set x.n ((fj n x i H W).1 : Int)))
  | 0, i, H, W, hd, c, hn, N, x1, l2 => by omega
  | d + 1, i, H, W, hd, c, hn, N, x1, l2 => by
    have r := aef (u := u) (us := us) (fr := fr) c hn N X x0 x1 l1 l2
    by_cases h : 2 * i + 1 < n /\ less H[kU n H i]! x
    · rw [Do h] at r
      have kc := ur n H i
      have kn : kU n H i < n := by omega
      rw [aD r, DH X x0 l1 d _ _ _ (by omega) (c.move N kn _ _) (by grind) kn (by grind) (by grind)]
      have e : fj n x i H W = fj n x (kU n H i) (H.set i H[kU n H i]!) (W.set (H[kU n H i]!).n (i : Int)) := by
        rw [fj, dif_pos h.1, Do h.2]
      rw [e]
    rw [EQ h] at r
    rw [ar r]
    have e : fj n x i H W = (i, H, W) := by
      rw [fj]
      grind
    rw [e]
theorem aja {c0 : J Int × J Bool × J Int × Int × Int × Int × Int × Int × Int × J Ev × J Int} {n : Nat} {u fr : J Int} {us : J Bool} {x : Ev} (X : wW x) (x0 : 0 <= x.ix) (l1 : (OH c0.2.2.2.2.2.2.2.2.2.1) = n) :
    ∀ (i : Nat) (H : J Ev) (W : J Int), qT n H W -> (OH H) = n -> i < n -> x.ix < (OH W) -> (OH c0.2.2.2.2.2.2.2.2.2.2) = (OH W) ->
      au (gd c0) ((i : Int), H, W, u, us, fr, x) = Sy (eB n x i H W)
  | 0, H, W, c, hn, N, x1, l2 => by
    have dn := DH (u := u) (us := us) (fr := fr) X x0 l1 n 0 H W (by omega) c hn N x1 l2
    refine (ar ?_)
    unfold gd
    have e1 : h2 ((0 : Int) < ((0 : Nat) : Int)) = hi := by simp
    simp (disch := omega) only [e1, AC, Fp]
    rw [dn]
    unfold eB
    rw [mJ]
  | i + 1, H, W, c, hn, N, x1, l2 => by
    have hb := c.hb
    have e1 : h2 ((0 : Int) < ((i + 1 : Nat) : Int)) = D5 := decide_eq_true (by omega)
    have hp : i / 2 < n := by omega
    obtain ⟨A9, a1, a2⟩ := c.ev _ hp
    have g1 := aq H (i / 2) (by omega)
    have s1 : (cL (u, us, fr, ((i + 1 : Nat) : Int), (H[i / 2]!).1, (H[i / 2]!).2.1, (H[i / 2]!).2.2.1, (H[i / 2]!).2.2.2.1, (H[i / 2]!).2.2.2.2, H, W)) = Sy _ := LR (by omega) a1 a2
    by_cases h : less x H[i / 2]!
    · have r : gd c0 (((i + 1 : Nat) : Int), H, W, u, us, fr, x) = Sy (.next (((i / 2 : Nat) : Int), H.set (i + 1) H[i / 2]!, W.set (H[i / 2]!).n ((i + 1 : Nat) : Int), u, us, fr, x)) := by
        unfold gd
        simp (disch := omega) only [e1, ww, yq, g1, aj, eO X A9, Kl, h, decide_true, s1]
      rw [aD r, aja X x0 l1 _ _ _ (c.move N hp _ _) (by grind) hp (by grind) (by grind)]
      have e : mJ x (i + 1) H W = mJ x (i / 2) (H.set (i + 1) H[i / 2]!) (W.set (H[i / 2]!).n ((i + 1 : Nat) : Int)) := by
        rw [mJ, Do h]
      unfold eB
      rw [e]
    have dn := DH (u := u) (us := us) (fr := fr) X x0 l1 n _ H W (by omega) c hn N x1 l2
    refine (ar ?_)
    unfold gd
    simp (disch := omega) only [e1, ww, yq, g1, aj, eO X A9, Kl, h, decide_false, AC, Fp]
    rw [dn]
    unfold eB
    rw [mJ, EQ h]
termination_by i=>i
decreasing_by omega
theorem ajb{n:Nat}{u fr:J Int}{us:J Bool}{x:Ev}(X:wW x)(x0:0<=x.ix){i:Nat}{H:J Ev}{W:J Int}(c:qT n H W)(hn:(OH H)=n)(N:i<n)(x1:x.ix<OH W):
 gF (u,us,fr,(i:Int),x.1,x.2.1,x.2.2.1,x.2.2.2.1,x.2.2.2.2,H,W)=Sy (eB n x i H W):=by
 unfold gF
 grind[aja]
theorem iT{l:J Ev}{n i:Nat}(h:i<n)(hn:n<=OH l):az (l.take n) (i:Int)=Sy l[i]!:=by
 grind[aq,g',rz]
theorem alF{c0:J Int×J Bool×J Int×Nat×Nat×Int×Int×Int×Int×Int×Int×J Ev×J Int}{n cap i:Nat}{H:J Ev}{W:J Int}{u fr:J Int}{us:J Bool}{x:Ev}
 (c:qT n H W) (N:i<n) (X:wW x) (x0:0<=x.ix) (x1:x.ix<OH W) (l1:(OH c0.2.2.2.2.2.2.2.2.2.2.2.1)=OH H) (l2:(OH c0.2.2.2.2.2.2.2.2.2.2.2.2)=OH W):
 iO c0 ((i:Int),((2*i+1:Nat):Int),H,W,u,us,fr,n,cap,x)=
  Sy (if 2*i+1<n/\less H[kU n H i]! x then .next (((kU n H i:Nat):Int),((2*kU n H i+1:Nat):Int),H.set i H[kU n H i]!,W.set (H[kU n H i]!).n (i:Int),u,us,fr,n,cap,x)
   else .done (.done (H.set i x,W.set x.n (i:Int)))):=by
 have hb:=c.hb;have VU:=c.hn;have fin:(cK (u,us,fr,n,cap,(i:Int),x.1,x.2.1,x.2.2.1,x.2.2.2.1,x.2.2.2.2,H,W))=Sy (H.set i x,W.set x.n (i:Int)):=LS (by omega) c.hn x0 x1;have W3:(H.set i x).length=(OH c0.2.2.2.2.2.2.2.2.2.2.2.1):=by rw[If];omega
 have UQ:(W.set x.n (i:Int)).length=(OH c0.2.2.2.2.2.2.2.2.2.2.2.2):=by rw[If];omega
 unfold iO;simp only[aB,fin,aj,W3,UQ,beq_self_eq_true,]
 by_cases D:2*i+1<n
 ·have e1:h2 (((2*i+1:Nat):Int)<(n:Int))=D5:=by simp;omega
  have e2:M d5 (((2*i+1:Nat):Int)+1)=((2*i+2:Nat):Int):=aN (by omega);obtain⟨A9,a1,a2⟩:=c.ev (2*i+1) D;have g1:=iT (by omega) c.hn;have s1:(cK (u,us,fr,n,cap,(i:Int),(H[2*i+1]!).1,(H[2*i+1]!).2.1,(H[2*i+1]!).2.2.1,(H[2*i+1]!).2.2.2.1,(H[2*i+1]!).2.2.2.2,H,W))=Sy (H.set i H[2*i+1]!,W.set (H[2*i+1]!).n (i:Int)):=LS (by omega) c.hn a1 a2;simp (disch:=omega) only[e1,e2,ww,g1,aj,s1,eO A9 X,Ru,Fp]
  by_cases S:2*i+2<n
  ·have e3:h2 (((2*i+2:Nat):Int)<(n:Int))=D5:=by simp;omega
   obtain⟨Iu,b1,b2⟩:=c.ev (2*i+2) S;have g2:=iT (by omega) c.hn;have s2:(cK (u,us,fr,n,cap,(i:Int),(H[2*i+2]!).1,(H[2*i+2]!).2.1,(H[2*i+2]!).2.2.1,(H[2*i+2]!).2.2.2.1,(H[2*i+2]!).2.2.2.2,H,W))=Sy (H.set i H[2*i+2]!,W.set (H[2*i+2]!).n (i:Int)):=LS (by omega) c.hn b1 b2;simp (disch:=omega) only[e3,ww,g2,aj,s2,eO Iu X,eO Iu A9,Kl,Ru,]
   by_cases h3:less H[2*i+2]! H[2*i+1]!
   ·have k:kU n H i=2*i+2:=by unfold kU;rw[Do ⟨S,h3⟩]
    rw[k]
    by_cases h4:less H[2*i+2]! x
    ·simp only[D,h3,h4,decide_true,ww,AC,PP,and_self,if_true]
    simp only[h3,h4,decide_true,decide_false,ww,NE,and_false,if_false]
   have k:kU n H i=2*i+1:=by unfold kU;rw[EQ (λh=>h3 h.2)]
   rw[k]
   by_cases h4:less H[2*i+1]! x
   ·simp only[D,h3,h4,decide_true,decide_false,AC,PP,and_self,if_true]
   simp only[h3,h4,decide_false,ww,AC,NE,and_false,if_false]
  have e3:h2 (((2*i+2:Nat):Int)<(n:Int))=hi:=by simp;omega
  have k:kU n H i=2*i+1:=by unfold kU;rw[EQ (λh=>S h.1)]
  rw[k];simp only[e3,AC]
  by_cases h4:less H[2*i+1]! x
  ·simp only[D,h4,decide_true,AC,PP,and_self,if_true]
  simp only[D,h4,decide_false,ww,NE,and_false,if_false]
 grind
theorem DI {c0 : J Int × J Bool × J Int × Nat × Nat × Int × Int × Int × Int × Int × Int × J Ev × J Int} {n cap : Nat} {u fr : J Int} {us : J Bool} {x : Ev} (X : wW x) (x0 : 0 <= x.ix) :
    ∀ (d i : Nat) (H : J Ev) (W : J Int), n - i <= d -> qT n H W -> (OH c0.2.2.2.2.2.2.2.2.2.2.2.1) = (OH H) -> i < n -> x.ix < (OH W) -> (OH c0.2.2.2.2.2.2.2.2.2.2.2.2) = (OH W) ->
      au (iO c0) ((i : Int), ((2 * i + 1 : Nat) : Int), H, W, u, us, fr, n, cap, x) = Sy (.done ((fj n x i H W).2.1.set (fj n x i H W).1 x, (fj n x i H W).2.2.set x.n ((fj n x i H W).1 : Int)))
  | 0, i, H, W, hd, c, hn, N, x1, l2 => by omega
  | d + 1, i, H, W, hd, c, hn, N, x1, l2 => by
    have r := alF (u := u) (us := us) (fr := fr) (cap := cap) c N X x0 x1 hn l2
    by_cases h : 2 * i + 1 < n /\ less H[kU n H i]! x
    · rw [Do h] at r
      have kc := ur n H i
      have kn : kU n H i < n := by omega
      rw [aD r, DI X x0 d _ _ _ (by omega) (c.move N kn _ _) (by grind) kn (by grind) (by grind)]
      have e : fj n x i H W = fj n x (kU n H i) (H.set i H[kU n H i]!) (W.set (H[kU n H i]!).n (i : Int)) := by
        rw [fj, dif_pos h.1, Do h.2]
      rw [e]
    rw [EQ h] at r
    rw [ar r]
    have e : fj n x i H W = (i, H, W) := by
      rw [fj]
      grind
    rw [e]
theorem hyd {c0 : J Int × J Bool × J Int × Nat × Nat × Int × Int × Int × Int × Int × Int × J Ev × J Int} {n cap : Nat} {u fr : J Int} {us : J Bool} {x : Ev} (X : wW x) (x0 : 0 <= x.ix) :
    ∀ (i : Nat) (H : J Ev) (W : J Int), qT n H W -> (OH c0.2.2.2.2.2.2.2.2.2.2.2.1) = (OH H) -> i < n -> x.ix < (OH W) -> (OH c0.2.2.2.2.2.2.2.2.2.2.2.2) = (OH W) ->
      au (gb c0) ((i : Int), H, W, u, us, fr, n, cap, x) = Sy (eB n x i H W)
  | 0, H, W, c, hn, N, x1, l2 => by
    have dn := DI (u := u) (us := us) (fr := fr) (cap := cap) X x0 n 0 H W (by omega) c hn N x1 l2
    refine (ar ?_)
    unfold gb
    have e1 : h2 ((0 : Int) < ((0 : Nat) : Int)) = hi := by simp
    simp (disch := omega) only [e1, AC, Fp]
    rw [dn]
    unfold eB
    rw [mJ]
  | i + 1, H, W, c, hn, N, x1, l2 => by
    have hb := c.hb
    have VU := c.hn
    have e1 : h2 ((0 : Int) < ((i + 1 : Nat) : Int)) = D5 := decide_eq_true (by omega)
    have hp : i / 2 < n := by omega
    obtain ⟨A9, a1, a2⟩ := c.ev _ hp
    have g1 := iT (by omega) c.hn
    have s1 : (cK (u, us, fr, n, cap, ((i + 1 : Nat) : Int), (H[i / 2]!).1, (H[i / 2]!).2.1, (H[i / 2]!).2.2.1, (H[i / 2]!).2.2.2.1, (H[i / 2]!).2.2.2.2, H, W)) = Sy _ := LS (by omega) c.hn a1 a2
    by_cases h : less x H[i / 2]!
    · have r : gb c0 (((i + 1 : Nat) : Int), H, W, u, us, fr, n, cap, x) = Sy (.next (((i / 2 : Nat) : Int), H.set (i + 1) H[i / 2]!, W.set (H[i / 2]!).n ((i + 1 : Nat) : Int), u, us, fr, n, cap, x)) := by
        unfold gb
        simp (disch := omega) only [e1, ww, yq, g1, aj, eO X A9, Kl, h, decide_true, s1]
      rw [aD r, hyd X x0 _ _ _ (c.move N hp _ _) (by grind) hp (by grind) (by grind)]
      have e : mJ x (i + 1) H W = mJ x (i / 2) (H.set (i + 1) H[i / 2]!) (W.set (H[i / 2]!).n ((i + 1 : Nat) : Int)) := by
        rw [mJ, Do h]
      unfold eB
      rw [e]
    have dn := DI (u := u) (us := us) (fr := fr) (cap := cap) X x0 n _ H W (by omega) c hn N x1 l2
    refine (ar ?_)
    unfold gb
    simp (disch := omega) only [e1, ww, yq, g1, aj, eO X A9, Kl, h, decide_false, AC, Fp]
    rw [dn]
    unfold eB
    rw [mJ, EQ h]
termination_by i=>i
decreasing_by omega
theorem aeh{n cap:Nat}{u fr:J Int}{us:J Bool}{x:Ev}(X:wW x)(x0:0<=x.ix){i:Nat}{H:J Ev}{W:J Int}(c:qT n H W)(N:i<n)(x1:x.ix<OH W):
 nW (u,us,fr,n,cap,(i:Int),x.1,x.2.1,x.2.2.1,x.2.2.2.1,x.2.2.2.2,H,W)=Sy (eB n x i H W):=by
 unfold nW
 grind[hyd]
theorem NI{n cap:Nat}{H:J Ev}{W:J Int}{x:Ev}{u fr:J Int}{us:J Bool}{i k:Nat}(N:i<n)(hk:k<n)(Wb:k≠i)(hn:n<=OH H)(x0:0<=x.ix)(x1:x.ix<OH W)(k0:0<=(H[k]!).ix)(k1:(H[k]!).ix<OH W):
 jj (u,us,fr,n,cap,(i:Int),(k:Int),H.set i x,W.set x.n (i:Int))=Sy ((H.set i H[k]!).set k x,(W.set (H[k]!).n (i:Int)).set x.n (k:Int)):=by
 have cell: ∀w,(H.set i x)[w]! =if w=i then x else H[w]!:=by
  grind
 have sh:((H.set i x).set i H[k]!).set k x=(H.set i H[k]!).set k x:=by simp
 have sw:((W.set x.n (i:Int)).set (H[k]!).n (i:Int)).set x.n (k:Int)=(W.set (H[k]!).n (i:Int)).set x.n (k:Int):=by
  grind[Vf,al]
 have g1:az ((H.set i x).take n) (k:Int)=Sy H[k]!:=by simp_all[iT,]
 have g2:az ((H.set i x).take n) (i:Int)=Sy x:=by simp_all[iT,]
 have g3:az (((H.set i x).set i H[k]!).take n) (k:Int)=Sy H[k]!:=by rw[iT (by omega) (by grind),bQ,EQ (λh=>Wb h.1),cell,EQ Wb]
 have g4:az (((H.set i H[k]!).set k x).take n) (i:Int)=Sy H[k]!:=by rw[iT (by omega) (by grind),bQ,EQ (λh=>Wb h.1.symm),bQ,Do ⟨rfl,by omega⟩]
 have g5:az (((H.set i H[k]!).set k x).take n) (k:Int)=Sy x:=by rw[iT (by omega) (by grind),bQ,Do ⟨rfl,by grind⟩]
 have w6:=fh (l:=W.set x.n (i:Int)) k0 (by grind);have w7:=fh (l:=(W.set x.n (i:Int)).set (H[k]!).n (i:Int)) x0 (by grind);have q1: ∀(l:J Int) (a:Int) (y:Ev),bu l y.2.2.2.1 a=l.set y.n a:=λ_ _ _=>rfl
 unfold jj;simp only[cA,g1,g2,g3,aj,sh,g4,g5,q1,w6,w7,sw,If,beq_self_eq_true,ww]
theorem adp{c0:J Int×J Bool×J Int×Nat×Nat×Int×J Ev×J Int}{n cap:Nat}{u fr:J Int}{us:J Bool}{x:Ev}(X:wW x)(x0:0<=x.ix):
 ∀(i:Nat) (H:J Ev) (W:J Int),qT n H W->i<n->x.ix<OH W->OH c0.2.2.2.2.2.2.1=OH H->OH c0.2.2.2.2.2.2.2=OH W->
  au (j9 c0) ((i:Int),H.set i x,W.set x.n (i:Int),u,us,fr,n,cap)=Sy (((mJ x i H W).1:Int),(mJ x i H W).2.1.set (mJ x i H W).1 x,(mJ x i H W).2.2.set x.n ((mJ x i H W).1:Int))
 |0,H,W,c,N,x1,l1,l2=>by
  refine ar ?_;unfold j9;rw[mJ]
  grind
 |i+1,H,W,c,N,x1,l1,l2=>by
  have hb:=c.hb;have VU:=c.hn;have e1:h2 ((0:Int)<((i+1:Nat):Int))=D5:=decide_eq_true (by omega);have hp:i / 2<n:=by omega
  have fk:i / 2≠i+1:=by omega
  obtain⟨A9,a1,a2⟩:=c.ev (i / 2) hp;have cell: ∀w,(H.set (i+1) x)[w]! =if w=i+1 then x else H[w]!:=by
   grind
  have g0:az ((H.set (i+1) x).take n) ((i+1:Nat):Int)=Sy x:=by rw[iT (by omega) (by grind),cell,Do rfl]
  have g1:az ((H.set (i+1) x).take n) ((i / 2:Nat):Int)=Sy H[i / 2]!:=by rw[iT (by omega) (by grind),cell,EQ fk]
  by_cases h:less x H[i / 2]!
  ·have sw:=NI (cap:=cap) (u:=u) (us:=us) (fr:=fr) N hp fk VU x0 x1 a1 a2
   have r:j9 c0 (((i+1:Nat):Int),H.set (i+1) x,W.set x.n ((i+1:Nat):Int),u,us,fr,n,cap)=Sy (.next (((i / 2:Nat):Int),(H.set (i+1) H[i / 2]!).set (i / 2) x,(W.set (H[i / 2]!).n ((i+1:Nat):Int)).set x.n ((i / 2:Nat):Int),u,us,fr,n,cap)):=by unfold j9;simp (disch:=omega) only[e1,ww,yq,g0,g1,aj,sD X A9,h,decide_true,sw]
   rw[aD r,adp X x0 (i / 2) _ _ (c.move N hp _ _) hp (by grind) (by grind) (by grind)];have e:mJ x (i+1) H W=mJ x (i / 2) (H.set (i+1) H[i / 2]!) (W.set (H[i / 2]!).n ((i+1:Nat):Int)):=by rw[mJ,Do h]
   rw[e]
  refine ar ?_
  unfold j9;have e:mJ x (i+1) H W=(i+1,H,W):=by rw[mJ,EQ h]
  rw[e];simp (disch:=omega) only[e1,ww,yq,g0,g1,aj,sD X A9,h,decide_false,AC,If,l1,l2,beq_self_eq_true]
termination_by i=>i
decreasing_by omega
theorem hcn{c0:J Int×J Bool×J Int×Nat×Nat×Int×J Ev×J Int}{n cap:Nat}{u fr:J Int}{us:J Bool}{x:Ev}(X:wW x)(x0:0<=x.ix):
 ∀(d i:Nat) (H:J Ev) (W:J Int),n-i<=d->qT n H W->i<n->x.ix<OH W->OH c0.2.2.2.2.2.2.1=OH H->OH c0.2.2.2.2.2.2.2=OH W->
  au (nX c0) ((i:Int),H.set i x,W.set x.n (i:Int),u,us,fr,n,cap)=Sy (((fj n x i H W).2.1.set (fj n x i H W).1 x,(fj n x i H W).2.2.set x.n ((fj n x i H W).1:Int)))
 |0,i,H,W,hd,c,N,x1,l1,l2=>by omega
 |d+1,i,H,W,hd,c,N,x1,l1,l2=>by
  have hb:=c.hb;have VU:=c.hn;have cell: ∀w,(H.set i x)[w]! =if w=i then x else H[w]!:=by
   grind
  have Z3:(H.set i x).length=(OH H):=If;have body:nX c0 ((i:Int),H.set i x,W.set x.n (i:Int),u,us,fr,n,cap)=Sy (if 2*i+1<n/\less H[kU n H i]! x then .next (((kU n H i:Nat):Int),(H.set i H[kU n H i]!).set (kU n H i) x,(W.set (H[kU n H i]!).n (i:Int)).set x.n ((kU n H i:Nat):Int),u,us,fr,n,cap)else .done ((H.set i x,W.set x.n (i:Int)))):=by
   have k1:=Fp (show i<1000000000 by omega);unfold nX
   by_cases D:2*i+1<n
   ·have e1:h2 ((n:Int)<=((2*i+1:Nat):Int))=hi:=decide_eq_false (by omega)
    have e2:M d5 (((2*i+1:Nat):Int)+1)=((2*i+2:Nat):Int):=aN (by omega);obtain⟨A9,a1,a2⟩:=c.ev (2*i+1) D;have g0:az ((H.set i x).take n) (i:Int)=Sy x:=by rw[iT (by omega) (by rw[If];omega),cell,Do rfl]
    have g1:az ((H.set i x).take n) ((2*i+1:Nat):Int)=Sy H[2*i+1]!:=by rw[iT (by omega) (by rw[If];omega),cell,EQ (by omega)]
    have s1:=NI (cap:=cap) (u:=u) (us:=us) (fr:=fr) N D (by omega) VU x0 x1 a1 a2;simp only[aB,k1,e1,e2,AC,g0,g1,aj,sD A9 X,s1,If,l1,l2,beq_self_eq_true,ww]
    by_cases S:2*i+2<n
    ·have e3:h2 (((2*i+2:Nat):Int)<(n:Int))=D5:=decide_eq_true (by omega)
     obtain⟨Iu,b1,b2⟩:=c.ev (2*i+2) S;have g2:az ((H.set i x).take n) ((2*i+2:Nat):Int)=Sy H[2*i+2]!:=by rw[iT (by omega) (by rw[If];omega),cell,EQ (by omega)]
     have s2:=NI (cap:=cap) (u:=u) (us:=us) (fr:=fr) N S (by omega) VU x0 x1 b1 b2;simp only[e3,ww,g2,aj,s2,sD Iu X,sD Iu A9]
     by_cases h3:less H[2*i+2]! H[2*i+1]!
     ·have k:kU n H i=2*i+2:=by unfold kU;rw[Do ⟨S,h3⟩]
      rw[k]
      by_cases h4:less H[2*i+2]! x
      ·simp only[D,h3,h4,decide_true,ww,AC,PP,and_self,if_true]
      simp only[D,h3,h4,decide_true,decide_false,ww,NE,and_false,if_false]
     have k:kU n H i=2*i+1:=by unfold kU;rw[EQ (λh=>h3 h.2)]
     rw[k]
     by_cases h4:less H[2*i+1]! x
     ·simp only[D,h3,h4,decide_true,decide_false,AC,PP,and_self,if_true]
     simp only[D,h3,h4,decide_false,ww,AC,NE,and_false,if_false]
    have e3:h2 (((2*i+2:Nat):Int)<(n:Int))=hi:=decide_eq_false (by omega)
    have k:kU n H i=2*i+1:=by unfold kU;rw[EQ (λh=>S h.1)]
    rw[k];simp only[e3,AC]
    by_cases h4:less H[2*i+1]! x
    ·simp only[D,h4,decide_true,AC,PP,and_self,if_true]
    simp only[D,h4,decide_false,ww,NE,and_false,if_false]
   grind
  by_cases h:2*i+1<n/\less H[kU n H i]! x
  ·rw[Do h]at body
   have kc:=ur n H i;have kn:kU n H i<n:=by omega
   rw[aD body,hcn X x0 d (kU n H i) _ _ (by omega) (c.move N kn _ _) kn (by grind) (by grind) (by grind)];have e:fj n x i H W=fj n x (kU n H i) (H.set i H[kU n H i]!) (W.set (H[kU n H i]!).n (i:Int)):=by rw[fj,dif_pos h.1,Do h.2]
   rw[e]
  rw[EQ h]at body
  rw[ar body];have e:fj n x i H W=(i,H,W):=by
   rw[fj]
   grind
  rw[e]
theorem I2{n:Nat}{H:J Ev}{W:J Int}{x:Ev}{u fr:J Int}{us:J Bool}{i k:Nat}(N:i<n)(hk:k<n)(Wb:k≠i)(hn:n=OH H)(x0:0<=x.ix)(x1:x.ix<OH W)(k0:0<=(H[k]!).ix)(k1:(H[k]!).ix<OH W):
 iw ((i:Int),(k:Int),u,us,fr,H.set i x,W.set x.n (i:Int))=Sy (u,us,fr,(H.set i H[k]!).set k x,(W.set (H[k]!).n (i:Int)).set x.n (k:Int)):=by
 have cell: ∀w,(H.set i x)[w]! =if w=i then x else H[w]!:=by
  grind
 have sh:((H.set i x).set i H[k]!).set k x=(H.set i H[k]!).set k x:=by simp
 have sw:((W.set x.n (i:Int)).set (H[k]!).n (i:Int)).set x.n (k:Int)=(W.set (H[k]!).n (i:Int)).set x.n (k:Int):=by
  grind[Vf,al]
 have g1:az ((H.set i x)) (k:Int)=Sy H[k]!:=by rw[aq _ _ (by grind),cell,EQ Wb]
 have g2:az ((H.set i x)) (i:Int)=Sy x:=by simp_all[aq,]
 have g3:az (((H.set i x).set i H[k]!)) (k:Int)=Sy H[k]!:=by rw[aq _ _ (by grind),bQ,EQ (λh=>Wb h.1),cell,EQ Wb]
 have g4:az (((H.set i H[k]!).set k x)) (i:Int)=Sy H[k]!:=by simp_all[aq,]
 have g5:az (((H.set i H[k]!).set k x)) (k:Int)=Sy x:=by simp_all[aq,]
 have w6:=fh (l:=W.set x.n (i:Int)) k0 (by grind);have w7:=fh (l:=(W.set x.n (i:Int)).set (H[k]!).n (i:Int)) x0 (by grind);have q1: ∀(l:J Int) (a:Int) (y:Ev),bu l y.2.2.2.1 a=l.set y.n a:=λ_ _ _=>rfl
 unfold iw;simp only[cA,g1,g2,g3,aj,sh,g4,g5,q1,w6,w7,sw,If,beq_self_eq_true,ww]
theorem adq{c0:Int×J Int×J Bool×J Int×J Ev×J Int}{n:Nat}{u fr:J Int}{us:J Bool}{x:Ev}(X:wW x)(x0:0<=x.ix)(l3:(OH c0.2.1)=OH u)(l4:(OH c0.2.2.1)=OH us)(l5:(OH c0.2.2.2.1)=OH fr):
 ∀(i:Nat) (H:J Ev) (W:J Int),qT n H W->i<n->OH H=n->x.ix<OH W->OH c0.2.2.2.2.1=OH H->OH c0.2.2.2.2.2=OH W->
  au (ke c0) ((i:Int),u,us,fr,H.set i x,W.set x.n (i:Int))=Sy (((mJ x i H W).1:Int),u,us,fr,(mJ x i H W).2.1.set (mJ x i H W).1 x,(mJ x i H W).2.2.set x.n ((mJ x i H W).1:Int))
 |0,H,W,c,N,YZ,x1,l1,l2=>by
  refine ar ?_;unfold ke;have e1:h2 ((0:Int)<((0:Nat):Int))=hi:=by simp
  rw[mJ]
  grind
 |i+1,H,W,c,N,YZ,x1,l1,l2=>by
  have hb:=c.hb;have VU:=c.hn;have e1:h2 ((0:Int)<((i+1:Nat):Int))=D5:=decide_eq_true (by omega);have hp:i / 2<n:=by omega
  have fk:i / 2≠i+1:=by omega
  obtain⟨A9,a1,a2⟩:=c.ev (i / 2) hp;have cell: ∀w,(H.set (i+1) x)[w]! =if w=i+1 then x else H[w]!:=by
   grind
  have g0:az ((H.set (i+1) x)) ((i+1:Nat):Int)=Sy x:=by rw[aq _ _ (by grind),cell,Do rfl]
  have g1:az ((H.set (i+1) x)) ((i / 2:Nat):Int)=Sy H[i / 2]!:=by rw[aq _ _ (by grind),cell,EQ fk]
  by_cases h:less x H[i / 2]!
  ·have sw:=I2 (u:=u) (us:=us) (fr:=fr) N hp fk YZ.symm x0 x1 a1 a2
   have r:ke c0 (((i+1:Nat):Int),u,us,fr,H.set (i+1) x,W.set x.n ((i+1:Nat):Int))=Sy (.next (((i / 2:Nat):Int),u,us,fr,(H.set (i+1) H[i / 2]!).set (i / 2) x,(W.set (H[i / 2]!).n ((i+1:Nat):Int)).set x.n ((i / 2:Nat):Int))):=by unfold ke;simp (disch:=omega) only[e1,ww,yq,g0,g1,aj,sD X A9,h,decide_true,sw]
   rw[aD r,adq X x0 l3 l4 l5 (i / 2) _ _ (c.move N hp _ _) hp (by grind) (by grind) (by grind) (by grind)];have e:mJ x (i+1) H W=mJ x (i / 2) (H.set (i+1) H[i / 2]!) (W.set (H[i / 2]!).n ((i+1:Nat):Int)):=by rw[mJ,Do h]
   rw[e]
  refine ar ?_
  unfold ke;have e:mJ x (i+1) H W=(i+1,H,W):=by rw[mJ,EQ h]
  rw[e];simp (disch:=omega) only[e1,ww,yq,g0,g1,aj,sD X A9,h,decide_false,AC,If,l1,l2,l3,l4,l5,beq_self_eq_true]
termination_by i=>i
decreasing_by omega
theorem hdc{c0:Int×J Int×J Bool×J Int×J Ev×J Int}{n:Nat}{u fr:J Int}{us:J Bool}{x:Ev}(X:wW x)(x0:0<=x.ix)(l3:(OH c0.2.1)=OH u)(l4:(OH c0.2.2.1)=OH us)(l5:(OH c0.2.2.2.1)=OH fr):
 ∀(d i:Nat) (H:J Ev) (W:J Int),n-i<=d->qT n H W->i<n->OH H=n->x.ix<OH W->OH c0.2.2.2.2.1=OH H->OH c0.2.2.2.2.2=OH W->
  au (nY c0) ((i:Int),u,us,fr,H.set i x,W.set x.n (i:Int))=Sy ((u,us,fr,(fj n x i H W).2.1.set (fj n x i H W).1 x,(fj n x i H W).2.2.set x.n ((fj n x i H W).1:Int)))
 |0,i,H,W,hd,c,N,YZ,x1,l1,l2=>by omega
 |d+1,i,H,W,hd,c,N,YZ,x1,l1,l2=>by
  have hb:=c.hb;have VU:=c.hn;have cell: ∀w,(H.set i x)[w]! =if w=i then x else H[w]!:=by
   grind
  have Z3:(H.set i x).length=(OH H):=If;have body:nY c0 ((i:Int),u,us,fr,H.set i x,W.set x.n (i:Int))=Sy (if 2*i+1<n/\less H[kU n H i]! x then .next (((kU n H i:Nat):Int),u,us,fr,(H.set i H[kU n H i]!).set (kU n H i) x,(W.set (H[kU n H i]!).n (i:Int)).set x.n ((kU n H i:Nat):Int))else .done ((u,us,fr,H.set i x,W.set x.n (i:Int)))):=by
   have k1:=Fp (show i<1000000000 by omega);unfold nY
   by_cases D:2*i+1<n
   ·have e1:h2 ((n:Int)<=((2*i+1:Nat):Int))=hi:=decide_eq_false (by omega)
    have e2:M d5 (((2*i+1:Nat):Int)+1)=((2*i+2:Nat):Int):=aN (by omega);obtain⟨A9,a1,a2⟩:=c.ev (2*i+1) D;have g0:az ((H.set i x)) (i:Int)=Sy x:=by rw[aq _ _ (by rw[If];omega),cell,Do rfl]
    have g1:az ((H.set i x)) ((2*i+1:Nat):Int)=Sy H[2*i+1]!:=by rw[aq _ _ (by rw[If];omega),cell,EQ (by omega)]
    have s1:=I2 (u:=u) (us:=us) (fr:=fr) N D (by omega) YZ.symm x0 x1 a1 a2;simp only[aB,k1,YZ,e1,e2,AC,g0,g1,aj,sD A9 X,s1,If,l1,l2,l3,l4,l5,beq_self_eq_true,ww]
    by_cases S:2*i+2<n
    ·have e3:h2 (((2*i+2:Nat):Int)<(n:Int))=D5:=decide_eq_true (by omega)
     obtain⟨Iu,b1,b2⟩:=c.ev (2*i+2) S;have g2:az ((H.set i x)) ((2*i+2:Nat):Int)=Sy H[2*i+2]!:=by rw[aq _ _ (by rw[If];omega),cell,EQ (by omega)]
     have s2:=I2 (u:=u) (us:=us) (fr:=fr) N S (by omega) YZ.symm x0 x1 b1 b2;simp only[e3,ww,g2,aj,s2,sD Iu X,sD Iu A9]
     by_cases h3:less H[2*i+2]! H[2*i+1]!
     ·have k:kU n H i=2*i+2:=by unfold kU;rw[Do ⟨S,h3⟩]
      rw[k]
      by_cases h4:less H[2*i+2]! x
      ·simp only[D,h3,h4,decide_true,ww,AC,PP,and_self,if_true]
      simp only[D,h3,h4,decide_true,decide_false,ww,NE,and_false,if_false]
     have k:kU n H i=2*i+1:=by unfold kU;rw[EQ (λh=>h3 h.2)]
     rw[k]
     by_cases h4:less H[2*i+1]! x
     ·simp only[D,h3,h4,decide_true,decide_false,AC,PP,and_self,if_true]
     simp only[D,h3,h4,decide_false,ww,AC,NE,and_false,if_false]
    have e3:h2 (((2*i+2:Nat):Int)<(n:Int))=hi:=decide_eq_false (by omega)
    have k:kU n H i=2*i+1:=by unfold kU;rw[EQ (λh=>S h.1)]
    rw[k];simp only[e3,AC]
    by_cases h4:less H[2*i+1]! x
    ·simp only[D,h4,decide_true,AC,PP,and_self,if_true]
    simp only[D,h4,decide_false,ww,NE,and_false,if_false]
   grind
  by_cases h:2*i+1<n/\less H[kU n H i]! x
  ·rw[Do h]at body
   have kc:=ur n H i;have kn:kU n H i<n:=by omega
   rw[aD body,hdc X x0 l3 l4 l5 d (kU n H i) _ _ (by omega) (c.move N kn _ _) kn (by grind) (by grind) (by grind) (by grind)];have e:fj n x i H W=fj n x (kU n H i) (H.set i H[kU n H i]!) (W.set (H[kU n H i]!).n (i:Int)):=by rw[fj,dif_pos h.1,Do h.2]
   rw[e]
  rw[EQ h]at body
  rw[ar body];have e:fj n x i H W=(i,H,W):=by
   rw[fj]
   grind
  rw[e]
theorem adr{n:Nat}{H:J Ev}{W:J Int}{x:Ev}{u fr:J Int}{us:J Bool}{i k:Nat}(N:i<n)(hk:k<n)(Wb:k≠i)(hn:n=OH H)(x0:0<=x.ix)(x1:x.ix<OH W)(k0:0<=(H[k]!).ix)(k1:(H[k]!).ix<OH W):
 ru (u,us,fr,(i:Int),(k:Int),H.set i x,W.set x.n (i:Int))=Sy ((H.set i H[k]!).set k x,(W.set (H[k]!).n (i:Int)).set x.n (k:Int)):=by
 have cell: ∀w,(H.set i x)[w]! =if w=i then x else H[w]!:=by
  grind
 have sh:((H.set i x).set i H[k]!).set k x=(H.set i H[k]!).set k x:=by simp
 have sw:((W.set x.n (i:Int)).set (H[k]!).n (i:Int)).set x.n (k:Int)=(W.set (H[k]!).n (i:Int)).set x.n (k:Int):=by
  grind[Vf,al]
 have g1:az ((H.set i x)) (k:Int)=Sy H[k]!:=by rw[aq _ _ (by grind),cell,EQ Wb]
 have g2:az ((H.set i x)) (i:Int)=Sy x:=by simp_all[aq,]
 have g3:az (((H.set i x).set i H[k]!)) (k:Int)=Sy H[k]!:=by rw[aq _ _ (by grind),bQ,EQ (λh=>Wb h.1),cell,EQ Wb]
 have g4:az (((H.set i H[k]!).set k x)) (i:Int)=Sy H[k]!:=by simp_all[aq,]
 have g5:az (((H.set i H[k]!).set k x)) (k:Int)=Sy x:=by simp_all[aq,]
 have w6:=fh (l:=W.set x.n (i:Int)) k0 (by grind);have w7:=fh (l:=(W.set x.n (i:Int)).set (H[k]!).n (i:Int)) x0 (by grind);have q1: ∀(l:J Int) (a:Int) (y:Ev),bu l y.2.2.2.1 a=l.set y.n a:=λ_ _ _=>rfl
 unfold ru;simp only[cA,g1,g2,g3,aj,sh,g4,g5,q1,w6,w7,sw,If,beq_self_eq_true,ww]
theorem ads{c0:J Int×J Bool×J Int×Int×J Ev×J Int}{n:Nat}{u fr:J Int}{us:J Bool}{x:Ev}(X:wW x)(x0:0<=x.ix):
 ∀(i:Nat) (H:J Ev) (W:J Int),qT n H W->i<n->OH H=n->x.ix<OH W->OH c0.2.2.2.2.1=OH H->OH c0.2.2.2.2.2=OH W->
  au (kf c0) ((i:Int),H.set i x,W.set x.n (i:Int),u,us,fr)=Sy (((mJ x i H W).1:Int),(mJ x i H W).2.1.set (mJ x i H W).1 x,(mJ x i H W).2.2.set x.n ((mJ x i H W).1:Int))
 |0,H,W,c,N,YZ,x1,l1,l2=>by
  refine ar ?_;unfold kf;rw[mJ]
  grind
 |i+1,H,W,c,N,YZ,x1,l1,l2=>by
  have hb:=c.hb;have e1:h2 ((0:Int)<((i+1:Nat):Int))=D5:=decide_eq_true (by omega);have hp:i / 2<n:=by omega
  have fk:i / 2≠i+1:=by omega
  obtain⟨A9,a1,a2⟩:=c.ev (i / 2) hp;have cell: ∀w,(H.set (i+1) x)[w]! =if w=i+1 then x else H[w]!:=by
   grind
  have g0:az ((H.set (i+1) x)) ((i+1:Nat):Int)=Sy x:=by rw[aq _ _ (by grind),cell,Do rfl]
  have g1:az ((H.set (i+1) x)) ((i / 2:Nat):Int)=Sy H[i / 2]!:=by rw[aq _ _ (by grind),cell,EQ fk]
  by_cases h:less x H[i / 2]!
  ·have sw:=adr (u:=u) (us:=us) (fr:=fr) N hp fk YZ.symm x0 x1 a1 a2
   have r:kf c0 (((i+1:Nat):Int),H.set (i+1) x,W.set x.n ((i+1:Nat):Int),u,us,fr)=Sy (.next (((i / 2:Nat):Int),(H.set (i+1) H[i / 2]!).set (i / 2) x,(W.set (H[i / 2]!).n ((i+1:Nat):Int)).set x.n ((i / 2:Nat):Int),u,us,fr)):=by unfold kf;simp (disch:=omega) only[e1,ww,yq,g0,g1,aj,sD X A9,h,decide_true,sw]
   rw[aD r,ads X x0 (i / 2) _ _ (c.move N hp _ _) hp (by grind) (by grind) (by grind) (by grind)];have e:mJ x (i+1) H W=mJ x (i / 2) (H.set (i+1) H[i / 2]!) (W.set (H[i / 2]!).n ((i+1:Nat):Int)):=by rw[mJ,Do h]
   rw[e]
  refine ar ?_
  unfold kf;have e:mJ x (i+1) H W=(i+1,H,W):=by rw[mJ,EQ h]
  rw[e];simp (disch:=omega) only[e1,ww,yq,g0,g1,aj,sD X A9,h,decide_false,AC,If,l1,l2,beq_self_eq_true]
termination_by i=>i
decreasing_by omega
theorem aF{p:Prop}[Decidable p](h: ¬p):decide p=hi:=decide_eq_false h
theorem aA{p:Prop}[Decidable p](h:p):decide p=D5:=decide_eq_true h
theorem pl'(aC:J Int)(be:J Bool)(fr:J Int)(fl:J Bool)(D:(OH aC)<=200)(S:(OH be)=OH aC)(h3:(OH fl)=OH aC):
 ((∀i,i<OH aC->0<=aC[i]!/\aC[i]!<=1000000/\be[i]!≠fl[i]!/\(be[i]! =D5->1<=aC[i]!))->au oy (((OH aC):Int),0,aC,be,fr,fl)=Sy (.done 0))/\
 (¬(∀i,i<OH aC->0<=aC[i]!/\aC[i]!<=1000000/\be[i]!≠fl[i]!/\(be[i]! =D5->1<=aC[i]!))->au oy (((OH aC):Int),0,aC,be,fr,fl)=Sy (.done 8)):=by
 have key:=dX (body:=oy) (λi=>(((OH aC):Int),(i:Int),aC,be,fr,fl)) (OH aC) (λi=> ¬(0<=aC[i]!/\aC[i]!<=1000000/\be[i]!≠fl[i]!/\(be[i]! =D5->1<=aC[i]!))) (r:= .done 8) (e:= .done 0) (λi N=>by
  have e1:h2 ((i:Int)<((OH aC):Int))=D5:=aA (by omega);unfold oy;simp (disch:=omega) only[e1,aq,aj,aN];generalize aC[i]! =u;generalize be[i]! =a;generalize fl[i]! =b
  by_cases a1:u<0
  ·simp only[a1,decide_true,ww];exact⟨λ_=>trivial,λh=>absurd (Sw.1 h).1 (by omega)⟩
  ·by_cases a2:1000000<u
   ·simp only[a1,a2,decide_true,decide_false,ww,AC];exact⟨λ_=>trivial,λh=>absurd (Sw.1 h).2.1 (by omega)⟩
   simp[a1,a2,]
   by_cases a3:u<1
   ·cases a<;>cases b<;>simp[a3]<;>omega
   cases a<;>cases b<;>simp[a3]<;>omega) (by
  unfold oy;simp)
 grind
theorem NJ{α:Type}{n:Nat}(z:α)(h:n<=1048576):rF (n:Int) z=Sy (IR n z):=by
 unfold rF
 grind
theorem hqe (s:bg) (hf:(OH s.bi)<=1000000):AS s=Sy (if gM s then 0 else 8):=by
 obtain ⟨aC,be,fr⟩:=s;dsimp only at hf;unfold AS;simp only [aB]
 by_cases a1:(OH aC)<1
 · have e:h2 (((OH aC):Int)<1)=D5:=aA (by omega)
   rw [e,EQ (fun h=>by have:=h.n1;grind)];rfl
 have e1:h2 (((OH aC):Int)<1)=hi:=aF (by omega)
 by_cases a2:200<OH aC
 · have e:h2 (200<((OH aC):Int))=D5:=aA (by omega)
   rw [e1,e,EQ (fun h=>by have:=h.n2;grind)];rfl
 have e2:h2 (200<((OH aC):Int))=hi:=aF (by omega)
 by_cases a3:(OH be)=OH aC
 case neg=>have e:(((OH be):Int) !=((OH aC):Int))=D5:=cC (by omega);rw [e1,e2,e,EQ (fun h=>a3 h.ul)];rfl
 have e3:(((OH be):Int) !=((OH aC):Int))=hi:=aY (by omega)
 by_cases a4:(OH aC)<OH fr
 · have e:h2 (((OH aC):Int)<((OH fr):Int))=D5:=aA (by omega)
   rw [e1,e2,e3,e,EQ (fun h=>by have:=h.fl;grind)];rfl
 have e4:h2 (((OH aC):Int)<((OH fr):Int))=hi:=aF (by omega);simp (disch:=omega) only [e1,e2,e3,e4,AC,beq_self_eq_true,ww,NJ,aj];have ml: ∀k,(marks (IR (OH aC) hi) (fr.take k)).length=(OH aC):=fun k=>by rw [rA,Md]
 have ml':(marks (IR (OH aC) hi) fr).length=(OH aC):=by rw [rA,Md]
 have G3: ∀i:Nat,(IR (OH aC) hi)[i]! =hi:=by
  intro i
  by_cases h:i<OH aC
  · rw [getElem!_pos _ i (by simpa using h),List.getElem_replicate]
  simp_all
 have P3:=pl' aC be fr (marks (IR (OH aC) hi) fr) (by omega) a3 ml';have key:=dX (body:=vt) (fun k=>(((OH aC):Int),(k:Int),aC,be,fr,marks (IR (OH aC) hi) (fr.take k))) (OH fr)
  (fun k=>fr[k]!<0\/((OH aC):Int)<=fr[k]!\/(marks (IR (OH aC) hi) (fr.take k))[(fr[k]!).toNat]! =D5) (r:=8)
  (e:=if (∀i,i<OH aC->0<=aC[i]!/\aC[i]!<=1000000/\be[i]!≠(marks (IR (OH aC) hi) fr)[i]!/\(be[i]! =D5->1<=aC[i]!)) then 0 else 8) (fun k hk=>by
   have f1:h2 ((k:Int)<((OH fr):Int))=D5:=aA (by omega);have f5:marks (IR (OH aC) hi) (fr.take (k+1))=bu (marks (IR (OH aC) hi) (fr.take k)) fr[k]! D5:=by rw [cB hk,HN]
   unfold vt;simp (disch:=omega) only [aB,f1,ww,aq fr k hk,aj,aN,f5];clear f5;generalize fr[k]! =x
   by_cases b1:x<0
   · simp [b1]
   · by_cases b2:((OH aC):Int)<=x
     · simp [b1,b2]
     simp
     grind [fh,aj]) (by
   have f1:=aF (by omega);unfold vt
   grind)
 have h0:marks (IR (OH aC) hi) (fr.take 0)=IR (OH aC) hi:=rfl;rw [show ((0:Nat):Int)=0 from rfl,h0] at key
 by_cases bad: ∃k,k<OH fr/\(fr[k]!<0\/((OH aC):Int)<=fr[k]!\/(marks (IR (OH aC) hi) (fr.take k))[(fr[k]!).toNat]! =D5)
 · rw [key.1 bad,EQ]
   intro ok;obtain ⟨k,hk,hb⟩:=bad;have hr:=ok.fr fr[k]! (aJ hk);dsimp only at hr;rcases hb with hb|hb|hb
   · omega
   · omega
   rw [uq _ _ _ (fun x X=>(ok.fr x (KJ X)).1) (by grind),G3,KL] at hb
   have N:((fr[k]!).toNat:Int)=fr[k]!:=by omega
   rw [N] at hb;have hm:=of_decide_eq_true hb;obtain ⟨j,D,S,h3⟩:=cN.1 hm;exact bO.1 ok.fd j k D hk h3
 have Ft: ∀k,k<OH fr->0<=fr[k]!/\fr[k]!<OH aC/\(marks (IR (OH aC) hi) (fr.take k))[(fr[k]!).toNat]! =hi:=by
  intro k hk;refine ⟨?_,?_,?_⟩
  · exact Int.not_lt.1 fun h=>bad ⟨k,hk,.inl h⟩
  · exact Int.not_le.1 fun h=>bad ⟨k,hk,.inr (.inl h)⟩
  exact Su _▸fun h=>bad ⟨k,hk,.inr (.inr h)⟩
 rw [key.2 fun k hk hb=>bad ⟨k,hk,hb⟩];have Wm: ∀x∈fr,0<=x/\x<((OH aC):Int):=by intro x X;obtain ⟨k,hk,rfl⟩:=aU.1 X;exact ⟨(Ft k hk).1,(Ft k hk).2.1⟩
 have g2: ∀k,k<OH fr->fr[k]!∉fr.take k:=by intro k hk;obtain ⟨c1,c2,c3⟩:=Ft k hk;rw [uq _ _ _ (fun x X=>(Wm x (KJ X)).1) (by rw [Md];omega),show ((fr[k]!).toNat:Int)=fr[k]! by omega,G3,KL] at c3;exact of_decide_eq_false c3
 have nd:=bO.2 fun i j rE hj he=>g2 j hj (cN.2 ⟨i,rE,by omega,he⟩)
 have fl: ∀i,i<OH aC->(marks (IR (OH aC) hi) fr)[i]! =h2 ((i:Int)∈fr):=by intro i N;rw [uq _ _ _ (fun x X=>(Wm x X).1) (by rw [Md];omega),G3,KL]
 by_cases X:(∀i,i<OH aC->0<=aC[i]!/\aC[i]!<=1000000/\be[i]!≠(marks (IR (OH aC) hi) fr)[i]!/\(be[i]! =D5->1<=aC[i]!))
 · rw [Do X,Do]
   refine ⟨by show 1<=OH aC;omega,by show (OH aC)<=200;omega,a3,Wm,nd,fun i N=>?_,fun i N=>?_⟩
   · have:=(X i N).2.2.1
     rw [fl i N] at this;dsimp only;cases h:be[i]! with
     |true=>rw [h] at this;refine ⟨fun _ hm=>?_,fun _=>rfl⟩;rw [aA hm] at this;exact this rfl
     |false=>rw [h] at this;refine ⟨fun h=>(by cases h),fun hm=>?_⟩;rw [aF hm] at this;exact absurd rfl this
   have:=X i N
   exact ⟨this.1,this.2.1,this.2.2.2⟩
 rw [EQ X,EQ]
 intro ok;refine X fun i N=>?_
 obtain ⟨u1,u2,u3⟩:=ok.us i N;refine ⟨u1,u2,?_,u3⟩;rw [fl i N];have:=ok.uf i N;dsimp only at this;intro he
 by_cases hm:(i:Int)∈fr
 · rw [aA hm] at he;exact (this.1 he) hm
 rw [aF hm] at he
 have:=this.2 hm;rw [he] at this;cases this
structure Fs(a:aM):Prop where
 fr:(OH a.ai.bi)<=1000000
 hp:(OH a.bv)<=1000000
 wh:(OH a.ax)<=1000000
 Wr: ∀w,w<OH a.bv->jo ((a.bv[w]!).1,(a.bv[w]!).2.1)
structure gB(a:aM):Prop where
 so:gM a.ai
 wl:(OH a.ax)=OH a.ai.aC
 I:(OH a.bv)+OH a.ai.bi=OH a.ai.aC
 fwd: ∀i,i<OH a.ai.aC->a.ai.be[i]! =D5->0<=a.ax[i]!/\a.ax[i]!<OH a.bv/\(Ev.ix a.bv[(a.ax[i]!).toNat]!)=i/\(a.bv[(a.ax[i]!).toNat]!).2.2.2.2=a.ai.aC[i]!
 un: ∀i,i<OH a.ai.aC->a.ai.be[i]! =hi->a.ax[i]! = -1
 ev: ∀w,w<OH a.bv->wW a.bv[w]!
 nd: ∀v w,v<w->w<OH a.bv->(Ev.num a.bv[v]!)≠(Ev.num a.bv[w]!)
 ord: ∀k,0<k->k<OH a.bv-> ¬less a.bv[k]! a.bv[(k-1) / 2]!
theorem cover: ∀(n:Nat) (l:J Nat),(∀x,x<n->x∈l)->n<=OH l
 |0,_,_=>Nat.zero_le _
 |n+1,l,h=>by
  have:=cover n (l.erase n) (λx X=>by rw[List.mem_erase_of_ne (by omega)];exact h x (by omega))
  grind
def TY(s:bg):J Nat:=(List.range (OH s.aC)).filter λi=>s.be[i]!
theorem Gp{s:bg}{i:Nat}:i∈TY s↔i<OH s.aC/\s.be[i]! =D5:=by unfold TY;simp
theorem Gq{α β:Type}{f:α->β}: ∀{l:J α},l.Nodup->(∀x∈l,∀y∈l,f x=f y->x=y)->(l.map f).Nodup
 | [],_,_=>by simp
 |a::l,h,hf=>by
  rw[SG]at h;rw[List.map_cons,SG];refine⟨?_,Gq h.2 λx X y hy=>hf x (by simp[X]) y (by simp[hy])⟩
  grind
theorem gB.back{a:aM}(ok:gB a){w:Nat}(hw:w<OH a.bv):0<=(Ev.ix a.bv[w]!)/\(Ev.ix a.bv[w]!)<OH a.ai.aC/\a.ai.be[(Ev.n a.bv[w]!)]! =D5/\a.ai.aC[(Ev.n a.bv[w]!)]! =(a.bv[w]!).2.2.2.2/\a.ax[(Ev.n a.bv[w]!)]! =(w:Int):=by
 have so:=ok.so;have len:(OH a.ai.aC)<=(TY a.ai).length+(OH a.ai.bi):=by
  have:=cover (OH a.ai.aC) (TY a.ai++a.ai.bi.map Int.toNat) (λx X=>by
   rw[YJ]
   by_cases hu:a.ai.be[x]! =D5
   ·exact .inl (Gp.2 ⟨X,hu⟩)
   right
   have:=so.uf x X;have hm:=WF λhc=>hu (this.2 hc)
   exact Mi.2 ⟨_,hm,by omega⟩)
  grind
 have f0:=λi N=>ok.fwd i (Gp.1 N).1 (Gp.1 N).2
 have full:=aa4 (l:=(TY a.ai).map λi=>(a.ax[i]!).toNat) (by
  refine Gq ?_ ?_
  ·exact List.Pairwise.filter _ List.nodup_range
  grind) (by
  simp_all) (by
  rw[Vg];have:=ok.I;omega) w hw
 obtain⟨i,N,e⟩:=Mi.1 full;obtain⟨c1,c2,c3,c4⟩:=f0 i N;obtain⟨d1,d2⟩:=Gp.1 N;rw[e]at c3 c4;have hn:(Ev.n a.bv[w]!)=i:=by show((Ev.ix a.bv[w]!)).toNat=i;omega
 rw[hn];refine⟨by omega,by omega,d2,c4.symm,by omega⟩
noncomputable def Ws(x y:Ev):Int:=if bI (x.1,x.2.1)/\bI (y.1,y.2.1)then TU x y else nS x.2.2.1 y.2.2.1
theorem aej{x y:Ev}(X:jo (x.1,x.2.1))(hy:jo (y.1,y.2.1)):cY x y=Sy (Ws x y):=by
 unfold cY Ws TU;rw[yp X hy]
 by_cases h:bI (x.1,x.2.1)/\bI (y.1,y.2.1)
 ·rw[Do h,Do h]
  simp[oE,Gl]
 simp_all[EQ,oE,Gl]
def Rv(a:aM)(i:Nat):Prop:=(a.ai.be[i]! =D5->0<=a.ax[i]!/\a.ax[i]!<OH a.bv/\(Ev.ix a.bv[(a.ax[i]!).toNat]!)=i/\(a.bv[(a.ax[i]!).toNat]!).2.2.2.2=a.ai.aC[i]!)/\(a.ai.be[i]! =hi->a.ax[i]! = -1)
def TZ(H:J Ev)(k:Nat):Prop:=bI ((H[k]!).1,(H[k]!).2.1)/\0<=(H[k]!).2.2.1/\(H[k]!).2.2.1<=1000000/\(∀j,j<k->(H[j]!).2.2.1≠(H[k]!).2.2.1)/\(0<k-> ¬Ws H[k]! H[(k-1) / 2]!<0)
theorem gB.of{a:aM}(fit:Fs a)(so:gM a.ai)(wl:(OH a.ax)=OH a.ai.aC)(I:(OH a.bv)+OH a.ai.bi=OH a.ai.aC)(wh: ∀i,i<OH a.ai.aC->Rv a i)(hp: ∀k,k<OH a.bv->TZ a.bv k):gB a:=by
 have ev: ∀w,w<OH a.bv->wW a.bv[w]!:=λw hw=>⟨(hp w hw).1,fit.Wr w hw,(hp w hw).2.1,(hp w hw).2.2.1⟩
 refine⟨so,wl,I,λi N=>(wh i N).1,λi N=>(wh i N).2,ev,λv w hv hw=>(hp w hw).2.2.2.1 v hv,λk k0 hk=>?_⟩;have:=(hp k hk).2.2.2.2 k0;unfold Ws at this;rw[Do ⟨(hp k hk).1,(hp _ (by omega)).1⟩,I1]at this;exact this
theorem gB.to{a:aM}(ok:gB a):(∀i,i<OH a.ai.aC->Rv a i)/\(∀k,k<OH a.bv->TZ a.bv k):=by refine⟨λi N=>⟨ok.fwd i N,ok.un i N⟩,λk hk=>?_⟩;have e:=ok.ev k hk;refine⟨e.1,e.2.2.1,e.2.2.2,λj hj=>ok.nd j k hj hk,λk0=>?_⟩;unfold Ws;rw[Do ⟨e.1,(ok.ev _ (by omega)).1⟩,I1];exact ok.ord k k0 hk
theorem hxd(H:J Ev)(k:Nat)(n:Int):uO [n] ((H.take k).map λx=>[x.2.2.1])=D5:=by unfold uO;rw[List.all_eq_true];intro x X;obtain⟨y,hy,rfl⟩:=Mi.1 X;rfl
theorem hlu(H:J Ev)(k:Nat)(n:Int):Lw ((H.take k).map λx=>[x.2.2.1]) [n]=h2 (∃j,j<k/\j<OH H/\(H[j]!).2.2.1=n):=by
 unfold Lw;rw[Bool.eq_iff_iff,List.any_eq_true,decide_eq_true_iff];constructor
 ·rintro⟨x,X,he⟩
  obtain⟨y,hy,rfl⟩:=Mi.1 X;obtain⟨j,D,S,rfl⟩:=cN.1 hy
  grind
 rintro⟨j,D,S,h3⟩
 refine⟨[(H[j]!).2.2.1],Mi.2 ⟨H[j]!,cN.2 ⟨j,D,S,rfl⟩,rfl⟩,?_⟩;rw[h3];simp
theorem alJ(H:J Ev)(u fr W:J Int)(us:J Bool)(I:(OH H)<=1000000)(dK: ∀w,w<OH H->jo ((H[w]!).1,(H[w]!).2.1)):
 ((∀k,k<OH H->TZ H k)->au mH (H,((OH H):Int),0,u,us,fr,H,W,[])=Sy (.done 0))/\(¬(∀k,k<OH H->TZ H k)->au mH (H,((OH H):Int),0,u,us,fr,H,W,[])=Sy (.done 8)):=by
 have key:=dX (body:=mH) (λk=>(H,((OH H):Int),(k:Int),u,us,fr,H,W,(H.take k).map λx=>[x.2.2.1])) (OH H) (λk=> ¬TZ H k) (e:= .done 0) (λk hk=>by
  have e1:h2 ((k:Int)<((OH H):Int))=D5:=aA (by omega);have ins: ∀n:Int,¬(∃j,j<k/\j<OH H/\(H[j]!).2.2.1=n)->Tb ((H.take k).map λx=>[x.2.2.1]) [n]=Sy (((H.take k).map λx=>[x.2.2.1])++[[n]]):=by intro n hn;unfold Tb H2;rw[hxd,hlu,aF hn];rfl
  have has: ∀n:Int,Ta ((H.take k).map λx=>[x.2.2.1]) [n]=Sy (h2 (∃j,j<k/\j<OH H/\(H[j]!).2.2.1=n)):=by intro n;unfold Ta;rw[hxd,hlu];rfl
  have nx:(H.take (k+1)).map (λx=>[x.2.2.1])=((H.take k).map λx=>[x.2.2.1])++[[(H[k]!).2.2.1]]:=by rw[cB hk,List.map_append];rfl
  unfold mH;simp (disch:=omega) only[e1,aq H k hk,aj,bR (dK k hk),aN,has,nx]
  by_cases b1:bI ((H[k]!).1,(H[k]!).2.1)
  case neg=>rw[EQ b1];exact⟨λ_=>rfl,λh=>absurd (Sw.1 h).1 b1⟩
  rw[Do b1]
  by_cases b2:(H[k]!).2.2.1<0
  ·rw[aA b2]
   exact⟨λ_=>rfl,λh=>absurd (Sw.1 h).2.1 (by omega)⟩
  by_cases b3:1000000<(H[k]!).2.2.1
  ·rw[aF b2,aA b3]
   exact⟨λ_=>rfl,λh=>absurd (Sw.1 h).2.2.1 (by omega)⟩
  rw[aF b2,aF b3]
  by_cases b4: ∃j,j<k/\j<OH H/\(H[j]!).2.2.1=(H[k]!).2.2.1
  ·rw[aA b4]
   refine⟨λ_=>rfl,λh=>?_⟩;obtain⟨j,j1,j2,j3⟩:=b4;exact absurd j3 ((Sw.1 h).2.2.2.1 j j1)
  rw[aF b4,ins _ b4];have NM:=λj hj he=>b4 ⟨j,hj,by omega,he⟩
  by_cases b5:0<k
  ·obtain⟨m,rfl⟩: ∃m,k=m+1:=⟨k-1,by omega⟩
   have f1:h2 ((0:Int)<((m+1:Nat):Int))=D5:=aA (by omega);simp (disch:=omega) only[yq,aq,aj,aej (dK (m+1) hk) (dK (m / 2) (by omega)),by omega]
   by_cases b6:Ws H[m+1]! H[m / 2]!<0
   ·rw[aA b6]
    exact⟨λ_=>rfl,λh=>absurd b6 ((Sw.1 h).2.2.2.2 (by omega))⟩
   rw[aF b6]
   exact⟨λh=>absurd ⟨b1,by omega,by omega,NM,λ_=>b6⟩ h,λ_=>rfl⟩
  ·have f1:h2 ((0:Int)<(k:Int))=hi:=aF (by omega)
   rw[f1];exact⟨λh=>absurd ⟨b1,by omega,by omega,NM,λh=>absurd h b5⟩ h,λ_=>rfl⟩) (by
  unfold mH;simp)
 grind
end Go.Proofs.YtbelikaakgedaaaGreat
