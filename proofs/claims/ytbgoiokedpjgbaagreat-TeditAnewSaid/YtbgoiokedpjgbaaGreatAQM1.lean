/- Plain laws (1). -/
import Derived.Test.YtbgoiokedpjgbaaGreatAVm3
import Derived.Test.YtbgoiokedpjgbaaGreatAVm1
import Derived.Test.YtbgoiokedpjgbaaGreatAQS2
open List renaming length_set->pp,replicate->ut,length_replicate->M2,set_set->NE,mem_map->UV,mem_of_mem_take->acl,length_take->ad6,nodup_cons->adB,length_map->adC,mem_singleton->adK,getElem?_eq_getElem->adQ,mem_append->aeb,set_comm->aet,length_cons->aeD,take_length->aeE,mem_filter->aeU,mem_cons->afi,length->aig
open Classical renaming not_not->rc,not_forall->Do,byContradiction->If,not_imp->adz
open Option.some renaming injEq->v6
open Nat renaming gcd->ww,gcd_comm->ady,gcd_dvd_right->adP,gcd_pos_of_pos_right->ae7,le_refl->aeh,mul_div_cancel'->aem,gcd_zero_right->aex,gcd_dvd_left->aez,strongRecOn->aeF,div_le_self->aeK,le_trans->agd
open Bool renaming not_false->AC,not_true->EQ,not_eq_true->ae8,or_eq_false_iff->ael,false_or->aev,false_eq_true->aey,true->ajh,false->aji
open Int renaming mul_le_mul_of_nonneg_right->IR,ofNat->ad5,mul_neg_of_neg_of_pos->ad9,eq_ofNat_of_zero_le->adc,neg_mul->adA,mul_comm->adF,mul_lt_mul_of_pos_right->adG,fdiv_eq_ediv_of_nonneg->adH,mul_le_mul->adI,tdiv_eq_ediv_of_nonneg->adJ,lt_of_mul_lt_mul_right->adL,lt_trichotomy->adN,mul_nonneg->aei,tdiv->aej,natCast_mul->aeS,ofNat_tmod->aeY,ofNat_tdiv->afc,mul_assoc->afe,toNat->afn
open Prod.mk renaming injEq->PP
open Option renaming some->ajg
open Decidable renaming decide->ajj
namespace Go.Vm
instance lpN:LP:=⟨none⟩
section
variable {σ ρ : Type}
theorem bg {body:σ->Option (Step σ ρ)} {x:σ} {r:ρ}:ay body x=ajg r↔ ∃n,qF body n x=ajg r:=DO
theorem aT {body:σ->Option (Step σ ρ)} {x y:σ} (h:body x=ajg (.next y)):ay body x=ay body y:=by
 apply Option.ext;intro r;rw [bg,bg];constructor
 · rintro ⟨n,hn⟩
   cases n with
   |zero=>cases hn
   |succ n=>simp only [qF,h] at hn;exact ⟨n,hn⟩
 rintro ⟨n,hn⟩
 exact ⟨n+1,by simp only [qF,h];exact hn⟩
theorem aI {body:σ->Option (Step σ ρ)} {x:σ} {r:ρ} (h:body x=ajg (.done r)):ay body x=ajg r:=
 bg.2 ⟨1,by simp only [qF,h]⟩
end
end Go.Vm
namespace Go.Proofs.YtbgoiokedpjgbaaGreat
open Go.Vm
structure aep where
 jp:aK
 bv:List Int
noncomputable def uI (s:(Int×Int×Int×(List (Int×Int×Int)))):Option (Step (Int×Int×Int×(List (Int×Int×Int))) Int):=
 bif ajj (s.2.1<(ad5 (aig s.2.2.2))) then
  (aH s.2.2.2 s.2.1).bind fun a0=>
  bif a0.1==s.1 then
   ajg (.done s.2.1)
  else
   ajg (.next (s.1,aa .i64 (s.2.1+1),s.2.2))
 else
  ajg (.done (-1))
noncomputable def L' (p0:bF) (p1:Int):Option Int:=
 ay uI (p1,0,p0.aN,p0.ce)
noncomputable def B' (p0:aK):Option (aK×(Int×Int×Int×Int×Int)×(Int×Int)):=
 (aH p0.ae.bv 0).bind fun a0=>
 (L' p0.ai a0.2.2.1).bind fun n1=>
 (aH p0.ai.ce n1).bind fun a2=>
 (nI p0 a0.2.2.1).bind fun r3=>
 ajg (aK.mk (a0.1,a0.2.1) r3.ii r3.ai r3.ae r3.io,a0,a2.2)
noncomputable def o5 (s:((List Int)×Int×Int)):Option (Step ((List Int)×Int×Int) Int):=
 bif ajj (s.2.2<(ad5 (aig s.1))) then
  (aH s.1 s.2.2).bind fun n0=>
  bif n0==s.2.1 then
   ajg (.done s.2.2)
  else
   ajg (.next (s.1,s.2.1,aa .i64 (s.2.2+1)))
 else
  ajg (.done (-1))
noncomputable def Ma (p0:List Int) (p1:Int):Option Int:=
 ay o5 (p0,p1,0)
noncomputable def Aj (p0:Int×Int×Int) (p1:List (Int×Int)):Option Bool:=
 (eF p1 p0.2).bind fun b0=>
 ajg (!b0)
noncomputable def bP (s:((List (Int×Int×Int))×(List (Int×Int))×Int×Int)):Option (Step ((List (Int×Int×Int))×(List (Int×Int))×Int×Int) Int):=
 bif ajj (s.2.2.2<s.2.2.1) then
  (aH s.1 s.2.2.2).bind fun a0=>
  (Aj a0 s.2.1).bind fun b1=>
  bif b1 then
   ajg (.done s.2.2.2)
  else
   ajg (.next (s.1,s.2.1,s.2.2.1,aa .i64 (s.2.2.2+1)))
 else
  ajg (.done (-1))
noncomputable def ie (p0:List (Int×Int×Int)) (p1:(List (Int×Int))):Option Int:=
 ay bP (p0,p1,ad5 (aig p0),0)
noncomputable def gB (p0:List (Int×Int×Int)) (p1:(List (Int×Int))):Option Bool:=
 (ie p0 p1).bind fun n0=>
 ajg (ajj (0<=n0))
noncomputable def yP (p0:aK) (p1:List (Int×Int)):Option Bool:=
 bif (ad5 (aig p1))==(ad5 (aig p0.ai.ce)) then
  (gB p0.ai.ce p1).bind fun b0=>
  ajg (!b0)
 else
  ajg aji
abbrev xn (n:Int):Prop:= -9223372036854775808<=n/\n<9223372036854775808
abbrev U6 (n:Int):Prop:=0<=n/\n<18446744073709551616
theorem wi (n:Int):aa .i64 n=(n+9223372036854775808)%18446744073709551616-9223372036854775808:=by
 rw [sQ];simp only [IntKind.wrap,IntKind.bits,IntKind.signed,Bool.true_and];have e1:(2:Int)^64=18446744073709551616:=by decide
 have e2:(2:Int)^(64-1)=9223372036854775808:=by decide
 simp only [e1,e2,decide_eq_true_eq];split<;>omega
theorem wu (n:Int):aa .u64 n=n%18446744073709551616:=by
 rw [sQ];simp only [IntKind.wrap,IntKind.bits,IntKind.signed,Bool.false_and];have e1:(2:Int)^64=18446744073709551616:=by decide
 simp only [e1];simp
theorem jI {n:Int} (h:xn n):aa .i64 n=n:=by rw [wi];omega
theorem cS {a b:Int} (h:a≠b):(a !=b)=ajh:=by simpa using h
theorem bB {a b:Int} (h:a=b):(a !=b)=aji:=by simpa using h
theorem dp {a b:Int} (h:a=b):(a==b)=ajh:=by simpa using h
theorem dR {a b:Int} (h:a≠b):(a==b)=aji:=by simpa using h
theorem Qf (a b:Int):(a==b)=ajj (a=b):=by
 by_cases h:a=b
 · rw [dp h,decide_eq_true h]
 rw [dR h,decide_eq_false h]
theorem lt_or_ge (a b:Int):a<b\/b<=a:=by omega
theorem akX (a:Int):gL .u64 a 32=a / 4294967296:=by unfold gL;rw [show (min (32:Int).toNat (IntKind.bits .u64))=32 from by decide,show (2:Int)^32=4294967296 from by decide];exact adH _ (by decide)
theorem Ox {a:Int} (h:U6 a):AN .u64 a 4294967295=a%4294967296:=by
 obtain ⟨n,rfl⟩:=adc h.1;unfold AN;have e:(BitVec.ofInt (IntKind.bits .u64) (n:Int)&&&BitVec.ofInt (IntKind.bits .u64) 4294967295).toNat=n%4294967296:=by
  rw [BitVec.toNat_and];have e1:(BitVec.ofInt (IntKind.bits .u64) (n:Int)).toNat=n:=by
   rw [BitVec.toNat_ofInt];have:((2^(IntKind.bits .u64):Nat):Int)=18446744073709551616:=by decide
   rw [this];omega
  have e2:(BitVec.ofInt (IntKind.bits .u64) (4294967295:Int)).toNat=2^32-1:=by decide
  rw [e1,e2,Nat.and_two_pow_sub_one_eq_mod]
 rw [e];have:=wu ((n%4294967296:Nat):Int);rw [sQ] at this;rw [this];omega
theorem acW {a b:Nat} (ha:a<1000000000) (hb:b<1000000000):aa .i64 (gL .u64 (aa .u64 (aa .i64 ((a:Int)+(b:Int)))) 1)=(((a+b) / 2:Nat):Int):=by unfold gL;rw [show (min (1:Int).toNat (IntKind.bits .u64))=1 from by decide,show (2:Int)^1=2 from by decide,adH _ (by decide),wi (_+_),wu,wi];omega
section
variable {σ ρ : Type} {body : σ -> Option (Step σ ρ)}
theorem eJ (st:Nat->σ) (n:Nat) (h: ∀i,i<n->body (st i)=ajg (.next (st (i+1)))):ay body (st 0)=ay body (st n):=by
 induction n with
 |zero=>rfl
 |succ n ih=>rw [ih fun i hi=>h i (by omega)];exact aT (h n (by omega))
theorem dy (st:Nat->σ) (n:Nat) (c:Nat->Prop) {r e:ρ} (h: ∀i,i<n->(c i->body (st i)=ajg (.done r))/\(¬c i->body (st i)=ajg (.next (st (i+1)))))
 (U7:body (st n)=ajg (.done e)):((∃i,i<n/\c i)->ay body (st 0)=ajg r)/\((∀i,i<n-> ¬c i)->ay body (st 0)=ajg e):=by
 constructor
 · rintro ⟨i,hi,hc⟩
   have key: ∀k,k<=n->(∃i,i<n/\n-k<=i/\c i)->ay body (st (n-k))=ajg r:=by
    intro k
    induction k with
    |zero=>rintro _ ⟨i,h1,h2,_⟩;omega
    |succ k ih=>
     rintro hk ⟨i,h1,h2,h3⟩
     by_cases hc:c (n- (k+1))
     · exact aI ((h _ (by omega)).1 hc)
     rw [aT ((h _ (by omega)).2 hc),show n- (k+1)+1=n-k by omega]
     refine ih (by omega) ⟨i,h1,?_,h3⟩
     by_cases he:i=n- (k+1)
     · subst he;exact absurd h3 hc
     omega
   have:=key n (aeh n) ⟨i,hi,by omega,hc⟩
   rwa [Nat.sub_self] at this
 intro hn
 rw [eJ st n fun i hi=>(h i hi).2 (hn i hi)];exact aI U7
theorem least {c:Nat->Prop}: ∀{n:Nat},(∃i,i<n/\c i)-> ∃k,k<n/\c k/\ ∀j,j<k-> ¬c j
 |0,h=>by obtain ⟨i,hi,_⟩:=h;omega
 |n+1,h=>by
  by_cases hx: ∃i,i<n/\c i
  · obtain ⟨k,h1,h2,h3⟩:=least hx
    exact ⟨k,by omega,h2,h3⟩
  obtain ⟨i,hi,hc⟩:=h
  refine ⟨i,hi,hc,fun j hj hcj=>hx ⟨j,by omega,hcj⟩⟩
theorem iD (st:Nat->σ) (n:Nat) (c:Nat->Prop) (r:Nat->ρ) {e:ρ} (h: ∀i,i<n->(c i->body (st i)=ajg (.done (r i)))/\(¬c i->body (st i)=ajg (.next (st (i+1)))))
 (U7:body (st n)=ajg (.done e)):(∀k,k<n->c k->(∀j,j<k-> ¬c j)->ay body (st 0)=ajg (r k))/\((∀i,i<n-> ¬c i)->ay body (st 0)=ajg e):=by
 constructor
 · intro k hk hc hj
   rw [eJ st k fun i hi=>(h i (by omega)).2 (hj i hi)];exact aI ((h k hk).1 hc)
 intro hn
 rw [eJ st n fun i hi=>(h i hi).2 (hn i hi)];exact aI U7
theorem Dl (st:Nat->Nat->σ) (n m:Nat) (c:Nat->Prop)
 (h: ∀lo hi,lo<hi->hi<=n->(c ((lo+hi) / 2)->body (st lo hi)=ajg (.next (st ((lo+hi) / 2+1) hi)))/\(¬c ((lo+hi) / 2)->body (st lo hi)=ajg (.next (st lo ((lo+hi) / 2)))))
 (h1: ∀i,i<m->c i) (h2: ∀i,m<=i->i<n-> ¬c i): ∀d lo hi,hi-lo<=d->lo<=m->m<=hi->hi<=n->ay body (st lo hi)=ay body (st m m)
 |0,lo,hi,hd,a,b,_=>by
  have e1:lo=m:=by omega
  have e2:hi=m:=by omega
  rw [e1,e2]
 |d+1,lo,hi,hd,a,b,e=>by
  by_cases hl:lo<hi
  · by_cases hc:c ((lo+hi) / 2)
    · rw [aT ((h lo hi hl e).1 hc)]
      refine Dl st n m c h h1 h2 d _ _ (by omega) ?_ b e;refine If fun hx=>?_
      exact h2 ((lo+hi) / 2) (by omega) (by omega) hc
    rw [aT ((h lo hi hl e).2 hc)]
    refine Dl st n m c h h1 h2 d _ _ (by omega) a ?_ (by omega);refine If fun hx=>?_
    exact hc (h1 ((lo+hi) / 2) (by omega))
  have e1:lo=m:=by omega
  have e2:hi=m:=by omega
  rw [e1,e2]
end
section
variable {α : Type} [Inhabited α]
theorem ax (l:List α) (n:Nat) (h:n<aig l):aH l (n:Int)=ajg l[n]!:=by show l[n]? =ajg l[n]!;rw [adQ h,getElem!_pos l n h]
theorem dS {l:List α} {i:Int} (h0:0<=i) (h:i<aig l):aH l i=ajg l[i.toNat]!:=by obtain ⟨n,rfl⟩:=adc h0;exact ax l n (by omega)
theorem mq {β:Type} (l:List β) (n:Nat) (a:β):cd l (n:Int) a=l.set n a:=rfl
theorem aU (l:List α) (n m:Nat) (a:α):(l.set n a)[m]! =if m=n/\n<(aig l) then a else l[m]!:=by
 by_cases hm:m<aig l
 · rw [getElem!_pos (l.set n a) m (by simpa using hm),getElem!_pos l m hm,List.getElem_set]
   split
   · rw [ls (by omega)]
   rw [lw (by omega)]
 rw [getElem!_neg (l.set n a) m (by simpa using hm),getElem!_neg l m hm]
 split
 · omega
 rfl
theorem aO {l:List α} {x:α}:x∈l↔ ∃i,i<aig l/\l[i]! =x:=by
 rw [List.mem_iff_getElem];constructor
 · rintro ⟨i,h,rfl⟩;exact ⟨i,h,getElem!_pos l i h⟩
 rintro ⟨i,h,rfl⟩;exact ⟨i,h,(getElem!_pos l i h).symm⟩
theorem bn {l:List α} {i:Nat} (h:i<aig l):l[i]!∈l:=aO.2 ⟨i,h,rfl⟩
theorem dv {l m:List α} {i:Nat} (h:i<aig l):(l++m)[i]! =l[i]!:=by rw [getElem!_pos (l++m) i (by simp;omega),getElem!_pos l i h,List.getElem_append_left h]
theorem eK {l m:List α} {i:Nat} (h:(aig l)<=i):(l++m)[i]! =m[i-(aig l)]!:=by
 by_cases hi:i<aig l+aig m
 · rw [getElem!_pos (l++m) i (by simp;omega),getElem!_pos m (i-(aig l)) (by omega),List.getElem_append_right h]
 rw [getElem!_neg (l++m) i (by simp;omega),getElem!_neg m (i-(aig l)) (by omega)]
theorem je {l:List α} {n i:Nat} (h:i<n):(l.take n)[i]! =l[i]!:=by
 by_cases hi:i<aig l
 · rw [getElem!_pos (l.take n) i (by simp;omega),getElem!_pos l i hi,List.getElem_take]
 rw [getElem!_neg (l.take n) i (by simp;omega),getElem!_neg l i hi]
theorem mJ {l:List α} {n i:Nat}:(l.drop n)[i]! =l[n+i]!:=by
 by_cases hi:n+i<aig l
 · rw [getElem!_pos (l.drop n) i (by simp;omega),getElem!_pos l (n+i) hi,List.getElem_drop]
 rw [getElem!_neg (l.drop n) i (by simp;omega),getElem!_neg l (n+i) hi]
theorem qW {l m:List α} (hl:(aig l)=aig m) (h: ∀i,i<aig l->l[i]! =m[i]!):l=m:=by
 apply List.ext_getElem hl;intro i h1 h2;have:=h i h1
 rwa [getElem!_pos l i h1,getElem!_pos m i h2] at this
theorem U8 {l:List α} {i:Nat} (h:i<aig l):l=l.take i++l[i]!::l.drop (i+1):=by rw [getElem!_pos l i h,List.getElem_cons_drop,List.take_append_drop]
end
theorem bm {α:Type} {l:List α} (h:(aig l)<=1048576):bV l=ajg l:=by unfold bV;rw [ls h]
theorem dJ {α:Type} {l m:List α} (h:(aig l)+aig m<=1048576):bJ l m=ajg (l++m):=by unfold bJ;rw [ls h]
@[simp] theorem aj {α β:Type} (a:α) (f:α->Option β):(ajg a).bind f=f a:=rfl
end Go.Proofs.YtbgoiokedpjgbaaGreat
namespace Go.Proofs.YtbgoiokedpjgbaaGreat
open Go.Vm Classical
theorem jD {n:Int} (h:xn n):gZ n=ajg (n.natAbs:Int):=by
 unfold gZ;simp only [wi,wu]
 by_cases hn:n<0
 · simp only [hn,decide_true,lc,v6];omega
 simp only [hn,decide_false,lm,v6];omega
theorem o6 {n:Int} (h:xn n):lq n=ajg (n.natAbs:Int):=by
 unfold lq;simp only [wu]
 by_cases hn:n<0
 · simp only [hn,decide_true,lc,v6];omega
 simp only [hn,decide_false,lm,v6];omega
theorem pP (m n:Nat):oJ m n=ajg (ww m n:Int):=by
 unfold oJ
 induction n using aeF generalizing m with
 |ind n ih=>
  by_cases h0:n=0
  · subst h0
    rw [aex];exact aI (by simp [nk])
  have e:nk ((m:Int),(n:Int))=ajg (.next ((n:Int),((m%n:Nat):Int))):=by
   have h1:((n:Int) !=0)=ajh:=by simp;omega
   have h2:((n:Int)==0)=aji:=by simp;omega
   simp only [nk,h1,h2,lc,lm,aeY]
  rw [aT e,ih (m%n) (Nat.mod_lt _ (by omega)) n,ady m n,Nat.gcd_rec n m,ady]
theorem Ak (m n:Nat):v8 m n=ajg (ww m n:Int):=by
 unfold v8
 induction n using aeF generalizing m with
 |ind n ih=>
  by_cases h0:n=0
  · subst h0
    rw [aex];exact aI (by simp [si])
  have e:si ((m:Int),(n:Int))=ajg (.next ((n:Int),((m%n:Nat):Int))):=by
   have h1:ajj (0<(n:Int))=ajh:=by simp;omega
   have h2:((n:Int)==0)=aji:=by simp;omega
   simp only [si,h1,h2,lc,lm,aeY]
  rw [aT e,ih (m%n) (Nat.mod_lt _ (by omega)) n,ady m n,Nat.gcd_rec n m,ady]
def bK (r:Int×Int):Prop:=1<=r.2/\r.1≠ -9223372036854775808/\ww r.2.natAbs r.1.natAbs=1
abbrev lM (r:Int×Int):Prop:=xn r.1/\xn r.2
theorem dZ {r:Int×Int} (h:lM r):eD r=ajg (if bK r then 0 else 8):=by
 obtain ⟨a,b⟩:=r;obtain ⟨ha,hb⟩:=h;unfold eD bK;dsimp only at ha hb ⊢
 by_cases h1:b<1
 · rw [lw (by omega)];simp [h1]
 by_cases h2:a= -9223372036854775808
 · rw [lw (by omega)];simp [h1,h2]
 have e2:(a== -9223372036854775808)=aji:=by simpa using h2
 have e3:aa .u64 b=(b.natAbs:Int):=by rw [wu];omega
 simp only [h1,decide_false,lm,e2,o6 ha,aj,e3,Ak];have hp:0<ww b.natAbs a.natAbs:=Nat.gcd_pos_of_pos_left _ (by omega)
 by_cases h3:ww b.natAbs a.natAbs=1
 · rw [ls ⟨by omega,h2,h3⟩,h3];rfl
 rw [lw (fun h=>h3 h.2.2)]
 have:ajj (1<(ww b.natAbs a.natAbs:Int))=ajh:=by simp;omega
 rw [this];rfl
theorem tq {r:Int×Int} (h:lM r):lX r=ajg (if bK r then 0 else 8):=by
 obtain ⟨a,b⟩:=r;obtain ⟨ha,hb⟩:=h;unfold lX bK;dsimp only at ha hb ⊢
 by_cases h1:b<1
 · rw [lw (by omega)];simp [h1]
 by_cases h2:a= -9223372036854775808
 · rw [lw (by omega)];simp [h1,h2]
 have e2:(a== -9223372036854775808)=aji:=by simpa using h2
 have e3:aa .u64 b=(b.natAbs:Int):=by rw [wu];omega
 simp only [h1,decide_false,lm,e2,jD ha,aj,e3,pP];rw [ady]
 by_cases h3:ww b.natAbs a.natAbs=1
 · rw [ls ⟨by omega,h2,h3⟩,h3];rfl
 rw [lw (fun h=>h3 h.2.2)]
 have:((ww b.natAbs a.natAbs:Int) !=1)=ajh:=by simp;omega
 rw [this];rfl
theorem U9 (x y:Int) (hx:U6 x) (hy:U6 y): ∃p q r s:Int,0<=p/\p<=18446744065119617025/\0<=q/\q<=18446744065119617025/\0<=r/\r<=18446744065119617025/\0<=s/\s<=18446744065119617025/\
 x / 4294967296*(y / 4294967296)=p/\x / 4294967296*(y%4294967296)=q/\x%4294967296*(y / 4294967296)=r/\x%4294967296*(y%4294967296)=s/\
 x*y=p*18446744073709551616+(q+r)*4294967296+s:=by
 have Hl:0<=x / 4294967296/\x / 4294967296<=4294967295:=by omega
 have Jy:0<=x%4294967296/\x%4294967296<=4294967295:=by omega
 have WN:0<=y / 4294967296/\y / 4294967296<=4294967295:=by omega
 have Rl:0<=y%4294967296/\y%4294967296<=4294967295:=by omega
 have ex:x=x / 4294967296*4294967296+x%4294967296:=by omega
 have ey:y=y / 4294967296*4294967296+y%4294967296:=by omega
 generalize x / 4294967296=a at*;generalize x%4294967296=b at*;generalize y / 4294967296=c at*;generalize y%4294967296=d at*;have bd: ∀{u v:Int},0<=u/\u<=4294967295->0<=v/\v<=4294967295->0<=u*v/\u*v<=18446744065119617025:=by
  intro u v hu hv;refine ⟨aei hu.1 hv.1,?_⟩
  calc u*v<=4294967295*4294967295:=adI hu.2 hv.2 hv.1 (by decide)
   _=_:=by decide
 refine ⟨a*c,a*d,b*c,b*d,(bd Hl WN).1,(bd Hl WN).2,(bd Hl Rl).1,(bd Hl Rl).2,(bd Jy WN).1,(bd Jy WN).2,(bd Jy Rl).1,(bd Jy Rl).2,rfl,rfl,rfl,rfl,?_⟩;rw [ex,ey]
 grind
theorem yQ {x y:Int} (hx:U6 x) (hy:U6 y):fB x y=ajg (x*y / 18446744073709551616,x*y%18446744073709551616):=by
 unfold fB;obtain ⟨p,q,r,s,p0,p1,q0,q1,r0,r1,s0,s1,ep,eq,er,es,exy⟩:=U9 x y hx hy;have key: ∀z:Int,AN .u64 (z%18446744073709551616) 4294967295=z%18446744073709551616%4294967296:=fun z=>Ox (by constructor<;>omega)
 simp only [akX,Ox hx,Ox hy,wu,key,ep,eq,er,es,exy,v6,PP,and_true];clear ep eq er es exy key hx hy;have e1:s%18446744073709551616=s:=by omega
 have e2:(q+s / 4294967296)%18446744073709551616=q+s / 4294967296:=by omega
 have ep:p%18446744073709551616=p:=by omega
 have eq:q%18446744073709551616=q:=by omega
 have er:r%18446744073709551616=r:=by omega
 rw [e1,ep,eq,er,e2];have e3:s=s / 4294967296*4294967296+s%4294967296:=by omega
 have e4:q+s / 4294967296=(q+s / 4294967296) / 4294967296*4294967296+(q+s / 4294967296)%4294967296:=by omega
 have b1:0<=s%4294967296/\s%4294967296<4294967296:=by omega
 have b2:0<=(q+s / 4294967296)%4294967296/\(q+s / 4294967296)%4294967296<4294967296:=by omega
 have b3:0<=(q+s / 4294967296) / 4294967296/\(q+s / 4294967296) / 4294967296<=4294967295:=by omega
 have b4:0<=s / 4294967296/\s / 4294967296<=4294967295:=by omega
 generalize (q+s / 4294967296) / 4294967296=t1 at*;generalize (q+s / 4294967296)%4294967296=t0 at*;generalize s / 4294967296=c1 at*;generalize s%4294967296=c0 at*;clear e1 e2;have e5:(t0+r)%18446744073709551616=t0+r:=by omega
 rw [e5];have e6:t0+r=(t0+r) / 4294967296*4294967296+(t0+r)%4294967296:=by omega
 have b5:0<=(t0+r)%4294967296/\(t0+r)%4294967296<4294967296:=by omega
 have b6:0<=(t0+r) / 4294967296/\(t0+r) / 4294967296<=4294967295:=by omega
 generalize (t0+r) / 4294967296=u1 at*;generalize (t0+r)%4294967296=u0 at*;omega
theorem Oy {x y:Int} (hx:U6 x) (hy:U6 y):p6 x y=ajg (aji,x*y / 18446744073709551616,x*y%18446744073709551616):=by
 unfold p6;obtain ⟨p,q,r,s,p0,p1,q0,q1,r0,r1,s0,s1,ep,eq,er,es,exy⟩:=U9 x y hx hy;have t1: ∀a:Int,0<=a->aej a 4294967296=a / 4294967296:=fun a h=>adJ h
 have t2: ∀a:Int,0<=a->Int.tmod a 4294967296=a%4294967296:=fun a h=>Int.tmod_eq_emod_of_nonneg h
 simp only [wu];rw [t1 x hx.1,t1 y hy.1,t2 x hx.1,t2 y hy.1];have f1:x / 4294967296%18446744073709551616=x / 4294967296:=by omega
 have f2:y / 4294967296%18446744073709551616=y / 4294967296:=by omega
 simp only [f1,f2,ep,eq,er,es];have g: ∀a:Int,aej (a%18446744073709551616) 4294967296=a%18446744073709551616 / 4294967296:=fun a=>t1 _ (by omega)
 have g2: ∀a:Int,Int.tmod (a%18446744073709551616) 4294967296=a%18446744073709551616%4294967296:=fun a=>t2 _ (by omega)
 simp only [g,g2,exy,v6,PP,true_and];constructor<;>omega
abbrev B64 (a:Bool×Int×Int):Prop:=U6 a.2.1/\U6 a.2.2
theorem zE {n:Int} (h:xn n):U6 (n.natAbs:Int):=by constructor<;>omega
theorem zF {n:Int} (h:xn n):(n.natAbs:Int)<=9223372036854775808:=by omega
theorem Ca (a b:Int):((a.natAbs:Int)*(b.natAbs:Int))=((a*b).natAbs:Int):=by rw [Int.natAbs_mul];rfl
theorem tu {a b:Int} (ha:xn a) (hb:xn b):((a*b).natAbs:Int)<=85070591730234615865843651857942052864:=by
 rw [<- Ca]
 calc (a.natAbs:Int)*(b.natAbs:Int)<=9223372036854775808*9223372036854775808:=adI (zF ha) (zF hb) (by omega) (by decide)
  _=_:=by decide
theorem xo {a b:Int} (ha:xn a) (hb:xn b):
 jx a b=ajg (ajj (a*b<0),((a*b).natAbs:Int) / 18446744073709551616,((a*b).natAbs:Int)%18446744073709551616):=by
 unfold jx;simp only [jD ha,jD hb,aj,Oy (zE ha) (zE hb),Ca];have hs:(a*b<0)↔((a<0/\0<b)\/(0<a/\b<0)):=by
  constructor
  · intro h
    rcases adN a 0 with h1|h1|h1
    · rcases adN b 0 with h2|h2|h2
      · have:=Int.mul_pos_of_neg_of_neg h1 h2;omega
      · subst h2;simp at h
      exact .inl ⟨h1,h2⟩
    · subst h1;simp at h
    rcases adN b 0 with h2|h2|h2
    · exact .inr ⟨h1,h2⟩
    · subst h2;simp at h
    have:=Int.mul_pos h1 h2;omega
  rintro (⟨h1,h2⟩|⟨h1,h2⟩)
  · exact ad9 h1 h2
  exact Int.mul_neg_of_pos_of_neg h1 h2
 have hd:ajj (a*b<0)=ajj ((a<0/\0<b)\/(0<a/\b<0)):=by simp only [hs]
 rw [hd];clear hd hs;generalize ((a*b).natAbs:Int)=z
 by_cases h1:a<0
 · have M8: ¬0<a:=by omega
   have ao1:(a !=0)=ajh:=cS (by omega)
   by_cases h2:b<0
   · have Ra: ¬0<b:=by omega
     simp [h1,h2,M8,Ra]
   by_cases h3:b=0
   · simp [h1,h3,ao1]
   have h3':0<b:=by omega
   simp [h1,h2,h3',ao1,cS h3]
 by_cases h0:a=0
 · subst h0
   by_cases h2:b<0<;>simp [h2]
 have M8:0<a:=by omega
 by_cases h2:b<0
 · have Ra:(b !=0)=ajh:=cS (by omega)
   simp [h1,h2,M8,cS h0,Ra]
 simp [h1,h2,M8]
theorem Mb {a b:Int} (ha:xn a) (hb:xn b):
 qN a b=ajg (!(ajj (a<0)==ajj (b<0)),((a*b).natAbs:Int) / 18446744073709551616,((a*b).natAbs:Int)%18446744073709551616):=by
 unfold qN;simp only [o6 ha,o6 hb,aj,yQ (zE ha) (zE hb),Ca]
def jJ (a b:Int):Int:=if a<b then -1 else if b<a then 1 else 0
theorem Al (a b:Int):jm a b=ajg (jJ a b):=by
 unfold jm nm jJ
 by_cases h1:a<b<;>by_cases h2:b<a<;>simp [h1,h2]
theorem HE (a b:Int):iT a b=ajg (jJ a b):=by
 unfold iT mE jJ
 by_cases h1:a<b<;>by_cases h2:b<a<;>simp [h1,h2]
theorem kq (a b:Int):eM a b=ajg (jJ a b):=by
 unfold eM cmp_isNaN_int jJ
 by_cases h1:a<b<;>by_cases h2:b<a<;>simp [h1,h2]
theorem ef (a b:Int):(a<b/\jJ a b= -1)\/(a=b/\jJ a b=0)\/(b<a/\jJ a b=1):=by
 unfold jJ
 by_cases h1:a<b
 · exact .inl ⟨h1,by rw [ls h1]⟩
 by_cases h2:b<a
 · exact .inr (.inr ⟨h2,by rw [lw h1,ls h2]⟩)
 exact .inr (.inl ⟨by omega,by rw [lw h1,lw h2]⟩)
theorem J7 (a b:Bool×Int×Int) (ha:B64 a) (hb:B64 b):pE a b=ajg (jJ (a.2.1*18446744073709551616+a.2.2) (b.2.1*18446744073709551616+b.2.2)):=by
 obtain ⟨s,ah,al⟩:=a;obtain ⟨t,bh,bl⟩:=b;obtain ⟨⟨a1,a2⟩,a3,a4⟩:=ha;obtain ⟨⟨b1,b2⟩,b3,b4⟩:=hb;dsimp only at*;unfold pE jJ;dsimp only
 by_cases h1:ah=bh
 · subst h1
   by_cases h2:al=bl
   · subst h2;simp
   by_cases h3:al<bl
   · simp [cS h2,h3]
   rw [lw (by omega),ls (by omega)];simp [cS h2,h3]
 by_cases h3:ah<bh
 · rw [ls (by omega)];simp [cS h1,h3]
 rw [lw (by omega),ls (by omega)];simp [cS h1,h3]
theorem Oz (a b:Bool×Int×Int) (ha:B64 a) (hb:B64 b):qf a b=ajg (jJ (a.2.1*18446744073709551616+a.2.2) (b.2.1*18446744073709551616+b.2.2)):=by
 obtain ⟨s,ah,al⟩:=a;obtain ⟨t,bh,bl⟩:=b;obtain ⟨⟨a1,a2⟩,a3,a4⟩:=ha;obtain ⟨⟨b1,b2⟩,b3,b4⟩:=hb;dsimp only at*;unfold qf;simp only [HE,aj];unfold jJ
 by_cases h1:ah=bh
 · subst h1
   by_cases h3:al<bl
   · simp [h3]
   by_cases h2:bl<al
   · rw [lw (show¬(ah*18446744073709551616+al<ah*18446744073709551616+bl) by omega),ls (show ah*18446744073709551616+bl<ah*18446744073709551616+al by omega)];simp [h2,h3]
   have:al=bl:=by omega
   subst this;simp
 by_cases h3:ah<bh
 · rw [ls (show ah*18446744073709551616+al<bh*18446744073709551616+bl by omega)];simp [h3]
 rw [lw (show¬(ah*18446744073709551616+al<bh*18446744073709551616+bl) by omega),ls (show bh*18446744073709551616+bl<ah*18446744073709551616+al by omega)];simp [h3,show bh<ah by omega]
theorem uJ (a:Bool) {n:Int} (h0:0<=n) (h:n<=85070591730234615865843651857942052864):B64 (a,n / 18446744073709551616,n%18446744073709551616):=by constructor<;>constructor<;>dsimp only<;>omega
theorem J8 {n:Int} (h:(n.natAbs:Int)<=85070591730234615865843651857942052864):kJ (ajj (n<0),(n.natAbs:Int) / 18446744073709551616,(n.natAbs:Int)%18446744073709551616)=ajg (jJ n 0):=by
 unfold kJ jJ;dsimp only
 by_cases h0:n=0
 · subst h0;simp
 by_cases h1:n<0
 · rw [ls h1]
   by_cases h2:(n.natAbs:Int) / 18446744073709551616=0
   · have h3: ¬((n.natAbs:Int)%18446744073709551616=0):=by omega
     simp [h1,h2,dR h3]
   simp [h1,dR h2]
 rw [lw h1,ls (by omega)]
 by_cases h2:(n.natAbs:Int) / 18446744073709551616=0
 · have h3: ¬((n.natAbs:Int)%18446744073709551616=0):=by omega
   simp [h1,h2,dR h3]
 simp [h1,dR h2]
def kO (a b:Int×Int):Int:=jJ (a.1*b.2) (b.1*a.2)
theorem A8 {a b:Int×Int} (ha:lM a) (hb:lM b):mY a b=ajg (kO a b):=by
 unfold mY kO;have n1:=tu ha.1 hb.2;have n2:=tu hb.1 ha.2;simp only [xo ha.1 hb.2,xo hb.1 ha.2,aj,J8 n1,J8 n2];generalize a.1*b.2=x at*;generalize b.1*a.2=y at*;rw [J7 _ _ (uJ _ (by omega) n1) (uJ _ (by omega) n2),J7 _ _ (uJ _ (by omega) n2) (uJ _ (by omega) n1)];have ex:((x.natAbs:Int) / 18446744073709551616)*18446744073709551616+(x.natAbs:Int)%18446744073709551616=(x.natAbs:Int):=by omega
 have ey:((y.natAbs:Int) / 18446744073709551616)*18446744073709551616+(y.natAbs:Int)%18446744073709551616=(y.natAbs:Int):=by omega
 simp only [ex,ey,aj];rcases ef x 0 with ⟨h1,e1⟩|⟨h1,e1⟩|⟨h1,e1⟩<;>rcases ef y 0 with ⟨h2,e2⟩|⟨h2,e2⟩|⟨h2,e2⟩<;>rw [e1,e2]<;>simp<;>
  unfold jJ<;>(repeat' split)<;>first|rfl|omega
theorem acX {a b:Int×Int} (ha:lM a) (hb:lM b):xf a b=ajg (if bK a/\bK b then 0 else 8):=by
 unfold xf;simp only [dZ ha,dZ hb,aj]
 by_cases h1:bK a<;>by_cases h2:bK b<;>simp [h1,h2]
theorem Gg {a b:Int×Int} (ha:lM a) (hb:lM b):pL a b=ajg (if bK a/\bK b then (kO a b,0) else (0,8)):=by
 unfold pL;rw [acX ha hb]
 by_cases h:bK a/\bK b
 · rw [ls h,ls h]
   obtain ⟨⟨a1,a2,a3⟩,b1,b2,b3⟩:=h;have n1:=tu ha.1 hb.2;have n2:=tu hb.1 ha.2;simp only [aj,Al,Mb ha.1 hb.2,Mb hb.1 ha.2];rw [Oz _ _ (uJ _ (by omega) n1) (uJ _ (by omega) n2)];have ex:((a.1*b.2).natAbs:Int) / 18446744073709551616*18446744073709551616+((a.1*b.2).natAbs:Int)%18446744073709551616=((a.1*b.2).natAbs:Int):=by omega
   have ey:((b.1*a.2).natAbs:Int) / 18446744073709551616*18446744073709551616+((b.1*a.2).natAbs:Int)%18446744073709551616=((b.1*a.2).natAbs:Int):=by omega
   simp only [ex,ey,aj];unfold kO;have s1:(a.1<0↔a.1*b.2<0):=by
    constructor
    · intro h;exact ad9 h (by omega)
    intro h;rcases lt_or_ge a.1 0 with h1|h1
    · exact h1
    have:=aei h1 (show 0<=b.2 by omega);omega
   have s2:(b.1<0↔b.1*a.2<0):=by
    constructor
    · intro h;exact ad9 h (by omega)
    intro h;rcases lt_or_ge b.1 0 with h1|h1
    · exact h1
    have:=aei h1 (show 0<=a.2 by omega);omega
   generalize a.1*b.2=x at*;generalize b.1*a.2=y at*
   by_cases h1:a.1<0<;>by_cases h2:b.1<0
   · have h3:=s1.1 h1;have h4:=s2.1 h2
     have:aa .i64 (-jJ (x.natAbs:Int) (y.natAbs:Int))=jJ x y:=by rw [wi];unfold jJ;(repeat' split)<;>omega
     simp [h1,h2,this]
   · have h3:=s1.1 h1;have h4: ¬y<0:=fun h=>h2 (s2.2 h)
     have:jJ a.1 b.1=jJ x y:=by unfold jJ;(repeat' split)<;>omega
     simp [h1,h2,this]
   · have h3: ¬x<0:=fun h=>h1 (s1.2 h);have h4:=s2.1 h2
     have:jJ a.1 b.1=jJ x y:=by unfold jJ;(repeat' split)<;>omega
     simp [h1,h2,this]
   have h3: ¬x<0:=fun h=>h1 (s1.2 h);have h4: ¬y<0:=fun h=>h2 (s2.2 h)
   have:jJ (x.natAbs:Int) (y.natAbs:Int)=jJ x y:=by unfold jJ;(repeat' split)<;>omega
   simp [h1,h2,this]
 rw [lw h,lw h];rfl
abbrev Pt:=Int×Int×Int
def eY (p:Pt):Prop:=0<=p.1/\p.1<=65535/\ -1048576<=p.2.1/\p.2.1<=1048576/\ -1048576<=p.2.2/\p.2.2<=1048576
theorem fD (p:Pt):jl p=ajg (if eY p then 0 else 8):=by
 obtain ⟨i,a,b⟩:=p;unfold jl oO eY;dsimp only
 by_cases h1:i<0
 · rw [lw (by omega)];simp [h1]
 by_cases h2:65535<i
 · rw [lw (by omega)];simp [h1,h2]
 by_cases h3:a< -1048576
 · rw [lw (by omega)];simp [h1,h2,h3]
 by_cases h4:1048576<a
 · rw [lw (by omega)];simp [h1,h2,h3,h4]
 by_cases h5:b< -1048576
 · rw [lw (by omega)];simp [h1,h2,h3,h4,h5]
 by_cases h6:1048576<b
 · rw [lw (by omega)];simp [h1,h2,h3,h4,h5,h6]
 rw [ls (by omega)];simp [h1,h2,h3,h4,h5,h6]
theorem Gh (p:Pt):uv p=ajg (if eY p then 0 else 8):=by
 obtain ⟨i,a,b⟩:=p;unfold uv eY;dsimp only
 by_cases h1:i<0
 · rw [lw (by omega)];simp [h1]
 by_cases h2:65535<i
 · rw [lw (by omega)];simp [h1,h2]
 by_cases h3:a< -1048576
 · rw [lw (by omega)];simp [h1,h2,h3]
 by_cases h4:1048576<a
 · rw [lw (by omega)];simp [h1,h2,h3,h4]
 by_cases h5:b< -1048576
 · rw [lw (by omega)];simp [h1,h2,h3,h4,h5]
 by_cases h6:1048576<b
 · rw [lw (by omega)];simp [h1,h2,h3,h4,h5,h6]
 rw [ls (by omega)];simp [h1,h2,h3,h4,h5,h6]
theorem wb {x y:Int} (hx:xn x) (hy:xn y): -85070591730234615865843651857942052864<=x*y/\x*y<=85070591730234615865843651857942052864:=by have:=tu hx hy;omega
theorem aeq {x y:Int} (hx:xn x) (hy:xn y):(x%18446744073709551616)*(y%18446744073709551616)=x*y+(if x<0 then y else 0)*18446744073709551616+(if y<0 then x else 0)*18446744073709551616+(if x<0/\y<0 then 340282366920938463463374607431768211456 else 0):=by
 by_cases h1:x<0<;>by_cases h2:y<0
 · have e1:x%18446744073709551616=x+18446744073709551616:=by omega
   have e2:y%18446744073709551616=y+18446744073709551616:=by omega
   rw [e1,e2,ls h1,ls h2,ls ⟨h1,h2⟩];grind
 · have e1:x%18446744073709551616=x+18446744073709551616:=by omega
   have e2:y%18446744073709551616=y:=by omega
   rw [e1,e2,ls h1,lw h2,lw (fun h=>h2 h.2)];grind
 · have e1:x%18446744073709551616=x:=by omega
   have e2:y%18446744073709551616=y+18446744073709551616:=by omega
   rw [e1,e2,lw h1,ls h2,lw (fun h=>h1 h.1)];grind
 have e1:x%18446744073709551616=x:=by omega
 have e2:y%18446744073709551616=y:=by omega
 rw [e1,e2,lw h1,lw h2,lw (fun h=>h1 h.1)];grind
theorem Mc {a b:Int} (ha:0<=a) (hb:0<=b):pD a b 0=ajg ((a+b)%18446744073709551616,(a+b) / 18446744073709551616):=by unfold pD;simp [ha,hb]
theorem U' {a b c d u v:Int} (ha:xn a) (hb:xn b):mZ (a,b,c,d,0,u,v,0,0)=ajg (.next (a,b,c,d,1,u,v,a*b / 18446744073709551616,a*b%18446744073709551616)):=by
 unfold mZ;have hm:=yQ (x:=aa .u64 a) (y:=aa .u64 b) (by rw [wu];constructor<;>omega) (by rw [wu];constructor<;>omega);have hb2:=wb ha hb;have hu:=aeq ha hb;simp only [hm,aj];simp only [wu,hu];generalize a*b=x at*
 by_cases h1:a<0<;>by_cases h2:b<0
 all_goals
  simp only [h1,h2,decide_true,decide_false,lc,lm,if_true,if_false,and_self,and_false,false_and];rw [Mc (by omega) (by omega)];simp only [wi,aj,show ajj ((0:Int)<2)=ajh from rfl,lc,show ((0:Int)==0)=ajh from rfl,v6,Step.next.injEq,PP,true_and];refine ⟨by omega,?_,?_⟩<;>omega
theorem Va {a b c d u v h l:Int} (hc:xn c) (hd:xn d) (hl:U6 l)
 (_hh: -9223372036854775808<=h/\h<9223372036854775808) (hs: -170141183460469231731687303715884105728<=h*18446744073709551616+l+c*d/\h*18446744073709551616+l+c*d<170141183460469231731687303715884105728):
 mZ (a,b,c,d,1,u,v,h,l)=ajg (.next (a,b,c,d,2,u,v,(h*18446744073709551616+l+c*d) / 18446744073709551616,(h*18446744073709551616+l+c*d)%18446744073709551616)):=by
 unfold mZ;have hm:=yQ (x:=aa .u64 c) (y:=aa .u64 d) (by rw [wu];constructor<;>omega) (by rw [wu];constructor<;>omega);have hb2:=wb hc hd;have hu:=aeq hc hd;simp only [hm,aj];simp only [wu,hu];generalize c*d=x at*
 by_cases h1:c<0<;>by_cases h2:d<0
 all_goals
  simp only [h1,h2,decide_true,decide_false,lc,lm,if_true,if_false,and_self,and_false,false_and];rw [Mc (by omega) (by omega)];simp only [wi,aj,show ajj ((1:Int)<2)=ajh from rfl,lc,lm,show ((1:Int)==0)=aji from rfl,show ((1:Int)==1)=ajh from rfl,v6,Step.next.injEq,PP,true_and];refine ⟨by omega,?_,?_⟩<;>omega
theorem HF {a b c d:Int} (ha:xn a) (hb:xn b) (hc:xn c) (hd:xn d) (hs: -170141183460469231731687303715884105728<=a*b+c*d/\a*b+c*d<170141183460469231731687303715884105728):
 xg (a,b,c,d)=ajg ((a*b+c*d) / 18446744073709551616,(a*b+c*d)%18446744073709551616):=by
 unfold xg;dsimp only;have hb2:=wb ha hb;have e:a*b / 18446744073709551616*18446744073709551616+a*b%18446744073709551616+c*d=a*b+c*d:=by omega
 rw [aT (U' ha hb),aT (Va hc hd (by constructor<;>omega) (by constructor<;>omega) (by rw [e];exact hs)),e];exact aI rfl
def Gi (p q:Pt) (t:Int×Int):Int:=(p.2.1-q.2.1)*t.2+(p.2.2-q.2.2)*t.1
def leads (p q:Pt) (t:Int×Int):Prop:=0<Gi p q t\/(Gi p q t=0/\(q.2.2<p.2.2\/(p.2.2=q.2.2/\p.1<q.1)))
def OA (p q:Pt) (t:Int×Int):Int:=if Gi p q t<0 then -1 else if 0<Gi p q t then 1 else if p.2.2<q.2.2 then -1 else if q.2.2<p.2.2 then 1 else jJ q.1 p.1
theorem Gj (p q:Pt) (t:Int×Int):0<OA p q t↔leads p q t:=by
 unfold OA leads
 by_cases h1:Gi p q t<0
 · rw [ls h1];omega
 by_cases h2:0<Gi p q t
 · rw [lw h1,ls h2];simp [h2]
 rw [lw h1,lw h2]
 by_cases h3:p.2.2<q.2.2
 · rw [ls h3];omega
 by_cases h4:q.2.2<p.2.2
 · rw [lw h3,ls h4];omega
 rw [lw h3,lw h4]
 rcases ef q.1 p.1 with ⟨h,e⟩|⟨h,e⟩|⟨h,e⟩<;>rw [e]<;>omega
theorem zG (a b:Int):s7 [a,b]=ajg (if a≠0 then a else b):=by
 unfold s7
 by_cases h1:a=0
 · subst h1
   rw [aT (y:=(0,[0,b],2,1)) (by rfl)]
   by_cases h2:b=0
   · subst h2
     rw [aT (y:=(0,[0,0],2,2)) (by rfl)];exact aI rfl
   refine (aI (r:=b) ?_).trans (by simp)
   have e:u7 (0,[0,b],2,1)=(bif b !=0 then ajg (.done b) else ajg (.next (0,[0,b],2,aa .i64 (1+1)))):=rfl;rw [e,cS h2];rfl
 refine (aI (r:=a) ?_).trans (by simp [h1])
 have e:u7 (0,[a,b],ad5 [a,b].length,0)=(bif a !=0 then ajg (.done a) else ajg (.next (0,[a,b],ad5 [a,b].length,aa .i64 (0+1)))):=rfl;rw [e,cS h1];rfl
theorem Vb {p q:Pt} {t:Int×Int} (hp:eY p) (hq:eY q) (ht:lM t):xn (p.2.1-q.2.1)/\xn (p.2.2-q.2.2)/\ -170141183460469231731687303715884105728<=Gi p q t/\Gi p q t<170141183460469231731687303715884105728:=by
 obtain ⟨a1,a2,a3,a4,a5,a6⟩:=hp;obtain ⟨b1,b2,b3,b4,b5,b6⟩:=hq;have h1:xn (p.2.1-q.2.1):=by constructor<;>omega
 have h2:xn (p.2.2-q.2.2):=by constructor<;>omega
 refine ⟨h1,h2,?_⟩;have k: ∀{x y:Int},-2097152<=x/\x<=2097152->xn y-> -19342813113834066795298816<=x*y/\x*y<=19342813113834066795298816:=by
  intro x y hx hy;have:((x*y).natAbs:Int)<=2097152*9223372036854775808:=by rw [<- Ca];exact adI (by omega) (zF hy) (by omega) (by decide)
  omega
 have k1:=k (x:=p.2.1-q.2.1) (by omega) ht.2;have k2:=k (x:=p.2.2-q.2.2) (by omega) ht.1;unfold Gi;omega
theorem uK {p q:Pt} {t:Int×Int} (hp:eY p) (hq:eY q) (ht:lM t):mf p q t=ajg (OA p q t):=by
 obtain ⟨g1,g2,g3⟩:=Vb hp hq ht;unfold mf;rw [jI g1,jI g2,HF g1 ht.2 g2 ht.1 g3];simp only [aj,Al,kq,zG];rw [show (p.2.1-q.2.1)*t.2+(p.2.2-q.2.2)*t.1=Gi p q t from rfl];unfold OA;generalize Gi p q t=n at*
 by_cases h1:n<0
 · have e1:(n / 18446744073709551616==0)=aji:=by simp;omega
   have e2:ajj (n / 18446744073709551616<0)=ajh:=by simp;omega
   rw [ls h1];simp [e1,e2]
 by_cases h2:0<n
 · have e1:((n / 18446744073709551616==0)&&(n%18446744073709551616==0))=aji:=by simp;omega
   have e2:ajj (n / 18446744073709551616<0)=aji:=by simp;omega
   rw [lw h1,ls h2];simp only [e1,e2,AC,lc,lm]
 have:n=0:=by omega
 subst this;rw [lw h1,lw h2];unfold jJ
 by_cases h3:p.2.2<q.2.2
 · simp [h3]
 by_cases h4:q.2.2<p.2.2
 · simp [h3,h4]
 simp [h3,h4]
theorem acY {x y:Int} (hx: -85070591730234615865843651857942052864<=x/\x<=85070591730234615865843651857942052864) (hy: -85070591730234615865843651857942052864<=y/\y<=85070591730234615865843651857942052864):
 xd (ajj (x<0),(x.natAbs:Int) / 18446744073709551616,(x.natAbs:Int)%18446744073709551616) (ajj (y<0),(y.natAbs:Int) / 18446744073709551616,(y.natAbs:Int)%18446744073709551616)=
  ajg (ajj (x+y<0),((x+y).natAbs:Int) / 18446744073709551616,((x+y).natAbs:Int)%18446744073709551616):=by
 have n1:(x.natAbs:Int)<=85070591730234615865843651857942052864:=by omega
 have n2:(y.natAbs:Int)<=85070591730234615865843651857942052864:=by omega
 unfold xd;rw [J7 _ _ (uJ _ (by omega) n1) (uJ _ (by omega) n2)];have ex:((x.natAbs:Int) / 18446744073709551616)*18446744073709551616+(x.natAbs:Int)%18446744073709551616=(x.natAbs:Int):=by omega
 have ey:((y.natAbs:Int) / 18446744073709551616)*18446744073709551616+(y.natAbs:Int)%18446744073709551616=(y.natAbs:Int):=by omega
 simp only [ex,ey,aj];have same: ∀{X Y Z:Int},0<=X->0<=Y->X<=85070591730234615865843651857942052864->Y<=85070591730234615865843651857942052864->Z=X+Y-> ∀b:Bool,
  (bif ajj (aa .u64 (X%18446744073709551616+Y%18446744073709551616)<X%18446744073709551616) then ajg (b,aa .u64 (aa .u64 (X / 18446744073709551616+Y / 18446744073709551616)+1),aa .u64 (X%18446744073709551616+Y%18446744073709551616))
   else ajg (b,aa .u64 (X / 18446744073709551616+Y / 18446744073709551616),aa .u64 (X%18446744073709551616+Y%18446744073709551616)))=ajg (b,Z / 18446744073709551616,Z%18446744073709551616):=by
  intro X Y Z h1 h2 h3 h4 h5 b;subst h5;simp only [wu]
  by_cases h:(X%18446744073709551616+Y%18446744073709551616)%18446744073709551616<X%18446744073709551616
  · simp only [h,decide_true,lc,v6,PP,true_and];constructor<;>omega
  simp only [h,decide_false,lm,v6,PP,true_and];constructor<;>omega
 have minus: ∀{X Y Z:Int} (b c:Bool),0<=X->0<=Y->X<=85070591730234615865843651857942052864->Y<=X->Z=X-Y->qL (b,X / 18446744073709551616,X%18446744073709551616) (c,Y / 18446744073709551616,Y%18446744073709551616)=ajg (aji,Z / 18446744073709551616,Z%18446744073709551616):=by
  intro X Y Z b c h1 h2 h3 h4 h5;subst h5;unfold qL;simp only [wu]
  by_cases h:X%18446744073709551616<Y%18446744073709551616
  · simp only [h,decide_true,lc,v6,PP,true_and];constructor<;>omega
  simp only [h,decide_false,lm,v6,PP,true_and];constructor<;>omega
 by_cases h1:x<0<;>by_cases h2:y<0
 · have h3:x+y<0:=by omega
   simp only [h1,h2,h3,decide_true,beq_self_eq_true,lc];exact same (by omega) (by omega) n1 n2 (by omega) ajh
 · simp only [h1,h2,decide_true,decide_false,show (ajh==aji)=aji from rfl,lm,lc]
   by_cases h3:(y.natAbs:Int)<=(x.natAbs:Int)
   · have e:ajj (0<=jJ (x.natAbs:Int) (y.natAbs:Int))=ajh:=by
      rcases ef (x.natAbs:Int) (y.natAbs:Int) with ⟨h,e⟩|⟨h,e⟩|⟨h,e⟩<;>rw [e]<;>first|rfl|omega
     rw [e,minus (Z:=((x+y).natAbs:Int)) _ _ (by omega) (by omega) n1 h3 (by omega)];simp only [lc,aj]
     by_cases h4:x+y=0
     · rw [h4];rfl
     have h5:x+y<0:=by omega
     by_cases h6:0<((x+y).natAbs:Int) / 18446744073709551616
     · simp [h5,h6]
     have h7:0<((x+y).natAbs:Int)%18446744073709551616:=by omega
     simp only [h5,h6,h7,decide_true,decide_false,lm]
   have e:ajj (0<=jJ (x.natAbs:Int) (y.natAbs:Int))=aji:=by
    rcases ef (x.natAbs:Int) (y.natAbs:Int) with ⟨h,e⟩|⟨h,e⟩|⟨h,e⟩<;>rw [e]<;>first|rfl|omega
   rw [e,minus (Z:=((x+y).natAbs:Int)) _ _ (by omega) (by omega) n2 (by omega) (by omega)];have h5: ¬(x+y<0):=by omega
   simp [h5]
 · simp only [h1,h2,decide_true,decide_false,show (aji==ajh)=aji from rfl,lm]
   by_cases h3:(y.natAbs:Int)<=(x.natAbs:Int)
   · have e:ajj (0<=jJ (x.natAbs:Int) (y.natAbs:Int))=ajh:=by
      rcases ef (x.natAbs:Int) (y.natAbs:Int) with ⟨h,e⟩|⟨h,e⟩|⟨h,e⟩<;>rw [e]<;>first|rfl|omega
     rw [e,minus (Z:=((x+y).natAbs:Int)) _ _ (by omega) (by omega) n1 h3 (by omega)];have h5: ¬(x+y<0):=by omega
     simp [h5]
   have e:ajj (0<=jJ (x.natAbs:Int) (y.natAbs:Int))=aji:=by
    rcases ef (x.natAbs:Int) (y.natAbs:Int) with ⟨h,e⟩|⟨h,e⟩|⟨h,e⟩<;>rw [e]<;>first|rfl|omega
   rw [e,minus (Z:=((x+y).natAbs:Int)) _ _ (by omega) (by omega) n2 (by omega) (by omega)];have h5:x+y<0:=by omega
   simp [h5]
 have h3: ¬(x+y<0):=by omega
 simp only [h1,h2,h3,decide_false,beq_self_eq_true,lc];exact same (by omega) (by omega) n1 n2 (by omega) aji
theorem akY {p q:Pt} {t:Int×Int} (hp:eY p) (hq:eY q) (ht:lM t):zx p q t=ajg (jJ (Gi p q t) 0):=by
 obtain ⟨g1,g2,g3⟩:=Vb hp hq ht;unfold zx;rw [jI g1,jI g2,xo g1 ht.2,xo g2 ht.1];simp only [aj];rw [acY (wb g1 ht.2) (wb g2 ht.1)];simp only [aj];rw [show (p.2.1-q.2.1)*t.2+(p.2.2-q.2.2)*t.1=Gi p q t from rfl];obtain ⟨a1,a2,a3,a4,a5,a6⟩:=hp;obtain ⟨b1,b2,b3,b4,b5,b6⟩:=hq;have k: ∀{x y:Int},-2097152<=x/\x<=2097152->xn y-> -19342813113834066795298816<=x*y/\x*y<=19342813113834066795298816:=by
  intro x y hx hy;have:((x*y).natAbs:Int)<=2097152*9223372036854775808:=by rw [<- Ca];exact adI (by omega) (zF hy) (by omega) (by decide)
  omega
 have k1:=k (x:=p.2.1-q.2.1) (by omega) ht.2;have k2:=k (x:=p.2.2-q.2.2) (by omega) ht.1;have:((Gi p q t).natAbs:Int)<=85070591730234615865843651857942052864:=by unfold Gi;omega
 rw [J8 this];rfl
theorem Gk {p q:Pt} {t:Int×Int} (hp:eY p) (hq:eY q) (ht:lM t):nZ p q t=ajg (ajj (leads p q t)):=by
 unfold nZ leads;rw [akY hp hq ht];simp only [aj];rcases ef (Gi p q t) 0 with ⟨h,e⟩|⟨h,e⟩|⟨h,e⟩<;>rw [e]
 · have h1: ¬(0<Gi p q t):=by omega
   have h2: ¬(Gi p q t=0):=by omega
   simp [h1,h2]
 · rw [h]
   by_cases h3:p.2.2=q.2.2
   · simp [h3]
   simp [h3,cS h3]
 simp [h]
theorem vj {p q:Pt} {t:Int×Int} (ht:lM t):pM p q t=ajg (if eY p/\eY q/\bK t then (if p.1=q.1 then 2 else 0) else 8):=by
 unfold pM;simp only [fD,dZ ht,aj]
 by_cases h4:p.1=q.1
 · by_cases h1:eY p<;>by_cases h2:eY q<;>by_cases h3:bK t<;>simp [h1,h2,h3,h4]
 have h5:=dR h4
 by_cases h1:eY p<;>by_cases h2:eY q<;>by_cases h3:bK t<;>simp [h1,h2,h3,h4,h5]
theorem acZ {n d:Int} (hn:xn n) (hd:xn d):xh n d=mc n d:=by
 unfold xh mc
 by_cases h0:d=0
 · subst h0;rfl
 have e0:(d==0)=aji:=by simpa using h0
 simp only [e0,lm,o6 hn,o6 hd,jD hn,jD hd,aj,Ak,pP];have hp:0<ww n.natAbs d.natAbs:=ae7 _ (by omega);have e1:((ww n.natAbs d.natAbs:Int)==0)=aji:=by simp;omega
 simp only [e1,lm];unfold yH pH;simp only [show ajj ((0:Int)<0)=aji from rfl,lm]
 by_cases h3:n=0
 · subst h3
   have z: ∀k:Int,aa .u64 (aej (((0:Int).natAbs:Nat):Int) k)=0:=fun k=>by rw [show (((0:Int).natAbs:Nat):Int)=0 from rfl,Int.zero_tdiv];rfl
   have z2:aa .i64 0=0:=rfl;have z3:aa .i64 (0-0)=0:=rfl;simp only [z,z2,z3,show ((0:Int) !=0)=aji from rfl,lm,show ajj ((0:Int)<0)=aji from rfl];cases (!(aji==ajj (d<0)))<;>simp
 simp only [cS h3]
 cases (!(ajj (n<0)==ajj (d<0)))<;>rfl
noncomputable def met (p q:Pt):Int×Int:=((mc (p.2.1-q.2.1) (q.2.2-p.2.2)).getD ((0,0),0)).1
theorem OB {n d:Int} (hn: -2097152<=n/\n<=2097152) (hd: -2097152<=d/\d<=2097152) (h0:d≠0): ∃r,mc n d=ajg (r,0)/\bK r/\lM r/\r.1*d=n*r.2:=by
 have hn':xn n:=by constructor<;>omega
 have hd':xn d:=by constructor<;>omega
 unfold mc;have e0:(d==0)=aji:=by simpa using h0
 have hp:0<ww n.natAbs d.natAbs:=ae7 _ (by omega);have e1:((ww n.natAbs d.natAbs:Int)==0)=aji:=by simp;omega
 simp only [e0,lm,jD hn',jD hd',aj,pP,e1];have q1:aej (n.natAbs:Int) (ww n.natAbs d.natAbs:Int)=((n.natAbs / ww n.natAbs d.natAbs:Nat):Int):=by rw [afc]
 have q2:aej (d.natAbs:Int) (ww n.natAbs d.natAbs:Int)=((d.natAbs / ww n.natAbs d.natAbs:Nat):Int):=by rw [afc]
 rw [q1,q2];have l1:n.natAbs / ww n.natAbs d.natAbs<=2097152:=agd (aeK _ _) (by omega);have l2:d.natAbs / ww n.natAbs d.natAbs<=2097152:=agd (aeK _ _) (by omega);have l3:1<=d.natAbs / ww n.natAbs d.natAbs:=Nat.div_pos (Nat.le_of_dvd (by omega) (adP _ _)) hp;have co:ww (d.natAbs / ww n.natAbs d.natAbs) (n.natAbs / ww n.natAbs d.natAbs)=1:=by rw [ady,Nat.gcd_div (aez _ _) (adP _ _)];exact Nat.div_self hp
 have v1:n.natAbs=ww n.natAbs d.natAbs*(n.natAbs / ww n.natAbs d.natAbs):=(aem (aez _ _)).symm;have v2:d.natAbs=ww n.natAbs d.natAbs*(d.natAbs / ww n.natAbs d.natAbs):=(aem (adP _ _)).symm;have val:(n.natAbs:Int)*((d.natAbs / ww n.natAbs d.natAbs:Nat):Int)=(d.natAbs:Int)*((n.natAbs / ww n.natAbs d.natAbs:Nat):Int):=by
  generalize n.natAbs / ww n.natAbs d.natAbs=a at*;generalize d.natAbs / ww n.natAbs d.natAbs=b at*;generalize ww n.natAbs d.natAbs=g at*;rw [v1,v2,aeS,aeS,afe,afe,adF (a:Int) (b:Int)]
 clear v1 v2;generalize n.natAbs / ww n.natAbs d.natAbs=a at*;generalize d.natAbs / ww n.natAbs d.natAbs=b at*;have w1:aa .u64 (a:Int)=a:=by rw [wu];omega
 have w2:aa .u64 (b:Int)=b:=by rw [wu];omega
 have made: ∀s:Bool,pH s (aji,0,(a:Int)) (aji,0,(b:Int))=ajg ((if s=ajh then -(a:Int) else a,(b:Int)),0):=by
  intro s;unfold pH;have d1:ajj (9223372036854775807<(a:Int))=aji:=by simp;omega
  have d2:ajj (9223372036854775807<(b:Int))=aji:=by simp;omega
  have v1:aa .i64 (a:Int)=a:=by rw [wi];omega
  have v2:aa .i64 (b:Int)=b:=by rw [wi];omega
  have v3:aa .i64 (0- (a:Int))= -(a:Int):=by rw [wi];omega
  simp only [show ajj ((0:Int)<0)=aji from rfl,lm,d1,d2,v1,v2,v3];cases s<;>simp
 have fin: ∀s:Bool,(if s=ajh then -(a:Int) else a)*d=n*b-> ∃r,(ajg ((if s=ajh then -(a:Int) else a,(b:Int)),(0:Int)):Option ((Int×Int)×Int))=ajg (r,0)/\bK r/\lM r/\r.1*d=n*r.2:=by
  intro s hv;refine ⟨_,rfl,?_,?_,hv⟩
  · unfold bK
    dsimp only;refine ⟨by omega,?_,?_⟩
    · cases s
      · simp only [aey,if_false];omega
      simp only [if_true];omega
    rw [show (if s=ajh then -(a:Int) else (a:Int)).natAbs=a by cases s<;>simp,show ((b:Int)).natAbs=b by omega];exact co
  constructor
  · dsimp only;cases s
    · simp only [aey,if_false];constructor<;>omega
    simp only [if_true];constructor<;>omega
  dsimp only;constructor<;>omega
 simp only [w1,w2,made,aj]
 by_cases h1:(!(ajj (n<0)==ajj (d<0)))=ajh
 · rw [h1]
   refine fin (n !=0) ?_
   by_cases Wp:n=0
   · subst Wp
     have a0:(a:Int)=0:=by
      have:((d.natAbs:Nat):Int)*(a:Int)=0:=by rw [<- val];simp
      rcases Int.mul_eq_zero.1 this with h|h
      · omega
      exact h
     simp [a0]
   have e:(n !=0)=ajh:=by simpa using Wp
   rw [e,ls rfl]
   by_cases Vc:n<0
   · have hd0: ¬d<0:=fun k=>by simp [Vc,k] at h1
     have x1:(n.natAbs:Int)= -n:=by omega
     have x2:(d.natAbs:Int)=d:=by omega
     rw [x1,x2,adA] at val;rw [adA,adF];omega
   have hd0:d<0:=by
    by_cases k:d<0
    · exact k
    simp [Vc,k] at h1
   have x1:(n.natAbs:Int)=n:=by omega
   have x2:(d.natAbs:Int)= -d:=by omega
   rw [x1,x2,adA] at val;rw [adA,adF];omega
 rw [ae8] at h1;rw [h1]
 refine fin aji ?_;rw [lw (by simp)]
 by_cases Vc:n<0
 · have hd0:d<0:=by
    by_cases k:d<0
    · exact k
    simp [Vc,k] at h1
   have x1:(n.natAbs:Int)= -n:=by omega
   have x2:(d.natAbs:Int)= -d:=by omega
   rw [x1,x2,adA,adA] at val;rw [adF];omega
 have hd0: ¬d<0:=fun k=>by simp [Vc,k] at h1
 have x1:(n.natAbs:Int)=n:=by omega
 have x2:(d.natAbs:Int)=d:=by omega
 rw [x1,x2] at val;rw [adF];omega
theorem Dm {p q:Pt} (hp:eY p) (hq:eY q) (h:p.2.2≠q.2.2):mc (p.2.1-q.2.1) (q.2.2-p.2.2)=ajg (met p q,0)/\bK (met p q)/\lM (met p q)/\(met p q).1*(q.2.2-p.2.2)=(p.2.1-q.2.1)*(met p q).2:=by
 obtain ⟨a1,a2,a3,a4,a5,a6⟩:=hp;obtain ⟨b1,b2,b3,b4,b5,b6⟩:=hq;obtain ⟨r,h1,h2,h3⟩:=OB (n:=p.2.1-q.2.1) (d:=q.2.2-p.2.2) (by omega) (by omega) (by omega);have:met p q=r:=by unfold met;rw [h1];rfl
 rw [this];exact ⟨h1,h2,h3⟩
theorem IE {p q:Pt} (hp:eY p) (hq:eY q):aa .i64 (p.2.1-q.2.1)=p.2.1-q.2.1/\aa .i64 (q.2.2-p.2.2)=q.2.2-p.2.2/\xn (p.2.1-q.2.1)/\xn (q.2.2-p.2.2):=by
 obtain ⟨a1,a2,a3,a4,a5,a6⟩:=hp;obtain ⟨b1,b2,b3,b4,b5,b6⟩:=hq;have h1:xn (p.2.1-q.2.1):=by constructor<;>omega
 have h2:xn (q.2.2-p.2.2):=by constructor<;>omega
 exact ⟨jI h1,jI h2,h1,h2⟩
noncomputable def k8 (h l:Pt) (t:Int×Int):(Int×Int)×Bool:=if leads l h t then (t,ajh) else if h.2.2<l.2.2 then (met h l,ajh) else ((0,0),aji)
theorem akZ {p q:Pt} (hp:eY p) (hq:eY q) (h:p.2.2≠q.2.2):zz p q=ajg (met p q):=by obtain ⟨w1,w2,_,_⟩:=IE hp hq;unfold zz;rw [w1,w2,(Dm hp hq h).1];rfl
theorem OC {h l:Pt} {t:Int×Int} (hh:eY h) (hl:eY l) (ht:lM t):p9 h l t=ajg (k8 h l t):=by
 unfold p9 k8;rw [Gk hl hh ht];simp only [aj]
 by_cases h1:leads l h t
 · simp [h1]
 simp only [h1,decide_false,lm,if_false]
 by_cases h2:h.2.2<l.2.2
 · simp [h2,akZ hh hl (by omega)]
 simp [h2]
theorem Vd:bK (0,1):=by unfold bK;decide
theorem El {h l:Pt} {t:Int×Int} (ht:lM t):
 sj h l t=ajg (if eY h/\eY l/\bK t/\h.1≠l.1 then ((k8 h l t).1,(k8 h l t).2,0) else ((0,0),aji,if eY h/\eY l/\bK t then 2 else 8)):=by
 unfold sj;rw [vj ht]
 by_cases h1:eY h/\eY l/\bK t
 · rw [ls h1]
   by_cases h2:h.1=l.1
   · simp [h1,h2]
   obtain ⟨hh,hl,hr⟩:=h1
   rw [lw h2,ls ⟨hh,hl,hr,h2⟩];simp only [aj,show ((0:Int) !=0)=aji from rfl,lm,uK hl hh ht];unfold k8
   by_cases h3:leads l h t
   · have:ajj (0<OA l h t)=ajh:=by simpa using (Gj l h t).2 h3
     rw [this];simp [h3]
   have:ajj (0<OA l h t)=aji:=decide_eq_false fun k=>h3 ((Gj l h t).1 k)
   rw [this,lw h3];simp only [lm]
   by_cases h4:h.2.2<l.2.2
   · have e:ajj (l.2.2<=h.2.2)=aji:=by simp;omega
     rw [e,ls h4];unfold yI;obtain ⟨w1,w2,i1,i2⟩:=IE hh hl;have e2:(h.2.2==l.2.2)=aji:=by simp;omega
     rw [vj (by constructor<;>constructor<;>decide),ls ⟨hh,hl,Vd⟩,lw h2];simp only [aj,show ((0:Int) !=0)=aji from rfl,lm,e2,w1,w2,acZ i1 i2,(Dm hh hl (by omega)).1];rfl
   have e:ajj (l.2.2<=h.2.2)=ajh:=by simp;omega
   rw [e,lw h4];rfl
 rw [lw h1,lw (fun h=>h1 ⟨h.1,h.2.1,h.2.2.1⟩),lw h1];rfl
theorem Cb {h l:Pt} {t:Int×Int} (hh:eY h) (hl:eY l) (ht:lM t) (hr:bK t) (h2:(k8 h l t).2=ajh):bK (k8 h l t).1/\lM (k8 h l t).1:=by
 unfold k8 at*
 by_cases h3:leads l h t
 · rw [ls h3];exact ⟨hr,ht⟩
 rw [lw h3] at h2 ⊢
 by_cases h4:h.2.2<l.2.2
 · rw [ls h4];have:=(Dm hh hl (by omega)).2;exact ⟨this.1,this.2.1⟩
 rw [lw h4] at h2;cases h2
theorem OD: ∀(n:Nat) (l:List Nat),l.Nodup->(∀x∈l,x<n)->aig l<=n
 |0,l,_,h=>by
  cases l with
  |nil=>simp
  |cons a l=>exact absurd (h a (by simp)) (by omega)
 |n+1,l,hd,h=>by
  have h1:=OD n (l.filter (fun x=>x≠n)) (hd.filter _) (by
   intro x hx;rw [aeU] at hx;have:=h x hx.1;have h2:x≠n:=by simpa using hx.2
   omega)
  have h2:(aig l)<=(l.filter (fun x=>x≠n)).length+1:=by
   clear h1 h
   induction l with
   |nil=>simp
   |cons a l ih=>
    rw [adB] at hd;have:=ih hd.2
    by_cases ha:a=n
    · subst ha
      have e:l.filter (fun x=>decide (x≠a))=l:=by rw [List.filter_eq_self];intro x hx;simp only [ne_eq,decide_eq_true_eq];rintro rfl;exact hd.1 hx
      rw [List.filter_cons_of_neg (by simp),e];simp
    rw [List.filter_cons_of_pos (by simpa using ha)]
    simp only [aeD];omega
  omega
theorem D3 {n:Nat} {l:List Nat} (hd:l.Nodup) (h: ∀x∈l,x<n) (hn:n<=aig l): ∀x,x<n->x∈l:=by
 intro x hx;refine If fun hc=>?_
 have:=OD n (x::l) (by rw [adB];exact ⟨hc,hd⟩) (by
  intro y hy;rcases afi.1 hy with rfl|hy
  · exact hx
  exact h y hy)
 simp only [aeD] at this;omega
def gi (l:List Pt):Prop:= ∀i,i+1<aig l->(l[i]!).1<(l[i+1]!).1
def bC (l:List Pt):Prop:=aig l<=64/\(∀p∈l,eY p)/\gi l
noncomputable def tz (l:List Pt):Int:=if 64<(aig l) then 4 else if¬(∀p∈l,eY p) then 8 else if¬gi l then 32 else 0
theorem gg {l:List Pt}:tz l=0↔bC l:=by
 unfold tz bC
 by_cases h1:64<aig l
 · rw [ls h1];simp;omega
 rw [lw h1]
 by_cases h2: ∀p∈l,eY p
 · rw [lw (rc.2 h2)]
   by_cases h3:gi l
   · rw [lw (rc.2 h3)]
     exact ⟨fun _=>⟨by omega,h2,h3⟩,fun _=>rfl⟩
   rw [ls h3]
   exact ⟨fun h=>(by cases h),fun h=>absurd h.2.2 h3⟩
 rw [ls h2]
 constructor
 · intro h;cases h
 intro h;exact absurd h.2.1 h2
theorem aV {n:Nat} (h:n<1000000000):aa .i64 ((n:Int)+1)=((n+1:Nat):Int):=by rw [wi];omega
theorem nq {n:Nat} (h:n<1000000000) (h1:1<=n):aa .i64 ((n:Int) -1)=((n-1:Nat):Int):=by rw [wi];omega
theorem aA (n:Nat):ad5 n=(n:Int):=rfl
theorem Md (l:List Pt) (h:(aig l)<=64):ay iQ (1,l)=ajg (.done (if gi l then 0 else 32)):=by
 by_cases hl:(aig l)<=1
 · have:gi l:=fun i hi=>by omega
   rw [ls this];refine aI ?_;unfold iQ;rw [aA];have:ajj ((1:Int)<((aig l):Int))=aji:=by simp;omega
   simp [this]
 have key:=dy (body:=iQ) (fun i=>(((i+1:Nat):Int),l)) (aig l-1) (fun i=>(l[i+1]!).1<=(l[i]!).1) (r:= .done 32) (e:= .done 0) (by
  intro i hi;have e1:ajj (((i+1:Nat):Int)<((aig l):Int))=ajh:=by simp;omega
  have e2:aa .i64 (((i+1:Nat):Int) -1)=(i:Int):=by rw [wi];omega
  have hb:iQ (((i+1:Nat):Int),l)=bif ajj ((l[i+1]!).1<=(l[i]!).1) then ajg (.done (.done 32)) else ajg (.next (((i+1+1:Nat):Int),l)):=by unfold iQ;simp only [aA,e1,lc,e2,ax l i (by omega),ax l (i+1) (by omega),aj,aV (show i+1<1000000000 by omega)]
  constructor
  · intro hc;rw [hb,decide_eq_true hc];rfl
  · intro hc;rw [hb,decide_eq_false hc];rfl) (by
  unfold iQ;have:ajj (((aig l-1+1:Nat):Int)<ad5 (aig l))=aji:=by rw [aA];simp;omega
  simp only [this,lm])
 by_cases hs:gi l
 · rw [ls hs]
   refine key.2 fun i hi=>?_
   have:=hs i (by omega);omega
 rw [lw hs]
 refine key.1 ?_;unfold gi at hs;simp only [Do] at hs;obtain ⟨i,hi,h2⟩:=hs;exact ⟨i,by omega,by omega⟩
theorem Gl (f:Field):nY f=ajg (tz f.am):=by
 unfold nY tz;rw [aA]
 by_cases h:64<aig f.am
 · have:ajj ((64:Int)<((aig f.am):Int))=ajh:=by simp;omega
   rw [this,ls h];rfl
 have:ajj ((64:Int)<((aig f.am):Int))=aji:=by simp;omega
 rw [this,lw h];simp only [lm];generalize f.am=l at*;have key:=dy (body:=lW) (fun i=>((i:Int),l)) (aig l) (fun i=> ¬eY l[i]!) (r:=8) (e:=if gi l then 0 else 32) (by
  intro i hi;have e1:ajj ((i:Int)<((aig l):Int))=ajh:=by simp;omega
  have hb:lW ((i:Int),l)=bif (if eY l[i]! then (0:Int) else 8) !=0 then ajg (.done 8) else ajg (.next (((i+1:Nat):Int),l)):=by unfold lW;simp only [aA,e1,lc,ax l i (by omega),aj,Gh,aV (show i<1000000000 by omega)]
  constructor
  · intro hc;rw [hb,lw hc];rfl
  · intro hc;rw [hb,ls (rc.1 hc)];rfl) (by
  unfold lW;have:ajj (((aig l):Int)<ad5 (aig l))=aji:=by rw [aA];simp
  simp only [this,lm];exact Md l (by omega))
 by_cases hp: ∀p∈l,eY p
 · rw [lw (rc.2 hp)]
   refine (key.2 fun i hi=>?_).trans ?_
   · exact rc.2 (hp _ (bn hi))
   by_cases hs:gi l
   · simp [hs]
   simp [hs]
 rw [ls hp]
 refine key.1 ?_;obtain ⟨p,hp⟩:=Do.1 hp;obtain ⟨hm,h2⟩:=adz.1 hp;obtain ⟨i,hi,rfl⟩:=aO.1 hm;exact ⟨i,hi,h2⟩
theorem Me (l:List Pt) (h:(aig l)<=64):ay iS (l,((aig l):Int),0,l)=ajg (.done (if gi l then 0 else 32)):=by
 have key:=dy (body:=iS) (fun i=>(l,((aig l):Int),(i:Int),l)) (aig l) (fun i=>0<i/\(l[i]!).1<=(l[i-1]!).1) (r:= .done 32) (e:= .done 0) (by
  intro i hi;have e1:ajj ((i:Int)<((aig l):Int))=ajh:=by simp;omega
  by_cases h0:0<i
  · have e3:ajj ((0:Int)<(i:Int))=ajh:=by simp;omega
    have hb:iS (l,((aig l):Int),(i:Int),l)=bif ajj ((l[i]!).1<=(l[i-1]!).1) then ajg (.done (.done 32)) else ajg (.next (l,((aig l):Int),((i+1:Nat):Int),l)):=by unfold iS;simp only [e1,e3,lc,ax l i (by omega),nq (show i<1000000000 by omega) h0,ax l (i-1) (by omega),aj,aV (show i<1000000000 by omega)]
    constructor
    · intro hc;rw [hb,decide_eq_true hc.2];rfl
    intro hc
    have: ¬(l[i]!).1<=(l[i-1]!).1:=fun h=>hc ⟨h0,h⟩
    rw [hb,decide_eq_false this];rfl
  · have e3:ajj ((0:Int)<(i:Int))=aji:=by simp;omega
    constructor
    · intro hc;exact absurd hc.1 h0
    intro _
    unfold iS;simp only [e1,e3,lc,lm,ax l i (by omega),aj,aV (show i<1000000000 by omega)]) (by
  unfold iS;have:ajj (((aig l):Int)<((aig l):Int))=aji:=by simp
  simp only [this,lm])
 by_cases hs:gi l
 · rw [ls hs]
   refine key.2 fun i hi=>?_
   rintro ⟨h0,h1⟩;have:=hs (i-1) (by omega);rw [show i-1+1=i by omega] at this;omega
 rw [lw hs]
 refine key.1 ?_;unfold gi at hs;simp only [Do] at hs;obtain ⟨i,hi,h2⟩:=hs;exact ⟨i+1,by omega,by omega,by rw [show i+1-1=i by omega];omega⟩
theorem fv (f:Field):cY f=ajg (tz f.am):=by
 unfold cY tz;rw [aA]
 by_cases h:64<aig f.am
 · have:ajj ((64:Int)<((aig f.am):Int))=ajh:=by simp;omega
   rw [this,ls h];rfl
 have:ajj ((64:Int)<((aig f.am):Int))=aji:=by simp;omega
 rw [this,lw h];simp only [lm];generalize f.am=l at*;have key:=dy (body:=me) (fun i=>(l,((aig l):Int),(i:Int),l)) (aig l) (fun i=> ¬eY l[i]!) (r:=8) (e:=if gi l then 0 else 32) (by
  intro i hi;have e1:ajj ((i:Int)<((aig l):Int))=ajh:=by simp;omega
  have hb:me (l,((aig l):Int),(i:Int),l)=bif (if eY l[i]! then (0:Int) else 8) !=0 then ajg (.done (if eY l[i]! then (0:Int) else 8)) else ajg (.next (l,((aig l):Int),((i+1:Nat):Int),l)):=by unfold me;simp only [e1,lc,ax l i (by omega),aj,fD,aV (show i<1000000000 by omega)]
  constructor
  · intro hc;rw [hb,lw hc];rfl
  · intro hc;rw [hb,ls (rc.1 hc)];rfl) (by
  unfold me;have:ajj (((aig l):Int)<((aig l):Int))=aji:=by simp
  simp only [this,lm];exact Me l (by omega))
 by_cases hp: ∀p∈l,eY p
 · rw [lw (rc.2 hp)]
   refine (key.2 fun i hi=>?_).trans ?_
   · exact rc.2 (hp _ (bn hi))
   by_cases hs:gi l
   · simp [hs]
   simp [hs]
 rw [ls hp]
 refine key.1 ?_;obtain ⟨p,hp⟩:=Do.1 hp;obtain ⟨hm,h2⟩:=adz.1 hp;obtain ⟨i,hi,rfl⟩:=aO.1 hm;exact ⟨i,hi,h2⟩
theorem eV {l:List Pt} (h:gi l) {i j:Nat} (lL:i<j) (hj:j<aig l):(l[i]!).1<(l[j]!).1:=by
 induction j with
 |zero=>omega
 |succ j ih=>
  have h1:=h j hj
  by_cases he:i=j
  · subst he;exact h1
  have:=ih (by omega) (by omega);omega
theorem xp {l:List Pt} (h:gi l) {i j:Nat} (hi:i<aig l) (hj:j<aig l) (he:(l[i]!).1=(l[j]!).1):i=j:=by
 rcases Nat.lt_trichotomy i j with h1|h1|h1
 · have:=eV h h1 hj;omega
 · exact h1
 have:=eV h h1 hi;omega
theorem D4 (l:List Pt) (id:Int) (hl:(aig l)<=1000000):(∀k,k<aig l->(l[k]!).1=id->(∀j,j<k->(l[j]!).1≠id)->gG ⟨l⟩ id=ajg (k:Int))/\((∀k,k<aig l->(l[k]!).1≠id)->gG ⟨l⟩ id=ajg (-1)):=by
 unfold gG;refine iD (body:=qK) (fun i=>(id,(i:Int),l)) (aig l) (fun i=>(l[i]!).1=id) (fun i=>(i:Int)) (fun i hi=>?_) ?_
 · have e1:ajj ((i:Int)<((aig l):Int))=ajh:=by simp;omega
   have hb:qK (id,(i:Int),l)=bif (l[i]!).1==id then ajg (.done (i:Int)) else ajg (.next (id,((i+1:Nat):Int),l)):=by unfold qK;simp only [aA,e1,lc,ax l i hi,aj,aV (show i<1000000000 by omega)]
   constructor
   · intro hc;rw [hb,dp hc];rfl
   intro hc;rw [hb,dR hc];rfl
 unfold qK
 have:ajj (((aig l):Int)<((aig l):Int))=aji:=by simp
 simp only [aA,this,lm]
theorem RO {l:List Pt} (hs:gi l) (hl:(aig l)<=1000000) {k:Nat} (hk:k<aig l) {id:Int} (he:(l[k]!).1=id):gG ⟨l⟩ id=ajg (k:Int):=by
 refine (D4 l id hl).1 k hk he fun j hj hc=>?_
 have:=eV hs hj hk;omega
theorem ac0 {l:List Pt} (hl:(aig l)<=1000000) {id:Int} (h: ∀k,k<aig l->(l[k]!).1≠id):gG ⟨l⟩ id=ajg (-1):=(D4 l id hl).2 h
theorem Mf (f:Nat->Int) (id:Int): ∀(n:Nat),(∀i j,i<j->j<n->f i<f j)-> ∃m,m<=n/\(∀i,i<m->f i<id)/\(∀i,m<=i->i<n->id<=f i)
 |0,_=>⟨0,aeh _,fun i h=>by omega,fun i _ h=>by omega⟩
 |n+1,h=>by
  obtain ⟨m,h1,h2,h3⟩:=Mf f id n fun i j a b=>h i j a (by omega)
  by_cases hm:m=n
  · by_cases hf:f n<id
    · refine ⟨n+1,aeh _,fun i hi=>?_,fun i a b=>by omega⟩
      by_cases he:i=n
      · subst he;exact hf
      exact h2 i (by omega)
    refine ⟨n,by omega,fun i hi=>h2 i (by omega),fun i a b=>?_⟩
    have:i=n:=by omega
    subst this;omega
  refine ⟨m,by omega,h2,fun i a b=>?_⟩
  by_cases he:i=n
  · subst he
    have:=h m i (by omega) (by omega);have:=h3 m (aeh _) (by omega);omega
  exact h3 i a (by omega)
theorem hM {α:Type} [Inhabited α] {l:List α}:l.Nodup↔ ∀i j,i<j->j<aig l->l[i]!≠l[j]!:=by
 unfold List.Nodup;rw [List.pairwise_iff_getElem];constructor
 · intro h i j lL hj
   rw [getElem!_pos l i (by omega),getElem!_pos l j hj];exact h i j (by omega) hj lL
 intro h i j hi hj lL
 have:=h i j lL hj
 rwa [getElem!_pos l i hi,getElem!_pos l j hj] at this
theorem cw {α:Type} [Inhabited α] {l:List α} {k:Nat} {x:α}:x∈l.take k↔ ∃i,i<k/\i<aig l/\l[i]! =x:=by
 rw [aO];constructor
 · rintro ⟨i,hi,rfl⟩
   rw [ad6] at hi;exact ⟨i,by omega,by omega,(je (by omega)).symm⟩
 rintro ⟨i,h1,h2,rfl⟩
 exact ⟨i,by rw [ad6];omega,je h1⟩
theorem gI {α:Type} [Inhabited α] {l:List α} {k:Nat} (h:k<aig l):l.take (k+1)=l.take k++[l[k]!]:=by rw [List.take_add_one,adQ h,getElem!_pos l k h];rfl
def marks (l:List Bool):List Int->List Bool
 | []=>l
 |x::r=>marks (cd l x ajh) r
theorem mK: ∀(r:List Int) (l:List Bool),(marks l r).length=aig l
 | [],_=>rfl
 |x::r,l=>by rw [marks,mK r,vV]
theorem A9: ∀(r:List Int) (l:List Bool) (x:Int),marks l (r++[x])=cd (marks l r) x ajh
 | [],_,_=>rfl
 |y::r,l,x=>by show marks (cd l y ajh) (r++[x])=_;rw [A9 r];rfl
theorem oh : ∀ (r : List Int) (l : List Bool) (i : Nat), (∀ x ∈ r, 0 <= x) -> i < (aig l) -> (marks l r)[i]! = (l[i]! || ajj ((i : Int) ∈ r))
  | [], l, i, _, _ => by simp [marks]
  | x :: r, l, i, h, hi => by
    rw [marks, oh r _ i (fun y hy => h y (by simp [hy])) (by rw [vV]; exact hi)]
    obtain ⟨k, rfl⟩ := adc (h x (by simp))
    rw [mq, aU]
    by_cases e : i = k
    · subst e; rw [ls ⟨rfl, hi⟩]; simp
    rw [lw (fun h => e h.1)]
    have : ((i : Int) ∈ (k : Int) :: r) ↔ (i : Int) ∈ r := by
      rw [afi]
      constructor
      · rintro (h | h)
        · omega
        exact h
      exact .inr
    simp only [this]
theorem Gm (l:List Bool) (h:(aig l)<=1000000):eE l aji=ajg (ajj (aji∈l)):=by
 unfold eE oP;have key:=iD (body:=gH) (fun i=>(l,aji,((aig l):Int),(i:Int))) (aig l) (fun i=>l[i]! =aji) (fun i=>(i:Int)) (e:= -1) (fun i hi=>by
  have e1:ajj ((i:Int)<((aig l):Int))=ajh:=by simp;omega
  have hb:gH (l,aji,((aig l):Int),(i:Int))=bif aji==l[i]! then ajg (.done (i:Int)) else ajg (.next (l,aji,((aig l):Int),((i+1:Nat):Int))):=by unfold gH;simp only [e1,lc,ax l i hi,aj,aV (show i<1000000000 by omega)]
  constructor
  · intro hc;rw [hb,hc];rfl
  · intro hc
    have:l[i]! =ajh:=by simpa using hc
    rw [hb,this];rfl) (by
  unfold gH;have:ajj (((aig l):Int)<((aig l):Int))=aji:=by simp
  simp only [this,lm])
 rw [aA]
 by_cases hx:aji∈l
 · obtain ⟨i,hi,he⟩:=aO.1 hx
   obtain ⟨k,h1,h2,h3⟩:=least (c:=fun i=>l[i]! =aji) ⟨i,hi,he⟩;have:=key.1 k h1 h2 h3;rw [show ((0:Nat):Int)=0 from rfl] at this;rw [this];have e:ajj ((0:Int)<=(k:Int))=ajh:=by simp
   simp [hx]
 have:=key.2 fun i hi he=>hx (aO.2 ⟨i,hi,he⟩)
 rw [show ((0:Nat):Int)=0 from rfl] at this;rw [this];simp [hx]
structure fj (s:bj):Prop where
 n1:1<=aig s.aB
 n2:(aig s.aB)<=200
 ul:(aig s.be)=aig s.aB
 fr: ∀x∈s.bi,0<=x/\x<aig s.aB
 fd:s.bi.Nodup
 uf: ∀i,i<aig s.aB->(s.be[i]! =ajh↔(i:Int)∉s.bi)
 us: ∀i,i<aig s.aB->0<=s.aB[i]!/\s.aB[i]!<=1000000/\(s.be[i]! =ajh->1<=s.aB[i]!)
theorem OE (aB:List Int) (be:List Bool) (fr:List Int) (h1:(aig aB)<=200) (h2:(aig be)=aig aB):
 ay gF (aB,((aig aB):Int),0,aB,be,fr)=ajg (.done (if∀i,i<aig aB->0<=aB[i]!/\aB[i]!<=1000000/\(be[i]! =ajh->1<=aB[i]!) then 0 else 8)):=by
 have key:=dy (body:=gF) (fun i=>(aB,((aig aB):Int),(i:Int),aB,be,fr)) (aig aB) (fun i=> ¬(0<=aB[i]!/\aB[i]!<=1000000/\(be[i]! =ajh->1<=aB[i]!))) (r:= .done 8) (e:= .done 0) (fun i hi=>by
  have e1:ajj ((i:Int)<((aig aB):Int))=ajh:=by simp;omega
  have hb:gF (aB,((aig aB):Int),(i:Int),aB,be,fr)=bif ajj (aB[i]!<0) then ajg (.done (.done 8)) else bif ajj (1000000<aB[i]!) then ajg (.done (.done 8)) else bif aB[i]! ==0 then (bif be[i]! then ajg (.done (.done 8)) else ajg (.next (aB,((aig aB):Int),((i+1:Nat):Int),aB,be,fr))) else ajg (.next (aB,((aig aB):Int),((i+1:Nat):Int),aB,be,fr)):=by unfold gF;simp only [e1,lc,ax aB i hi,ax be i (by omega),aj,aV (show i<1000000000 by omega)]
  rw [hb];generalize aB[i]! =u at*
  by_cases a1:u<0
  · simp [a1];omega
  · by_cases a2:1000000<u
    · simp [a1,a2];omega
    by_cases a3:u=0
    · subst a3
      cases be[i]!<;>simp
    have a4:1<=u:=by omega
    have a5:0<=u:=by omega
    have a6:u<=1000000:=by omega
    simp [a1,a2,dR a3,a4,a5,a6]) (by
  unfold gF;have:ajj (((aig aB):Int)<((aig aB):Int))=aji:=by simp
  simp only [this,lm])
 by_cases hc: ∀i,i<aig aB->0<=aB[i]!/\aB[i]!<=1000000/\(be[i]! =ajh->1<=aB[i]!)
 · rw [ls hc]
   exact key.2 fun i hi=>rc.2 (hc i hi)
 rw [lw hc]
 simp only [Do] at hc;obtain ⟨i,hi,hx⟩:=hc;exact key.1 ⟨i,hi,by simpa only [Do] using hx⟩
theorem vn (s:bj) (hf:(aig s.bi)<=1000000):pK s=ajg (if fj s then 0 else 8):=by
 obtain ⟨aB,be,fr⟩:=s;dsimp only at hf;unfold pK;simp only [aA]
 by_cases a1:(aig aB)<1
 · have e:ajj (((aig aB):Int)<1)=ajh:=by simp;omega
   rw [e,lw (fun h=>by have:=h.n1;dsimp only at this;omega)];rfl
 have e1:ajj (((aig aB):Int)<1)=aji:=by simp;omega
 by_cases a2:200<aig aB
 · have e:ajj (200<((aig aB):Int))=ajh:=by simp;omega
   rw [e1,e,lw (fun h=>by have:=h.n2;dsimp only at this;omega)];rfl
 have e2:ajj (200<((aig aB):Int))=aji:=by simp;omega
 by_cases a3:(aig be)=aig aB
 case neg=>
  have e:(((aig be):Int) !=((aig aB):Int))=ajh:=by simp;omega
  rw [e1,e2,e,lw (fun h=>a3 h.ul)];rfl
 have e3:(((aig be):Int) !=((aig aB):Int))=aji:=by simp;omega
 simp only [e1,e2,e3,lm,bm (show (aig be)<=1048576 by omega),aj];have Gn:=OE aB be fr (by omega) a3;have key:=dy (body:=qe be) (fun k=>(fr,((aig fr):Int),(k:Int),aB,be,fr,((aig aB):Int),marks be (fr.take k))) (aig fr)
  (fun k=>fr[k]!<0\/((aig aB):Int)<=fr[k]!\/(marks be (fr.take k))[(fr[k]!).toNat]! =ajh) (r:=8)
  (e:=if aji∈marks be fr then 8 else if∀i,i<aig aB->0<=aB[i]!/\aB[i]!<=1000000/\(be[i]! =ajh->1<=aB[i]!) then 0 else 8) (fun k hk=>by
   have f1:ajj ((k:Int)<((aig fr):Int))=ajh:=by simp;omega
   have f2:((marks be (fr.take k)).length==aig be)=ajh:=by rw [mK];simp
   have f3:ajj ((0:Int)<=(k:Int))=ajh:=by simp
   have f4: ∀x:Int,((cd (marks be (fr.take k)) x ajh).length==(marks be (fr.take k)).length)=ajh:=by intro x;rw [vV];simp
   have f5:marks be (fr.take (k+1))=cd (marks be (fr.take k)) fr[k]! ajh:=by rw [gI hk,A9]
   unfold qe;simp only [f1,f2,f3,f4,lc,beq_self_eq_true,ax fr k hk,aj,aV (show k<1000000000 by omega),f5];clear f5;generalize fr[k]! =x
   by_cases b1:x<0
   · simp [b1]
   · by_cases b2:((aig aB):Int)<=x
     · simp [b1,b2]
     simp only [b1,b2,decide_false,lm,false_or]
     rw [dS (l:=marks be (fr.take k)) (i:=x) (by omega) (by rw [mK];omega)];simp only [aj];cases (marks be (fr.take k))[x.toNat]!<;>simp) (by
   have f1:ajj (((aig fr):Int)<((aig fr):Int))=aji:=by simp
   unfold qe;simp only [f1,lm,aeE];rw [Gm _ (by rw [mK];omega)];have f2:((marks be fr).length==aig be)=ajh:=by rw [mK];simp
   simp only [f2,lc,aj,aA,Gn]
   by_cases hx:aji∈marks be fr
   · simp [hx]
   simp [hx])
 have h0:marks be (fr.take 0)=be:=rfl;rw [show ((0:Nat):Int)=0 from rfl,h0] at key
 by_cases bad: ∃k,k<aig fr/\(fr[k]!<0\/((aig aB):Int)<=fr[k]!\/(marks be (fr.take k))[(fr[k]!).toNat]! =ajh)
 · rw [key.1 bad,lw]
   intro ok;obtain ⟨k,hk,hb⟩:=bad;have hr:=ok.fr fr[k]! (bn hk);dsimp only at hr;rcases hb with hb|hb|hb
   · omega
   · omega
   rw [oh _ _ _ (fun x hx=>(ok.fr x (acl hx)).1) (by omega)] at hb
   have hi:((fr[k]!).toNat:Int)=fr[k]!:=by omega
   rw [hi,Bool.or_eq_true] at hb;rcases hb with hb|hb
   · have:=(ok.uf (fr[k]!).toNat (by show _<aig aB;omega)).1 hb
     rw [hi] at this;exact this (bn hk)
   have hm:fr[k]!∈fr.take k:=by simpa using hb
   obtain ⟨j,h1,h2,h3⟩:=cw.1 hm;exact hM.1 ok.fd j k h1 hk h3
 have OF: ∀k,k<aig fr->0<=fr[k]!/\fr[k]!<aig aB/\(marks be (fr.take k))[(fr[k]!).toNat]! =aji:=by
  intro k hk;refine ⟨?_,?_,?_⟩
  · exact Int.not_lt.1 fun h=>bad ⟨k,hk,.inl h⟩
  · exact Int.not_le.1 fun h=>bad ⟨k,hk,.inr (.inl h)⟩
  exact ae8 _▸fun h=>bad ⟨k,hk,.inr (.inr h)⟩
 rw [key.2 fun k hk hb=>bad ⟨k,hk,hb⟩];have Qg: ∀x∈fr,0<=x/\x<((aig aB):Int):=by intro x hx;obtain ⟨k,hk,rfl⟩:=aO.1 hx;exact ⟨(OF k hk).1,(OF k hk).2.1⟩
 have g2: ∀k,k<aig fr->be[(fr[k]!).toNat]! =aji/\fr[k]!∉fr.take k:=by intro k hk;obtain ⟨c1,c2,c3⟩:=OF k hk;rw [oh _ _ _ (fun x hx=>(Qg x (acl hx)).1) (by omega),show ((fr[k]!).toNat:Int)=fr[k]! by omega,ael] at c3;exact ⟨c3.1,by simpa using c3.2⟩
 have nd:fr.Nodup:=hM.2 fun i j lL hj he=>(g2 j hj).2 (cw.2 ⟨i,lL,by omega,he⟩)
 by_cases hx:aji∈marks be fr
 · rw [ls hx,lw]
   intro ok;obtain ⟨i,hi,he⟩:=aO.1 hx;rw [mK] at hi;rw [oh _ _ _ (fun x hx=>(Qg x hx).1) hi,ael] at he;have h3:(i:Int)∉fr:=by simpa using he.2
   have:=(ok.uf i (by show _<aig aB;omega)).2 h3;rw [show be[i]! =aji from he.1] at this;cases this
 rw [lw hx]
 by_cases hu: ∀i,i<aig aB->0<=aB[i]!/\aB[i]!<=1000000/\(be[i]! =ajh->1<=aB[i]!)
 · rw [ls hu,ls]
   refine ⟨by show 1<=aig aB;omega,by show (aig aB)<=200;omega,a3,Qg,nd,fun i hi=>?_,hu⟩;dsimp only at hi ⊢;constructor
   · intro h1 h2
     obtain ⟨k,hk,he⟩:=aO.1 h2;have:=(g2 k hk).1;rw [he,show ((i:Int)).toNat=i by omega,h1] at this;cases this
   intro h1
   refine If fun h2=>hx ?_
   refine aO.2 ⟨i,by rw [mK];omega,?_⟩;rw [oh _ _ _ (fun x hx=>(Qg x hx).1) (by omega)];have:be[i]! =aji:=by simpa using h2
   rw [this];simpa using h1
 rw [lw hu,lw]
 intro ok;exact hu ok.us
theorem fj.fl {s:bj} (ok:fj s):(aig s.bi)<=(aig s.aB):=by
 have h:=OD (aig s.aB) (s.bi.map afn) (by
  rw [hM];intro i j lL hj he;rw [adC] at hj;have e: ∀k,k<aig s.bi->(s.bi.map afn)[k]! =(s.bi[k]!).toNat:=by intro k hk;rw [getElem!_pos _ k (by simpa using hk),List.getElem_map,getElem!_pos s.bi k hk]
  rw [e i (by omega),e j hj] at he;have h1:=(ok.fr _ (bn (show i<(aig s.bi) by omega))).1;have h2:=(ok.fr _ (bn hj)).1;exact hM.1 ok.fd i j lL hj (by omega)) (by
  intro x hx;obtain ⟨y,hy,rfl⟩:=UV.1 hx;have:=ok.fr y hy;omega)
 rwa [adC] at h
def uL (s:bj) (h:Int×Int):Prop:=0<=h.1/\h.1<aig s.aB/\s.be[h.1.toNat]! =ajh/\s.aB[h.1.toNat]! =h.2
def fR (s:bj) (h:Int×Int):bj:=⟨s.aB,s.be.set h.1.toNat aji,s.bi++[h.1]⟩
def dh (s:bj):Nat:=(s.bi[aig s.bi-1]!).toNat
def xQ (s:bj):Prop:=0<aig s.bi/\s.aB[dh s]!<1000000
def gJ (s:bj):bj:=⟨s.aB.set (dh s) (s.aB[dh s]!+1),s.be.set (dh s) ajh,s.bi.take (aig s.bi-1)⟩
def kQ (s:bj):Int×Int:=((dh s:Int),s.aB[dh s]!+1)
theorem D5 {s:bj} (ok:fj s) (h:Int×Int):yK s h=ajg (ajj (uL s h),0):=by
 have hl:=ok.fl;have hn:=ok.n2;have hu:=ok.ul;unfold yK uL;rw [vn s (by omega),ls ok];simp only [aj,show ((0:Int) !=0)=aji from rfl,lm,aA]
 by_cases a1:0<=h.1
 · by_cases a2:h.1<aig s.aB
   · have e2:ajj (h.1<((aig s.be):Int))=ajh:=by simp;omega
     simp only [a1,a2,e2,decide_true,lc,dS (l:=s.be) a1 (by omega),dS (l:=s.aB) a1 a2,aj,true_and];generalize s.aB[h.1.toNat]! =u;cases s.be[h.1.toNat]!<;>simp [Qf]
   have e2:ajj (h.1<((aig s.be):Int))=aji:=by simp;omega
   simp [a1,a2,e2]
 simp [a1]
theorem J9 {s:bj} (ok:fj s) {h:Int×Int} (lv:uL s h):zB s h=ajg (fR s h,0):=by
 have hl:=ok.fl;have hn:=ok.n2;have hu:=ok.ul;unfold zB;rw [D5 ok,decide_eq_true lv];unfold rB;obtain ⟨l1,l2,l3,l4⟩:=lv;have e1:cd s.be h.1 aji=s.be.set h.1.toNat aji:=rfl;simp only [aj,show ((0:Int) !=0)=aji from rfl,lm,EQ,bm (show (aig s.aB)<=1048576 by omega),bm (show (aig s.be)<=1048576 by omega),bm (show (aig s.bi)<=1048576 by omega),
  dJ (show (aig s.bi)+[h.1].length<=1048576 by simp;omega),dS (l:=s.be) l1 (by omega),e1,fR]
theorem vo {s:bj} (ok:fj s):nH s=ajg s:=by have hl:=ok.fl;have hn:=ok.n2;have hu:=ok.ul;unfold nH;simp only [aj,bm (show (aig s.aB)<=1048576 by omega),bm (show (aig s.be)<=1048576 by omega),bm (show (aig s.bi)<=1048576 by omega)]
theorem Gp {s:bj} (ok:fj s) {h:Int×Int} (lv:uL s h):ob s h=ajg (fR s h):=by have hl:=ok.fl;have hn:=ok.n2;have hu:=ok.ul;obtain ⟨l1,l2,l3,l4⟩:=lv;unfold ob;rw [vo ok];have e1:cd s.be h.1 aji=s.be.set h.1.toNat aji:=rfl;simp only [aj,dJ (show (aig s.bi)+[h.1].length<=1048576 by simp;omega),dS (l:=s.be) l1 (by omega),e1,fR]
theorem Ve {s:bj} (ok:fj s) {h:Int×Int} (lv:uL s h):fj (fR s h):=by
 have hl:=ok.fl;have hn:=ok.n2;have hu:=ok.ul;obtain ⟨l1,l2,l3,l4⟩:=lv;have nf:h.1∉s.bi:=by
  have:=(ok.uf h.1.toNat (by omega)).1 l3
  rwa [show (h.1.toNat:Int)=h.1 by omega] at this
 refine ⟨ok.n1,ok.n2,?_,?_,?_,?_,?_⟩
 · show (s.be.set _ _).length=_;rw [pp];exact hu
 · intro x hx
   rcases aeb.1 hx with hx|hx
   · exact ok.fr x hx
   rw [adK] at hx;subst hx;exact ⟨l1,l2⟩
 · show (s.bi++[h.1]).Nodup
   rw [List.nodup_append];refine ⟨ok.fd,by simp,?_⟩;intro x hx y hy he;rw [adK] at hy;subst hy;subst he;exact nf hx
 · intro i hi
   change i<(aig s.aB) at hi;show (s.be.set h.1.toNat aji)[i]! =ajh↔(i:Int)∉s.bi++[h.1];rw [aU,aeb,adK]
   by_cases e:i=h.1.toNat
   · rw [ls ⟨e,by omega⟩]
     have:(i:Int)=h.1:=by omega
     simp [this]
   rw [lw (fun k=>e k.1),ok.uf i hi]
   have: ¬(i:Int)=h.1:=by omega
   simp [this]
 intro i hi
 change i<(aig s.aB) at hi;obtain ⟨u1,u2,u3⟩:=ok.us i hi;refine ⟨u1,u2,?_⟩;show (s.be.set h.1.toNat aji)[i]! =ajh->_;rw [aU];split
 · intro h;cases h
 exact u3
theorem zH {s:bj} (ok:fj s) (h:0<aig s.bi):dh s<aig s.aB/\(dh s:Int)=s.bi[aig s.bi-1]!/\(dh s:Int)∈s.bi:=by
 have hm:=bn (l:=s.bi) (i:=aig s.bi-1) (by omega);have:=ok.fr _ hm;have e:(dh s:Int)=s.bi[aig s.bi-1]!:=by unfold dh;omega
 refine ⟨by omega,e,by rw [e];exact hm⟩
theorem kr {α:Type} (l:List α) (n:Nat) (h:n<=aig l):gn l 0 (n:Int)=ajg (l.take n):=by unfold gn;rw [ls ⟨by omega,by omega,by omega⟩];simp
theorem Cc {s:bj} (ok:fj s):zC s=ajg (if xQ s then (gJ s,kQ s,0) else (⟨[],[],[]⟩,(0,0),18)):=by
 have hl:=ok.fl;have hn:=ok.n2;have hu:=ok.ul;unfold zC xQ;rw [vn s (by omega),ls ok];simp only [aj,show ((0:Int) !=0)=aji from rfl,lm,aA]
 by_cases a1:0<aig s.bi
 · obtain ⟨n1,n2,n3⟩:=zH ok a1
   have e1:(((aig s.bi):Int)==0)=aji:=dR (by omega);have e2:aa .i64 (((aig s.bi):Int) -1)=((aig s.bi-1:Nat):Int):=nq (by omega) (by omega);unfold tf;simp only [e1,lm,aA,e2,kr s.bi (aig s.bi-1) (by omega),aj,bm (show (s.bi.take (aig s.bi-1)).length<=1048576 by rw [ad6];omega),
    ax s.bi (aig s.bi-1) (by omega),<- n2,ax s.aB (dh s) n1]
   obtain ⟨u1,u2,u3⟩:=ok.us (dh s) n1
   by_cases a2:s.aB[dh s]! =1000000
   · have e3:(s.aB[dh s]! ==1000000)=ajh:=by simpa using a2
     rw [e3,lw (by omega)];rfl
   have e3:(s.aB[dh s]! ==1000000)=aji:=by simpa using a2
   have e4:aa .i64 (s.aB[dh s]!+1)=s.aB[dh s]!+1:=by rw [wi];omega
   rw [e3,ls (by omega)];simp only [lm,bm (show (aig s.aB)<=1048576 by omega),bm (show (aig s.be)<=1048576 by omega),aj,ax s.be (dh s) (by omega),ax s.aB (dh s) n1,e4,mq,
    ax (s.aB.set (dh s) (s.aB[dh s]!+1)) (dh s) (by rw [pp];exact n1),aU,n1,and_self,if_true,gJ,kQ]
 have e1:(((aig s.bi):Int)==0)=ajh:=dp (by omega)
 rw [e1,lw (fun h=>a1 h.1)];rfl
theorem qn {s:bj} (ok:fj s):gu s=ajg (ajj (xQ s)):=by
 have hl:=ok.fl;have hn:=ok.n2;have hu:=ok.ul;unfold gu xQ;simp only [aA]
 by_cases a1:0<aig s.bi
 · obtain ⟨n1,n2,n3⟩:=zH ok a1
   have e1:ajj ((0:Int)<((aig s.bi):Int))=ajh:=by simp;omega
   have e2:aa .i64 (((aig s.bi):Int) -1)=((aig s.bi-1:Nat):Int):=nq (by omega) (by omega);simp only [e1,e2,lc,ax s.bi (aig s.bi-1) (by omega),aj,<- n2,ax s.aB (dh s) n1,a1,true_and]
 have e1:ajj ((0:Int)<((aig s.bi):Int))=aji:=decide_eq_false (by omega)
 rw [e1];simp [a1]
theorem Gq {s:bj} (ok:fj s) (h:xQ s):uA s=ajg (gJ s,kQ s):=by
 have hl:=ok.fl;have hn:=ok.n2;have hu:=ok.ul;obtain ⟨a1,a2⟩:=h;obtain ⟨n1,n2,n3⟩:=zH ok a1;obtain ⟨u1,u2,u3⟩:=ok.us (dh s) n1;unfold uA;rw [vo ok];have e2:aa .i64 (((aig s.bi):Int) -1)=((aig s.bi-1:Nat):Int):=nq (by omega) (by omega);have e4:aa .i64 (s.aB[dh s]!+1)=s.aB[dh s]!+1:=by rw [wi];omega
 simp only [aj,aA,e2,ax s.bi (aig s.bi-1) (by omega),kr s.bi (aig s.bi-1) (by omega),<- n2,ax s.aB (dh s) n1,ax s.be (dh s) (by omega),e4,mq,
  ax (s.aB.set (dh s) (s.aB[dh s]!+1)) (dh s) (by rw [pp];exact n1),aU,n1,and_self,if_true,gJ,kQ,Int.toNat_natCast]
theorem Vf {s:bj} (ok:fj s) (h:xQ s):fj (gJ s):=by
 have hl:=ok.fl;have hn:=ok.n2;have hu:=ok.ul;obtain ⟨a1,a2⟩:=h;obtain ⟨n1,n2,n3⟩:=zH ok a1;have mt: ∀x:Int,x∈s.bi.take (aig s.bi-1)↔(x∈s.bi/\x≠(dh s:Int)):=by
  intro x;rw [cw];constructor
  · rintro ⟨i,h1,h2,rfl⟩
    refine ⟨bn h2,?_⟩;rw [n2];exact hM.1 ok.fd i (aig s.bi-1) h1 (by omega)
  rintro ⟨h1,h2⟩
  obtain ⟨i,hi,rfl⟩:=aO.1 h1;refine ⟨i,?_,hi,rfl⟩;refine If fun hc=>h2 ?_
  rw [n2,show i=aig s.bi-1 by omega]
 refine ⟨?_,?_,?_,?_,?_,?_,?_⟩
 · show 1<=(s.aB.set _ _).length;rw [pp];exact ok.n1
 · show (s.aB.set _ _).length<=200;rw [pp];exact ok.n2
 · show (s.be.set _ _).length=(s.aB.set _ _).length;rw [pp,pp];exact hu
 · intro x hx
   show 0<=x/\x<((s.aB.set _ _).length:Int);rw [pp];exact ok.fr x ((mt x).1 hx).1
 · exact ok.fd.sublist (List.take_sublist _ _)
 · intro i hi
   change i<(s.aB.set _ _).length at hi;rw [pp] at hi;show (s.be.set (dh s) ajh)[i]! =ajh↔(i:Int)∉s.bi.take (aig s.bi-1);rw [aU,mt]
   by_cases e:i=dh s
   · rw [ls ⟨e,by omega⟩]
     simp [e]
   rw [lw (fun k=>e k.1),ok.uf i hi]
   have:(i:Int)≠(dh s:Int):=by omega
   simp [this]
 intro i hi
 change i<(s.aB.set _ _).length at hi;rw [pp] at hi;obtain ⟨u1,u2,u3⟩:=ok.us i hi;show 0<=(s.aB.set (dh s) (s.aB[dh s]!+1))[i]!/\(s.aB.set (dh s) (s.aB[dh s]!+1))[i]!<=1000000/\((s.be.set (dh s) ajh)[i]! =ajh->1<=(s.aB.set (dh s) (s.aB[dh s]!+1))[i]!);rw [aU,aU]
 by_cases e:i=dh s
 · subst e
   rw [ls ⟨rfl,n1⟩];refine ⟨by omega,by omega,fun _=>by omega⟩
 rw [lw (fun k=>e k.1),lw (fun k=>e k.1)]
 exact ⟨u1,u2,u3⟩
abbrev Ev:=Int×Int×Int×Int×Int
abbrev Ev.at (x:Ev):Int×Int:=(x.1,x.2.1)
abbrev Ev.num (x:Ev):Int:=x.2.2.1
abbrev Ev.ix (x:Ev):Int:=x.2.2.2.1
abbrev Ev.n (x:Ev):Nat:=x.2.2.2.1.toNat
theorem ao3 {x:Ev} {k:Nat} (h:x.ix<(k:Int)) (h0:0<=x.ix):x.n<k:=by show x.ix.toNat<k;omega
theorem ao4 {x y:Ev} (h0:0<=x.ix) (h1:0<=y.ix) (h:x.ix≠y.ix):x.n≠y.n:=by
 show x.ix.toNat≠y.ix.toNat
 omega
def less (x y:Ev):Prop:=kO (x.1,x.2.1) (y.1,y.2.1)<0\/(kO (x.1,x.2.1) (y.1,y.2.1)=0/\x.2.2.1<y.2.2.1)
theorem sB {a b:Int×Int}:kO a b<0↔a.1*b.2<b.1*a.2:=by unfold kO;rcases ef (a.1*b.2) (b.1*a.2) with ⟨h,e⟩|⟨h,e⟩|⟨h,e⟩<;>rw [e]<;>constructor<;>intro<;>omega
theorem Qh {a b:Int×Int}:kO a b=0↔a.1*b.2=b.1*a.2:=by unfold kO;rcases ef (a.1*b.2) (b.1*a.2) with ⟨h,e⟩|⟨h,e⟩|⟨h,e⟩<;>rw [e]<;>constructor<;>intro<;>omega
theorem nJ {x y:Ev} (h:less x y): ¬less y x:=by unfold less at*;rw [sB,Qh] at*;dsimp only at*;rintro (k|k)<;>rcases h with h|h<;>omega
theorem OG {a1 a2 b1 b2 c1 c2:Int} (ha:1<=a2) (hb:1<=b2) (hc:1<=c2) (h1:a1*b2<=b1*a2) (h2:b1*c2<=c1*b2):a1*c2<=c1*a2:=by
 have e1:a1*b2*c2<=b1*a2*c2:=IR h1 (by omega);have e2:b1*c2*a2<=c1*b2*a2:=IR h2 (by omega);have e3:(a1*c2)*b2<=(c1*a2)*b2:=by
  have r1:(a1*c2)*b2=a1*b2*c2:=by grind
  have r2:b1*a2*c2=b1*c2*a2:=by grind
  have r3:c1*b2*a2=(c1*a2)*b2:=by grind
  omega
 exact Int.le_of_mul_le_mul_right e3 (by omega)
theorem vp {a1 a2 b1 b2 c1 c2:Int} (ha:1<=a2) (hb:1<=b2) (hc:1<=c2) (h1:a1*b2<b1*a2) (h2:b1*c2<=c1*b2):a1*c2<c1*a2:=by
 have e1:a1*b2*c2<b1*a2*c2:=adG h1 (by omega);have e2:b1*c2*a2<=c1*b2*a2:=IR h2 (by omega);have e3:(a1*c2)*b2<(c1*a2)*b2:=by
  have r1:(a1*c2)*b2=a1*b2*c2:=by grind
  have r2:b1*a2*c2=b1*c2*a2:=by grind
  have r3:c1*b2*a2=(c1*a2)*b2:=by grind
  omega
 exact adL e3 (by omega)
theorem Gr {a1 a2 b1 b2 c1 c2:Int} (ha:1<=a2) (hb:1<=b2) (hc:1<=c2) (h1:a1*b2<=b1*a2) (h2:b1*c2<c1*b2):a1*c2<c1*a2:=by
 have e1:a1*b2*c2<=b1*a2*c2:=IR h1 (by omega);have e2:b1*c2*a2<c1*b2*a2:=adG h2 (by omega);have e3:(a1*c2)*b2<(c1*a2)*b2:=by
  have r1:(a1*c2)*b2=a1*b2*c2:=by grind
  have r2:b1*a2*c2=b1*c2*a2:=by grind
  have r3:c1*b2*a2=(c1*a2)*b2:=by grind
  omega
 exact adL e3 (by omega)
theorem wc {x y z:Ev} (hx:1<=x.2.1) (hy:1<=y.2.1) (hz:1<=z.2.1) (h1: ¬less y x) (h2: ¬less z y): ¬less z x:=by
 unfold less at*;rw [sB,Qh] at*;dsimp only at*;have t1:= @OG x.1 x.2.1 y.1 y.2.1 z.1 z.2.1 hx hy hz;have t2:= @vp x.1 x.2.1 y.1 y.2.1 z.1 z.2.1 hx hy hz;have t3:= @Gr x.1 x.2.1 y.1 y.2.1 z.1 z.2.1 hx hy hz;generalize x.1*y.2.1=p at*;generalize y.1*x.2.1=q at*;generalize y.1*z.2.1=r at*;generalize z.1*y.2.1=s at*;generalize x.1*z.2.1=u at*;generalize z.1*x.2.1=v at*;have a1:p<=q:=by omega
 have a2:r<=s:=by omega
 have a3:=t1 a1 a2;rintro (k|k)
 · omega
 by_cases b1:p<q
 · have:=t2 b1 a2;omega
 by_cases b2:r<s
 · have:=t3 a1 b2;omega
 omega
structure A' (n:Nat) (x:Ev) (M:Ev->Prop) (H:List Ev) (W:List Int) (i:Nat):Prop where
 lt:i<n
 hn:n<=aig H
 ix: ∀w,w<n->w≠i->0<=(H[w]!).ix/\(H[w]!).ix<aig W/\W[(H[w]!).n]! =(w:Int)/\(H[w]!).ix≠x.ix
 x0:0<=x.ix
 x1:x.ix<aig W
 mem: ∀e,(∃w,w<n/\w≠i/\H[w]! =e)↔M e
theorem A'.move {n:Nat} {x:Ev} {M:Ev->Prop} {H:List Ev} {W:List Int} {i j:Nat} (h:A' n x M H W i) (hj:j<n) (lL:j≠i):A' n x M (H.set i H[j]!) (W.set (H[j]!).n (i:Int)) j:=by
 have hn:=h.hn;have hi:=h.lt;obtain ⟨j1,j2,j3,j4⟩:=h.ix j hj lL;have cell: ∀w,(H.set i H[j]!)[w]! =if w=i then H[j]! else H[w]!:=by
  intro w;rw [aU]
  by_cases e:w=i
  · rw [ls ⟨e,by omega⟩,ls e]
  rw [lw (fun k=>e k.1),lw e]
 refine ⟨hj,by rw [pp];exact hn,?_,h.x0,by rw [pp];exact h.x1,?_⟩
 · intro w hw hwj
   rw [cell,pp]
   by_cases e:w=i
   · rw [ls e,aU,ls ⟨rfl,ao3 j2 j1⟩]
     exact ⟨j1,j2,by rw [e],j4⟩
   rw [lw e,aU]
   obtain ⟨k1,k2,k3,k4⟩:=h.ix w hw e;refine ⟨k1,k2,?_,k4⟩;rw [lw,k3];rintro ⟨c,_⟩;rw [c,j3] at k3;omega
 intro e
 rw [<- h.mem e];constructor
 · rintro ⟨w,hw,hwj,he⟩
   rw [cell] at he
   by_cases c:w=i
   · rw [ls c] at he;exact ⟨j,hj,lL,he⟩
   rw [lw c] at he;exact ⟨w,hw,c,he⟩
 rintro ⟨w,hw,J',he⟩
 by_cases c:w=j
 · refine ⟨i,hi,fun h=>lL h.symm,?_⟩
   rw [cell,ls rfl,<- c];exact he
 exact ⟨w,hw,c,by rw [cell,lw J'];exact he⟩
theorem A'.fill {n:Nat} {x:Ev} {M:Ev->Prop} {H:List Ev} {W:List Int} {i:Nat} (h:A' n x M H W i):
 (∀w,w<n->0<=((H.set i x)[w]!).ix/\((H.set i x)[w]!).ix<aig W/\(W.set x.n (i:Int))[((H.set i x)[w]!).n]! =(w:Int))/\
  (∀e,(∃w,w<n/\(H.set i x)[w]! =e)↔(e=x\/M e)):=by
 have hn:=h.hn;have hi:=h.lt;have x0:=h.x0;have x1:=h.x1;have cell: ∀w,(H.set i x)[w]! =if w=i then x else H[w]!:=by
  intro w;rw [aU]
  by_cases e:w=i
  · rw [ls ⟨e,by omega⟩,ls e]
  rw [lw (fun k=>e k.1),lw e]
 constructor
 · intro w hw
   rw [cell]
   by_cases e:w=i
   · rw [ls e,aU,ls ⟨rfl,ao3 x1 x0⟩]
     exact ⟨x0,x1,by rw [e]⟩
   rw [lw e,aU]
   obtain ⟨k1,k2,k3,k4⟩:=h.ix w hw e;exact ⟨k1,k2,by rw [lw (fun c=>ao4 k1 x0 k4 c.1),k3]⟩
 intro e
 rw [<- h.mem e];constructor
 · rintro ⟨w,hw,he⟩
   rw [cell] at he
   by_cases c:w=i
   · rw [ls c] at he;exact .inl he.symm
   rw [lw c] at he;exact .inr ⟨w,hw,c,he⟩
 rintro (he|⟨w,hw,J',he⟩)
 · exact ⟨i,hi,by rw [cell,ls rfl,he]⟩
 exact ⟨w,hw,by rw [cell,lw J'];exact he⟩
noncomputable def iW (x:Ev):Nat->List Ev->List Int->Nat×List Ev×List Int
 |0,H,W=>(0,H,W)
 |i+1,H,W=>if less x H[i / 2]! then iW x (i / 2) (H.set (i+1) H[i / 2]!) (W.set (H[i / 2]!).n ((i+1:Nat):Int)) else (i+1,H,W)
termination_by i=>i
decreasing_by omega
noncomputable def hO (n:Nat) (H:List Ev) (i:Nat):Nat:=if 2*i+2<n/\less H[2*i+2]! H[2*i+1]! then 2*i+2 else 2*i+1
theorem oi (n:Nat) (H:List Ev) (i:Nat):hO n H i=2*i+1\/(hO n H i=2*i+2/\2*i+2<n):=by
 unfold hO;split
 · rename_i h;exact .inr ⟨rfl,h.1⟩
 exact .inl rfl
noncomputable def eb (n:Nat) (x:Ev) (i:Nat) (H:List Ev) (W:List Int):Nat×List Ev×List Int:=
 if _h:2*i+1<n then
  if less H[hO n H i]! x then eb n x (hO n H i) (H.set i H[hO n H i]!) (W.set (H[hO n H i]!).n (i:Int)) else (i,H,W)
 else (i,H,W)
termination_by n-i
decreasing_by
 rcases oi n H i with h|h<;>omega
structure Ord (n:Nat) (H:List Ev) (i:Nat):Prop where
 den: ∀w,w<n->1<=(H[w]!).2.1
 ord: ∀k,0<k->k<n->k≠i->(k-1) / 2≠i-> ¬less H[k]! H[(k-1) / 2]!
 Mg:0<i-> ∀k,0<k->k<n->(k-1) / 2=i-> ¬less H[k]! H[(i-1) / 2]!
theorem EB {n : Nat} {x : Ev} {M : Ev -> Prop} (dx : 1 <= x.2.1) : ∀ (i : Nat) (H : List Ev) (W : List Int), A' n x M H W i -> Ord n H i ->
    ∃ j H1 W1, iW x i H W = (j, H1, W1) /\ A' n x M H1 W1 j /\ Ord n H1 j /\ (aig H1) = (aig H) /\ (aig W1) = (aig W) /\ (0 < j -> ¬ less x H1[(j - 1) / 2]!) /\
      (∀ k, n <= k -> H1[k]! = H[k]!) /\ (∀ k, (∀ w, w < n -> w ≠ i -> (H[w]!).n ≠ k) -> W1[k]! = W[k]!) /\
      ((∀ k, 0 < k -> k < n -> (k - 1) / 2 = i -> ¬ less H[k]! x) -> ∀ k, 0 < k -> k < n -> (k - 1) / 2 = j -> ¬ less H1[k]! x)
  | 0, H, W, h, o => ⟨0, H, W, by rw [iW], h, o, rfl, rfl, fun h => by omega, fun _ _ => rfl, fun _ _ => rfl, fun h => h⟩
  | i + 1, H, W, h, o => by
    rw [iW]
    by_cases hl : less x H[i / 2]!
    · rw [ls hl]
      have hi := h.lt
      have hn := h.hn
      have hp : i / 2 < n := by omega
      have dW : i / 2 ≠ i + 1 := by omega
      have hm := h.move hp dW
      have cell : ∀ w, (H.set (i + 1) H[i / 2]!)[w]! = if w = i + 1 then H[i / 2]! else H[w]! := by
        intro w
        rw [aU]
        by_cases e : w = i + 1
        · rw [ls ⟨e, by omega⟩, ls e]
        rw [lw (fun k => e k.1), lw e]
      have o' : Ord n (H.set (i + 1) H[i / 2]!) (i / 2) := by
        refine ⟨?_, ?_, ?_⟩
        · intro w hw
          rw [cell]
          split
          · exact o.den _ hp
          exact o.den _ hw
        · intro k k0 kn k1 k2
          rw [cell, cell]
          by_cases e : k = i + 1
          · subst e; exact absurd (by omega) k2
          rw [lw e]
          by_cases e2 : (k - 1) / 2 = i + 1
          · rw [ls e2]
            have := o.Mg (by omega) k k0 kn e2
            rwa [show (i + 1 - 1) / 2 = i / 2 by omega] at this
          rw [lw e2]
          exact o.ord k k0 kn e e2
        intro p0 k k0 kn k1
        rw [cell, cell, lw (show (i / 2 - 1) / 2 ≠ i + 1 by omega)]
        have up1 : ¬ less H[i / 2]! H[(i / 2 - 1) / 2]! := o.ord (i / 2) p0 hp dW (by omega)
        by_cases e : k = i + 1
        · rw [ls e]; exact up1
        rw [lw e]
        have up2 : ¬ less H[k]! H[i / 2]! := by
          have := o.ord k k0 kn e (by omega)
          rwa [k1] at this
        exact wc (o.den _ (by omega)) (o.den _ hp) (o.den _ kn) up1 up2
      obtain ⟨j, H1, W1, e1, e3, e4, e5, e6, e7, e8, e9, e10⟩ := EB dx (i / 2) _ _ hm o'
      rw [pp] at e5 e6
      refine ⟨j, H1, W1, e1, e3, e4, e5, e6, e7, ?_, ?_, ?_⟩
      · intro k hk
        rw [e8 k hk, cell, lw (by omega)]
      · intro k hk
        rw [e9 k ?_, aU, lw (fun c => hk (i / 2) hp dW c.1.symm)]
        intro w hw Ob
        rw [cell]
        split
        · exact hk (i / 2) hp dW
        rename_i e; exact hk w hw e
      intro _
      refine e10 fun k k0 kn k1 => ?_
      rw [cell]
      by_cases e : k = i + 1
      · rw [ls e]; exact nJ hl
      rw [lw e]
      have up2 : ¬ less H[k]! H[i / 2]! := by
        have := o.ord k k0 kn e (by omega)
        rwa [k1] at this
      exact wc dx (o.den _ hp) (o.den _ kn) (nJ hl) up2
    rw [lw hl]
    refine ⟨i + 1, H, W, rfl, h, o, rfl, rfl, fun _ => ?_, fun _ _ => rfl, fun _ _ => rfl, fun h => h⟩
    rwa [show (i + 1 - 1) / 2 = i / 2 by omega]
termination_by i=>i
decreasing_by omega
theorem RP {n:Nat} {x:Ev} {i:Nat} {H:List Ev} {W:List Int} (h: ∀k,0<k->k<n->(k-1) / 2=i-> ¬less H[k]! x):eb n x i H W=(i,H,W):=by
 rw [eb];split
 · rename_i hk
   rw [lw];rcases oi n H i with e|⟨e,e2⟩
   · rw [e];exact h _ (by omega) hk (by omega)
   rw [e];exact h _ (by omega) e2 (by omega)
 rfl
theorem IF {n : Nat} {x : Ev} {M : Ev -> Prop} (dx : 1 <= x.2.1) : ∀ (d i : Nat) (H : List Ev) (W : List Int), n - i <= d -> A' n x M H W i -> Ord n H i -> (0 < i -> ¬ less x H[(i - 1) / 2]!) ->
    ∃ j H1 W1, eb n x i H W = (j, H1, W1) /\ A' n x M H1 W1 j /\ Ord n H1 j /\ (aig H1) = (aig H) /\ (aig W1) = (aig W) /\ (0 < j -> ¬ less x H1[(j - 1) / 2]!) /\
      (∀ k, n <= k -> H1[k]! = H[k]!) /\ (∀ k, (∀ w, w < n -> w ≠ i -> (H[w]!).n ≠ k) -> W1[k]! = W[k]!) /\ (∀ k, 0 < k -> k < n -> (k - 1) / 2 = j -> ¬ less H1[k]! x)
  | 0, i, H, W, hd, h, o, u => by have := h.lt; omega
  | d + 1, i, H, W, hd, h, o, u => by
    have hi := h.lt
    have hn := h.hn
    rw [eb]
    by_cases hk : 2 * i + 1 < n
    · rw [dif_pos hk]
      have kc := oi n H i
      have kn : hO n H i < n := by omega
      have kne : hO n H i ≠ i := by omega
      have kp : (hO n H i - 1) / 2 = i := by omega
      have kb : ∀ k, 0 < k -> k < n -> (k - 1) / 2 = i -> ¬ less H[k]! H[hO n H i]! := by
        intro k k0 k1 k2
        have kk : k = 2 * i + 1 \/ k = 2 * i + 2 := by omega
        unfold hO
        split
        · rename_i hc
          rcases kk with e | e
          · rw [e]; exact nJ hc.2
          rw [e]; exact fun h => nJ h h
        rename_i hc
        rcases kk with e | e
        · rw [e]; exact fun h => nJ h h
        rw [e] at k1 ⊢; exact fun h => hc ⟨k1, h⟩
      by_cases hl : less H[hO n H i]! x
      · rw [ls hl]
        have hm := h.move kn kne
        have cell : ∀ w, (H.set i H[hO n H i]!)[w]! = if w = i then H[hO n H i]! else H[w]! := by
          intro w
          rw [aU]
          by_cases e : w = i
          · rw [ls ⟨e, by omega⟩, ls e]
          rw [lw (fun k => e k.1), lw e]
        have o' : Ord n (H.set i H[hO n H i]!) (hO n H i) := by
          refine ⟨?_, ?_, ?_⟩
          · intro w hw
            rw [cell]
            split
            · exact o.den _ kn
            exact o.den _ hw
          · intro k k0 k1 k2 k3
            rw [cell, cell]
            by_cases e : k = i
            · rw [ls e, lw (by omega)]
              have := o.Mg (by omega) (hO n H i) (by omega) kn kp
              rwa [e]
            rw [lw e]
            by_cases e2 : (k - 1) / 2 = i
            · rw [ls e2]; exact kb k k0 k1 e2
            rw [lw e2]; exact o.ord k k0 k1 e e2
          intro _ k k0 k1 k2
          rw [cell, cell, ls kp, lw (by omega)]
          have := o.ord k k0 k1 (by omega) (by omega)
          rwa [k2] at this
        obtain ⟨j, H1, W1, e1, e3, e4, e5, e6, e7, e8, e9, e10⟩ := IF dx d (hO n H i) _ _ (by omega) hm o' (by
          intro _
          rw [cell, ls kp]
          exact nJ hl)
        rw [pp] at e5 e6
        refine ⟨j, H1, W1, e1, e3, e4, e5, e6, e7, ?_, ?_, e10⟩
        · intro k hk
          rw [e8 k hk, cell, lw (by omega)]
        intro k hk
        rw [e9 k ?_, aU, lw (fun c => hk (hO n H i) kn kne c.1.symm)]
        intro w hw Ob
        rw [cell]
        split
        · exact hk (hO n H i) kn kne
        rename_i e; exact hk w hw e
      rw [lw hl]
      refine ⟨i, H, W, rfl, h, o, rfl, rfl, u, fun _ _ => rfl, fun _ _ => rfl, ?_⟩
      intro k k0 k1 k2
      exact wc dx (o.den _ kn) (o.den _ k1) hl (kb k k0 k1 k2)
    rw [dif_neg hk]
    refine ⟨i, H, W, rfl, h, o, rfl, rfl, u, fun _ _ => rfl, fun _ _ => rfl, ?_⟩
    intro k k0 k1 k2
    omega
structure zI (n:Nat) (x:Ev) (M:Ev->Prop) (K:Nat->Prop) (H:List Ev) (W:List Int) (H1:List Ev) (W1:List Int):Prop where
 hl:(aig H1)=aig H
 wl:(aig W1)=aig W
 ix: ∀w,w<n->0<=(H1[w]!).ix/\(H1[w]!).ix<aig W/\W1[(H1[w]!).n]! =(w:Int)
 mem: ∀e,(∃w,w<n/\H1[w]! =e)↔(e=x\/M e)
 ord: ∀k,0<k->k<n-> ¬less H1[k]! H1[(k-1) / 2]!
 out: ∀k,K k->W1[k]! =W[k]!
theorem Ka {n:Nat} {x:Ev} {M:Ev->Prop} {H H1:List Ev} {W W1:List Int} {i j:Nat} (h1:A' n x M H1 W1 j) (o1:Ord n H1 j) (hl:(aig H1)=aig H) (wl:(aig W1)=aig W)
 (u:0<j-> ¬less x H1[(j-1) / 2]!) (kd: ∀k,0<k->k<n->(k-1) / 2=j-> ¬less H1[k]! x) (out: ∀k,(∀w,w<n->w≠i->(H[w]!).n≠k)->W1[k]! =W[k]!):
 zI n x M (fun k=>k≠x.n/\ ∀w,w<n->w≠i->(H[w]!).n≠k) H W (H1.set j x) (W1.set x.n (j:Int)):=by
 have hn:=h1.hn;have hj:=h1.lt;have f:=h1.fill;have cell: ∀w,(H1.set j x)[w]! =if w=j then x else H1[w]!:=by
  intro w;rw [aU]
  by_cases e:w=j
  · rw [ls ⟨e,by omega⟩,ls e]
  rw [lw (fun k=>e k.1),lw e]
 refine ⟨by rw [pp];exact hl,by rw [pp];exact wl,?_,f.2,?_,?_⟩
 · rw [<- wl];exact f.1
 · intro k k0 kn
   rw [cell,cell]
   by_cases e:k=j
   · rw [ls e,lw (by omega),e];exact u (by omega)
   rw [lw e]
   by_cases e2:(k-1) / 2=j
   · rw [ls e2];exact kd k k0 kn e2
   rw [lw e2];exact o1.ord k k0 kn e e2
 rintro k ⟨k1,k2⟩
 rw [aU,lw (fun c=>k1 c.1)];exact out k k2
noncomputable def cJ (n:Nat) (x:Ev) (i:Nat) (H:List Ev) (W:List Int):List Ev×List Int:=
 let u:=iW x i H W
 let d:=eb n x u.1 u.2.1 u.2.2
 (d.2.1.set d.1 x,d.2.2.set x.n (d.1:Int))
theorem yR {n:Nat} {x:Ev} {M:Ev->Prop} (dx:1<=x.2.1) {i:Nat} {H:List Ev} {W:List Int} (h:A' n x M H W i) (o:Ord n H i):
 zI n x M (fun k=>k≠x.n/\ ∀w,w<n->w≠i->(H[w]!).n≠k) H W (cJ n x i H W).1 (cJ n x i H W).2:=by
 obtain ⟨j,H1,W1,e1,e3,e4,e5,e6,e7,e8,e9,e10⟩:=EB dx i H W h o;obtain ⟨k,H2,W2,f1,f3,f4,f5,f6,f7,f8,f9,f10⟩:=IF dx n j H1 W1 (by omega) e3 e4 e7;have e:cJ n x i H W=(H2.set k x,W2.set x.n (k:Int)):=by unfold cJ;rw [e1];dsimp only;rw [f1]
 rw [e];refine Ka f3 f4 (by omega) (by omega) f7 f10 ?_;intro c hc;rw [f9 c ?_,e9 c hc];intro w hw hwj hcw;have hm:M H1[w]!:=(e3.mem _).1 ⟨w,hw,hwj,rfl⟩;obtain ⟨v,v1,v2,v3⟩:=(h.mem _).2 hm;exact hc v v1 v2 (by rw [v3];exact hcw)
theorem Mh {n:Nat} {x:Ev} {M:Ev->Prop} (dx:1<=x.2.1) {i:Nat} {H:List Ev} {W:List Int} (h:A' n x M H W i) (o:Ord n H i) (hk: ∀k,0<k->k<n->(k-1) / 2=i-> ¬less H[k]! x):
 cJ n x i H W=((iW x i H W).2.1.set (iW x i H W).1 x,(iW x i H W).2.2.set x.n ((iW x i H W).1:Int)):=by
 obtain ⟨j,H1,W1,e1,e3,e4,e5,e6,e7,e8,e9,e10⟩:=EB dx i H W h o;unfold cJ;rw [e1];dsimp only;rw [RP (e10 hk)]
def pQ (x:Ev):Prop:=bK (x.1,x.2.1)/\lM (x.1,x.2.1)/\0<=x.2.2.1/\x.2.2.1<=1000000
theorem pQ.den {x:Ev} (h:pQ x):1<=x.2.1:=h.1.1
noncomputable def Gs (x y:Ev):Int:=if kO (x.1,x.2.1) (y.1,y.2.1)≠0 then kO (x.1,x.2.1) (y.1,y.2.1) else jJ x.2.2.1 y.2.2.1
theorem Cf (x y:Ev):Gs x y<0↔less x y:=by
 unfold Gs less
 by_cases h:kO (x.1,x.2.1) (y.1,y.2.1)=0
 · rw [lw (by simpa using h),h]
   rcases ef x.2.2.1 y.2.2.1 with ⟨h1,e⟩|⟨h1,e⟩|⟨h1,e⟩<;>rw [e]<;>constructor<;>intro<;>omega
 rw [ls h];constructor<;>intro<;>omega
theorem dN {x y:Ev} (hx:pQ x) (hy:pQ y):cE x y=ajg (Gs x y):=by unfold cE Gs;rw [Gg hx.2.1 hy.2.1,ls ⟨hx.1,hy.1⟩];simp only [aj,kq,zG]
theorem nu {x y:Ev} (hx:pQ x) (hy:pQ y):eC x y=ajg (ajj (less x y)):=by
 unfold eC less;rw [A8 hx.2.1 hy.2.1];simp only [aj];generalize kO (x.1,x.2.1) (y.1,y.2.1)=c
 by_cases h1:c<0
 · simp [h1]
 by_cases h2:c=0
 · subst h2;simp
 simp only [h1,dR h2,h2,decide_false,lm,false_or,false_and]
theorem Dn {x y:Ev}:ajj (Gs x y<0)=ajj (less x y):=by simp only [Cf]
theorem Kb {x y:Ev}:ajj (0<=Gs x y)=!ajj (less x y):=by
 have:=Cf x y
 by_cases h:less x y
 · have h2:=this.2 h
   have: ¬0<=Gs x y:=by omega
   simp [h,this]
 have h2: ¬Gs x y<0:=fun k=>h (this.1 k)
 have:0<=Gs x y:=by omega
 simp [h,this]
structure mr (n:Nat) (H:List Ev) (W:List Int):Prop where
 hn:n<=aig H
 hb:(aig H)<=1000000
 ev: ∀w,w<n->pQ H[w]!/\0<=(H[w]!).ix/\(H[w]!).ix<aig W
theorem mr.move {n:Nat} {H:List Ev} {W:List Int} (c:mr n H W) {i j:Nat} (_hi:i<n) (hj:j<n) (k:Nat) (v:Int):mr n (H.set i H[j]!) (W.set k v):=by
 have hn:=c.hn;refine ⟨by rw [pp];exact hn,by rw [pp];exact c.hb,?_⟩;intro w hw;rw [aU,pp];split
 · exact c.ev j hj
 exact c.ev w hw
theorem EC {H:List Ev} {W:List Int} {x:Ev} {u fr:List Int} {us:List Bool} {i:Nat} (hi:i<aig H) (h0:0<=x.ix) (h1:x.ix<aig W):
 cq (u,us,fr,(i:Int),x.1,x.2.1,x.2.2.1,x.2.2.2.1,x.2.2.2.2,H,W)=ajg (H.set i x,W.set x.n (i:Int)):=by
 unfold cq;have e1:=ax H i hi;have e2:=dS (l:=W) h0 h1;simp only [e1,e2,aj,vV,beq_self_eq_true,lc];rfl
theorem ED {n cap:Nat} {H:List Ev} {W:List Int} {x:Ev} {u fr:List Int} {us:List Bool} {i:Nat} (hi:i<n) (hn:n<=aig H) (h0:0<=x.ix) (h1:x.ix<aig W):
 cm (u,us,fr,n,cap,(i:Int),x.1,x.2.1,x.2.2.1,x.2.2.2.1,x.2.2.2.2,H,W)=ajg (H.set i x,W.set x.n (i:Int)):=by
 unfold cm;have e1:=ax (H.take n) i (by rw [ad6];omega);have e2:=dS (l:=W) h0 h1;simp only [e1,e2,aj,vV,beq_self_eq_true,lc];rfl
theorem rF {i:Nat} (h:i<1000000000):aa .i64 (aej (aa .i64 (((i+1:Nat):Int) -1)) 2)=((i / 2:Nat):Int):=by
 have e:aa .i64 (((i+1:Nat):Int) -1)=(i:Int):=by rw [wi];omega
 rw [e,adJ (by omega),wi];omega
theorem vq {i:Nat} (h:i<1000000000):aa .i64 ((aa .i64 (2*(i:Int)))+1)=((2*i+1:Nat):Int):=by
 have e:aa .i64 (2*(i:Int))=((2*i:Nat):Int):=by rw [wi];omega
 rw [e,wi];omega
theorem yS {n:Nat} {x:Ev}: ∀{i:Nat} {H:List Ev} {W:List Int} {j:Nat} {H1:List Ev} {W1:List Int},mr n H W->i<n->iW x i H W=(j,H1,W1)-> ∀w,w<n->pQ H1[w]!/\0<=(H1[w]!).ix/\(H1[w]!).ix<aig W
 |0,H,W,j,H1,W1,c,hi,e=>by rw [iW] at e;injection e with e1 e;injection e with e2 e3;subst e2;exact c.ev
 |i+1,H,W,j,H1,W1,c,hi,e=>by
  rw [iW] at e;split at e
  · have:=yS (c.move hi (show i / 2<n by omega) (H[i / 2]!).n ((i+1:Nat):Int)) (by omega) e
    rw [pp] at this;exact this
  injection e with e1 e;injection e with e2 e3
  subst e2;exact c.ev
termination_by i=>i
decreasing_by omega
theorem OH {c0:List Int×List Bool×List Int×Int×Int×Int×Int×Int×Int×List Ev×List Int} {n i:Nat} {H:List Ev} {W:List Int} {u fr:List Int} {us:List Bool} {x:Ev}
 (c:mr n H W) (hn:(aig H)=n) (hi:i<n) (hx:pQ x) (x0:0<=x.ix) (x1:x.ix<aig W) (l1:(aig c0.2.2.2.2.2.2.2.2.2.1)=n) (l2:(aig c0.2.2.2.2.2.2.2.2.2.2)=aig W):
 ga c0 ((i:Int),((2*i+1:Nat):Int),H,W,u,us,fr,x)=
  ajg (if 2*i+1<n/\less H[hO n H i]! x then .next (((hO n H i:Nat):Int),((2*hO n H i+1:Nat):Int),H.set i H[hO n H i]!,W.set (H[hO n H i]!).n (i:Int),u,us,fr,x)
   else .done (.done (H.set i x,W.set x.n (i:Int)))):=by
 have hb:=c.hb;have fin:(cq (u,us,fr,(i:Int),x.1,x.2.1,x.2.2.1,x.2.2.2.1,x.2.2.2.2,H,W))=ajg (H.set i x,W.set x.n (i:Int)):=EC (by omega) x0 x1;have ln1:(H.set i x).length=(aig c0.2.2.2.2.2.2.2.2.2.1):=by rw [pp];omega
 have ln2:(W.set x.n (i:Int)).length=(aig c0.2.2.2.2.2.2.2.2.2.2):=by rw [pp];omega
 unfold ga;simp only [aA,hn,fin,aj,ln1,ln2,beq_self_eq_true,lc]
 by_cases h1:2*i+1<n
 · have e1:ajj (((2*i+1:Nat):Int)<(n:Int))=ajh:=by simp;omega
   have e2:aa .i64 (((2*i+1:Nat):Int)+1)=((2*i+2:Nat):Int):=aV (by omega);obtain ⟨Ba,a1,a2⟩:=c.ev (2*i+1) h1;have g1:=ax H (2*i+1) (by omega);have s1:(cq (u,us,fr,(i:Int),(H[2*i+1]!).1,(H[2*i+1]!).2.1,(H[2*i+1]!).2.2.1,(H[2*i+1]!).2.2.2.1,(H[2*i+1]!).2.2.2.2,H,W))=ajg (H.set i H[2*i+1]!,W.set (H[2*i+1]!).n (i:Int)):=EC (by omega) a1 a2;simp only [e1,e2,lc,g1,aj,s1,dN Ba hx,Kb,vq (show 2*i+1<1000000000 by omega)]
   by_cases h2:2*i+2<n
   · have e3:ajj (((2*i+2:Nat):Int)<(n:Int))=ajh:=by simp;omega
     obtain ⟨Vg,b1,b2⟩:=c.ev (2*i+2) h2;have g2:=ax H (2*i+2) (by omega);have s2:(cq (u,us,fr,(i:Int),(H[2*i+2]!).1,(H[2*i+2]!).2.1,(H[2*i+2]!).2.2.1,(H[2*i+2]!).2.2.2.1,(H[2*i+2]!).2.2.2.2,H,W))=ajg (H.set i H[2*i+2]!,W.set (H[2*i+2]!).n (i:Int)):=EC (by omega) b1 b2;simp only [e3,lc,g2,aj,s2,dN Vg hx,dN Vg Ba,Dn,Kb,vq (show 2*i+2<1000000000 by omega)]
     by_cases h3:less H[2*i+2]! H[2*i+1]!
     · have k:hO n H i=2*i+2:=by unfold hO;rw [ls ⟨h2,h3⟩]
       rw [k]
       by_cases h4:less H[2*i+2]! x
       · simp only [h1,h3,h4,decide_true,lc,lm,EQ,and_self,if_true]
       simp only [h1,h3,h4,decide_true,decide_false,lc,AC,and_false,if_false]
     have k:hO n H i=2*i+1:=by unfold hO;rw [lw (fun h=>h3 h.2)]
     rw [k]
     by_cases h4:less H[2*i+1]! x
     · simp only [h1,h3,h4,decide_true,decide_false,lm,EQ,and_self,if_true]
     simp only [h1,h3,h4,decide_false,lc,lm,AC,and_false,if_false]
   have e3:ajj (((2*i+2:Nat):Int)<(n:Int))=aji:=by simp;omega
   have k:hO n H i=2*i+1:=by unfold hO;rw [lw (fun h=>h2 h.1)]
   rw [k];simp only [e3,lm]
   by_cases h4:less H[2*i+1]! x
   · simp only [h1,h4,decide_true,lm,EQ,and_self,if_true]
   simp only [h1,h4,decide_false,lc,AC,and_false,if_false]
 have e1:ajj (((2*i+1:Nat):Int)<(n:Int))=aji:=by simp;omega
 rw [lw (fun h=>h1 h.1),e1];rfl
theorem xq {c0 : List Int × List Bool × List Int × Int × Int × Int × Int × Int × Int × List Ev × List Int} {n : Nat} {u fr : List Int} {us : List Bool} {x : Ev} (hx : pQ x) (x0 : 0 <= x.ix) (l1 : (aig c0.2.2.2.2.2.2.2.2.2.1) = n) :
    ∀ (d i : Nat) (H : List Ev) (W : List Int), n - i <= d -> mr n H W -> (aig H) = n -> i < n -> x.ix < (aig W) -> (aig c0.2.2.2.2.2.2.2.2.2.2) = (aig W) ->
      ay (ga c0) ((i : Int), ((2 * i + 1 : Nat) : Int), H, W, u, us, fr, x) = ajg (.done ((eb n x i H W).2.1.set (eb n x i H W).1 x, (eb n x i H W).2.2.set x.n ((eb n x i H W).1 : Int)))
  | 0, i, H, W, hd, c, hn, hi, x1, l2 => by omega
  | d + 1, i, H, W, hd, c, hn, hi, x1, l2 => by
    have r := OH (u := u) (us := us) (fr := fr) c hn hi hx x0 x1 l1 l2
    by_cases h : 2 * i + 1 < n /\ less H[hO n H i]! x
    · rw [ls h] at r
      have kc := oi n H i
      have kn : hO n H i < n := by omega
      rw [aT r, xq hx x0 l1 d (hO n H i) _ _ (by omega) (c.move hi kn _ _) (by rw [pp]; exact hn) kn (by rw [pp]; exact x1) (by rw [pp]; exact l2)]
      have e : eb n x i H W = eb n x (hO n H i) (H.set i H[hO n H i]!) (W.set (H[hO n H i]!).n (i : Int)) := by
        rw [eb, dif_pos h.1, ls h.2]
      rw [e]
    rw [lw h] at r
    rw [aI r]
    have e : eb n x i H W = (i, H, W) := by
      rw [eb]
      split
      · rename_i h1; rw [lw (fun k => h ⟨h1, k⟩)]
      rfl
    rw [e]
theorem Gt {c0 : List Int × List Bool × List Int × Int × Int × Int × Int × Int × Int × List Ev × List Int} {n : Nat} {u fr : List Int} {us : List Bool} {x : Ev} (hx : pQ x) (x0 : 0 <= x.ix) (l1 : (aig c0.2.2.2.2.2.2.2.2.2.1) = n) :
    ∀ (i : Nat) (H : List Ev) (W : List Int), mr n H W -> (aig H) = n -> i < n -> x.ix < (aig W) -> (aig c0.2.2.2.2.2.2.2.2.2.2) = (aig W) ->
      ay (eT c0) ((i : Int), H, W, u, us, fr, x) = ajg (cJ n x i H W)
  | 0, H, W, c, hn, hi, x1, l2 => by
    have hb := c.hb
    have dn := xq (u := u) (us := us) (fr := fr) hx x0 l1 n 0 H W (by omega) c hn hi x1 l2
    refine (aI (r := cJ n x 0 H W) ?_)
    unfold eT
    have e1 : ajj ((0 : Int) < ((0 : Nat) : Int)) = aji := by simp
    simp only [e1, lm, vq (show 0 < 1000000000 by omega)]
    rw [dn]
    unfold cJ
    rw [iW]
  | i + 1, H, W, c, hn, hi, x1, l2 => by
    have hb := c.hb
    have e1 : ajj ((0 : Int) < ((i + 1 : Nat) : Int)) = ajh := decide_eq_true (by omega)
    have hp : i / 2 < n := by omega
    obtain ⟨Ba, a1, a2⟩ := c.ev (i / 2) hp
    have g1 := ax H (i / 2) (by omega)
    have s1 : (cq (u, us, fr, ((i + 1 : Nat) : Int), (H[i / 2]!).1, (H[i / 2]!).2.1, (H[i / 2]!).2.2.1, (H[i / 2]!).2.2.2.1, (H[i / 2]!).2.2.2.2, H, W)) = ajg (H.set (i + 1) H[i / 2]!, W.set (H[i / 2]!).n ((i + 1 : Nat) : Int)) := EC (by omega) a1 a2
    by_cases h : less x H[i / 2]!
    · have r : eT c0 (((i + 1 : Nat) : Int), H, W, u, us, fr, x) = ajg (.next (((i / 2 : Nat) : Int), H.set (i + 1) H[i / 2]!, W.set (H[i / 2]!).n ((i + 1 : Nat) : Int), u, us, fr, x)) := by
        unfold eT
        simp only [e1, lc, rF (show i < 1000000000 by omega), g1, aj, dN hx Ba, Dn, h, decide_true, s1]
      rw [aT r, Gt hx x0 l1 (i / 2) _ _ (c.move hi hp _ _) (by rw [pp]; exact hn) hp (by rw [pp]; exact x1) (by rw [pp]; exact l2)]
      have e : iW x (i + 1) H W = iW x (i / 2) (H.set (i + 1) H[i / 2]!) (W.set (H[i / 2]!).n ((i + 1 : Nat) : Int)) := by
        rw [iW, ls h]
      unfold cJ
      rw [e]
    have dn := xq (u := u) (us := us) (fr := fr) hx x0 l1 n (i + 1) H W (by omega) c hn hi x1 l2
    refine (aI (r := cJ n x (i + 1) H W) ?_)
    unfold eT
    simp only [e1, lc, rF (show i < 1000000000 by omega), g1, aj, dN hx Ba, Dn, h, decide_false, lm, vq (show i + 1 < 1000000000 by omega)]
    rw [dn]
    unfold cJ
    rw [iW, lw h]
termination_by i=>i
decreasing_by omega
theorem Gu {n:Nat} {u fr:List Int} {us:List Bool} {x:Ev} (hx:pQ x) (x0:0<=x.ix) {i:Nat} {H:List Ev} {W:List Int} (c:mr n H W) (hn:(aig H)=n) (hi:i<n) (x1:x.ix<aig W):
 fb (u,us,fr,(i:Int),x.1,x.2.1,x.2.2.1,x.2.2.2.1,x.2.2.2.2,H,W)=ajg (cJ n x i H W):=by
 unfold fb;exact Gt hx x0 hn i H W c hn hi x1 rfl
theorem gb {l:List Ev} {n i:Nat} (h:i<n) (hn:n<=aig l):aH (l.take n) (i:Int)=ajg l[i]!:=by rw [ax (l.take n) i (by rw [ad6];omega),je h]
theorem OI {c0:List Int×List Bool×List Int×Nat×Nat×Int×Int×Int×Int×Int×Int×List Ev×List Int} {n cap i:Nat} {H:List Ev} {W:List Int} {u fr:List Int} {us:List Bool} {x:Ev}
 (c:mr n H W) (hi:i<n) (hx:pQ x) (x0:0<=x.ix) (x1:x.ix<aig W) (l1:(aig c0.2.2.2.2.2.2.2.2.2.2.2.1)=aig H) (l2:(aig c0.2.2.2.2.2.2.2.2.2.2.2.2)=aig W):
 fZ c0 ((i:Int),((2*i+1:Nat):Int),H,W,u,us,fr,n,cap,x)=
  ajg (if 2*i+1<n/\less H[hO n H i]! x then .next (((hO n H i:Nat):Int),((2*hO n H i+1:Nat):Int),H.set i H[hO n H i]!,W.set (H[hO n H i]!).n (i:Int),u,us,fr,n,cap,x)
   else .done (.done (H.set i x,W.set x.n (i:Int)))):=by
 have hb:=c.hb;have RQ:=c.hn;have fin:(cm (u,us,fr,n,cap,(i:Int),x.1,x.2.1,x.2.2.1,x.2.2.2.1,x.2.2.2.2,H,W))=ajg (H.set i x,W.set x.n (i:Int)):=ED (cap:=cap) (by omega) c.hn x0 x1;have ln1:(H.set i x).length=(aig c0.2.2.2.2.2.2.2.2.2.2.2.1):=by rw [pp];omega
 have ln2:(W.set x.n (i:Int)).length=(aig c0.2.2.2.2.2.2.2.2.2.2.2.2):=by rw [pp];omega
 unfold fZ;simp only [aA,fin,aj,ln1,ln2,beq_self_eq_true,lc]
 by_cases h1:2*i+1<n
 · have e1:ajj (((2*i+1:Nat):Int)<(n:Int))=ajh:=by simp;omega
   have e2:aa .i64 (((2*i+1:Nat):Int)+1)=((2*i+2:Nat):Int):=aV (by omega);obtain ⟨Ba,a1,a2⟩:=c.ev (2*i+1) h1;have g1:=gb (l:=H) (n:=n) (i:=2*i+1) (by omega) c.hn;have s1:(cm (u,us,fr,n,cap,(i:Int),(H[2*i+1]!).1,(H[2*i+1]!).2.1,(H[2*i+1]!).2.2.1,(H[2*i+1]!).2.2.2.1,(H[2*i+1]!).2.2.2.2,H,W))=ajg (H.set i H[2*i+1]!,W.set (H[2*i+1]!).n (i:Int)):=ED (cap:=cap) (by omega) c.hn a1 a2;simp only [e1,e2,lc,g1,aj,s1,dN Ba hx,Kb,vq (show 2*i+1<1000000000 by omega)]
   by_cases h2:2*i+2<n
   · have e3:ajj (((2*i+2:Nat):Int)<(n:Int))=ajh:=by simp;omega
     obtain ⟨Vg,b1,b2⟩:=c.ev (2*i+2) h2;have g2:=gb (l:=H) (n:=n) (i:=2*i+2) (by omega) c.hn;have s2:(cm (u,us,fr,n,cap,(i:Int),(H[2*i+2]!).1,(H[2*i+2]!).2.1,(H[2*i+2]!).2.2.1,(H[2*i+2]!).2.2.2.1,(H[2*i+2]!).2.2.2.2,H,W))=ajg (H.set i H[2*i+2]!,W.set (H[2*i+2]!).n (i:Int)):=ED (cap:=cap) (by omega) c.hn b1 b2;simp only [e3,lc,g2,aj,s2,dN Vg hx,dN Vg Ba,Dn,Kb,vq (show 2*i+2<1000000000 by omega)]
     by_cases h3:less H[2*i+2]! H[2*i+1]!
     · have k:hO n H i=2*i+2:=by unfold hO;rw [ls ⟨h2,h3⟩]
       rw [k]
       by_cases h4:less H[2*i+2]! x
       · simp only [h1,h3,h4,decide_true,lc,lm,EQ,and_self,if_true]
       simp only [h1,h3,h4,decide_true,decide_false,lc,AC,and_false,if_false]
     have k:hO n H i=2*i+1:=by unfold hO;rw [lw (fun h=>h3 h.2)]
     rw [k]
     by_cases h4:less H[2*i+1]! x
     · simp only [h1,h3,h4,decide_true,decide_false,lm,EQ,and_self,if_true]
     simp only [h1,h3,h4,decide_false,lc,lm,AC,and_false,if_false]
   have e3:ajj (((2*i+2:Nat):Int)<(n:Int))=aji:=by simp;omega
   have k:hO n H i=2*i+1:=by unfold hO;rw [lw (fun h=>h2 h.1)]
   rw [k];simp only [e3,lm]
   by_cases h4:less H[2*i+1]! x
   · simp only [h1,h4,decide_true,lm,EQ,and_self,if_true]
   simp only [h1,h4,decide_false,lc,AC,and_false,if_false]
 have e1:ajj (((2*i+1:Nat):Int)<(n:Int))=aji:=by simp;omega
 rw [lw (fun h=>h1 h.1),e1];rfl
theorem xt {c0 : List Int × List Bool × List Int × Nat × Nat × Int × Int × Int × Int × Int × Int × List Ev × List Int} {n cap : Nat} {u fr : List Int} {us : List Bool} {x : Ev} (hx : pQ x) (x0 : 0 <= x.ix) :
    ∀ (d i : Nat) (H : List Ev) (W : List Int), n - i <= d -> mr n H W -> (aig c0.2.2.2.2.2.2.2.2.2.2.2.1) = (aig H) -> i < n -> x.ix < (aig W) -> (aig c0.2.2.2.2.2.2.2.2.2.2.2.2) = (aig W) ->
      ay (fZ c0) ((i : Int), ((2 * i + 1 : Nat) : Int), H, W, u, us, fr, n, cap, x) = ajg (.done ((eb n x i H W).2.1.set (eb n x i H W).1 x, (eb n x i H W).2.2.set x.n ((eb n x i H W).1 : Int)))
  | 0, i, H, W, hd, c, hn, hi, x1, l2 => by omega
  | d + 1, i, H, W, hd, c, hn, hi, x1, l2 => by
    have r := OI (u := u) (us := us) (fr := fr) (cap := cap) c hi hx x0 x1 hn l2
    by_cases h : 2 * i + 1 < n /\ less H[hO n H i]! x
    · rw [ls h] at r
      have kc := oi n H i
      have kn : hO n H i < n := by omega
      rw [aT r, xt hx x0 d (hO n H i) _ _ (by omega) (c.move hi kn _ _) (by rw [pp]; exact hn) kn (by rw [pp]; exact x1) (by rw [pp]; exact l2)]
      have e : eb n x i H W = eb n x (hO n H i) (H.set i H[hO n H i]!) (W.set (H[hO n H i]!).n (i : Int)) := by
        rw [eb, dif_pos h.1, ls h.2]
      rw [e]
    rw [lw h] at r
    rw [aI r]
    have e : eb n x i H W = (i, H, W) := by
      rw [eb]
      split
      · rename_i h1; rw [lw (fun k => h ⟨h1, k⟩)]
      rfl
    rw [e]
theorem Gv {c0 : List Int × List Bool × List Int × Nat × Nat × Int × Int × Int × Int × Int × Int × List Ev × List Int} {n cap : Nat} {u fr : List Int} {us : List Bool} {x : Ev} (hx : pQ x) (x0 : 0 <= x.ix) :
    ∀ (i : Nat) (H : List Ev) (W : List Int), mr n H W -> (aig c0.2.2.2.2.2.2.2.2.2.2.2.1) = (aig H) -> i < n -> x.ix < (aig W) -> (aig c0.2.2.2.2.2.2.2.2.2.2.2.2) = (aig W) ->
      ay (eS c0) ((i : Int), H, W, u, us, fr, n, cap, x) = ajg (cJ n x i H W)
  | 0, H, W, c, hn, hi, x1, l2 => by
    have hb := c.hb
    have RQ := c.hn
    have dn := xt (u := u) (us := us) (fr := fr) (cap := cap) hx x0 n 0 H W (by omega) c hn hi x1 l2
    refine (aI (r := cJ n x 0 H W) ?_)
    unfold eS
    have e1 : ajj ((0 : Int) < ((0 : Nat) : Int)) = aji := by simp
    simp only [e1, lm, vq (show 0 < 1000000000 by omega)]
    rw [dn]
    unfold cJ
    rw [iW]
  | i + 1, H, W, c, hn, hi, x1, l2 => by
    have hb := c.hb
    have RQ := c.hn
    have e1 : ajj ((0 : Int) < ((i + 1 : Nat) : Int)) = ajh := decide_eq_true (by omega)
    have hp : i / 2 < n := by omega
    obtain ⟨Ba, a1, a2⟩ := c.ev (i / 2) hp
    have g1 := gb (l := H) (n := n) (i := i / 2) (by omega) c.hn
    have s1 : (cm (u, us, fr, n, cap, ((i + 1 : Nat) : Int), (H[i / 2]!).1, (H[i / 2]!).2.1, (H[i / 2]!).2.2.1, (H[i / 2]!).2.2.2.1, (H[i / 2]!).2.2.2.2, H, W)) = ajg (H.set (i + 1) H[i / 2]!, W.set (H[i / 2]!).n ((i + 1 : Nat) : Int)) := ED (cap := cap) (by omega) c.hn a1 a2
    by_cases h : less x H[i / 2]!
    · have r : eS c0 (((i + 1 : Nat) : Int), H, W, u, us, fr, n, cap, x) = ajg (.next (((i / 2 : Nat) : Int), H.set (i + 1) H[i / 2]!, W.set (H[i / 2]!).n ((i + 1 : Nat) : Int), u, us, fr, n, cap, x)) := by
        unfold eS
        simp only [e1, lc, rF (show i < 1000000000 by omega), g1, aj, dN hx Ba, Dn, h, decide_true, s1]
      rw [aT r, Gv hx x0 (i / 2) _ _ (c.move hi hp _ _) (by rw [pp]; exact hn) hp (by rw [pp]; exact x1) (by rw [pp]; exact l2)]
      have e : iW x (i + 1) H W = iW x (i / 2) (H.set (i + 1) H[i / 2]!) (W.set (H[i / 2]!).n ((i + 1 : Nat) : Int)) := by
        rw [iW, ls h]
      unfold cJ
      rw [e]
    have dn := xt (u := u) (us := us) (fr := fr) (cap := cap) hx x0 n (i + 1) H W (by omega) c hn hi x1 l2
    refine (aI (r := cJ n x (i + 1) H W) ?_)
    unfold eS
    simp only [e1, lc, rF (show i < 1000000000 by omega), g1, aj, dN hx Ba, Dn, h, decide_false, lm, vq (show i + 1 < 1000000000 by omega)]
    rw [dn]
    unfold cJ
    rw [iW, lw h]
termination_by i=>i
decreasing_by omega
theorem OJ {n cap:Nat} {u fr:List Int} {us:List Bool} {x:Ev} (hx:pQ x) (x0:0<=x.ix) {i:Nat} {H:List Ev} {W:List Int} (c:mr n H W) (hi:i<n) (x1:x.ix<aig W):
 jP (u,us,fr,n,cap,(i:Int),x.1,x.2.1,x.2.2.1,x.2.2.2.1,x.2.2.2.2,H,W)=ajg (cJ n x i H W):=by
 unfold jP;exact Gv hx x0 i H W c rfl hi x1 rfl
theorem Gw {n cap:Nat} {H:List Ev} {W:List Int} {x:Ev} {u fr:List Int} {us:List Bool} {i k:Nat} (hi:i<n) (hk:k<n) (KC:k≠i) (hn:n<=aig H) (x0:0<=x.ix) (x1:x.ix<aig W) (k0:0<=(H[k]!).ix) (k1:(H[k]!).ix<aig W):
 gr (u,us,fr,n,cap,(i:Int),(k:Int),H.set i x,W.set x.n (i:Int))=ajg ((H.set i H[k]!).set k x,(W.set (H[k]!).n (i:Int)).set x.n (k:Int)):=by
 have cell: ∀w,(H.set i x)[w]! =if w=i then x else H[w]!:=by
  intro w;rw [aU]
  by_cases e:w=i
  · rw [ls ⟨e,by omega⟩,ls e]
  rw [lw (fun k=>e k.1),lw e]
 have sh:((H.set i x).set i H[k]!).set k x=(H.set i H[k]!).set k x:=by rw [NE]
 have sw:((W.set x.n (i:Int)).set (H[k]!).n (i:Int)).set x.n (k:Int)=(W.set (H[k]!).n (i:Int)).set x.n (k:Int):=by
  by_cases e:x.n=(H[k]!).n
  · simp only [e,NE]
  rw [aet _ _ (fun h=>e h),NE]
 have g1:aH ((H.set i x).take n) (k:Int)=ajg H[k]!:=by rw [gb (by omega) (by rw [pp];omega),cell,lw KC]
 have g2:aH ((H.set i x).take n) (i:Int)=ajg x:=by rw [gb (by omega) (by rw [pp];omega),cell,ls rfl]
 have g3:aH (((H.set i x).set i H[k]!).take n) (k:Int)=ajg H[k]!:=by rw [gb (by omega) (by rw [pp,pp];omega),aU,lw (fun h=>KC h.1),cell,lw KC]
 have g4:aH (((H.set i H[k]!).set k x).take n) (i:Int)=ajg H[k]!:=by rw [gb (by omega) (by rw [pp,pp];omega),aU,lw (fun h=>KC h.1.symm),aU,ls ⟨rfl,by omega⟩]
 have g5:aH (((H.set i H[k]!).set k x).take n) (k:Int)=ajg x:=by rw [gb (by omega) (by rw [pp,pp];omega),aU,ls ⟨rfl,by rw [pp];omega⟩]
 have w6:=dS (l:=W.set x.n (i:Int)) k0 (by rw [pp];exact k1);have w7:=dS (l:=(W.set x.n (i:Int)).set (H[k]!).n (i:Int)) x0 (by rw [pp,pp];exact x1);have q1: ∀(l:List Int) (a:Int) (y:Ev),cd l y.2.2.2.1 a=l.set y.n a:=fun _ _ _=>rfl
 unfold gr;simp only [mq,g1,g2,g3,aj,sh,g4,g5,q1,w6,w7,sw,pp,beq_self_eq_true,lc]
theorem Vh {c0:List Int×List Bool×List Int×Nat×Nat×Int×List Ev×List Int} {n cap:Nat} {u fr:List Int} {us:List Bool} {x:Ev} (hx:pQ x) (x0:0<=x.ix):
 ∀(i:Nat) (H:List Ev) (W:List Int),mr n H W->i<n->x.ix<aig W->aig c0.2.2.2.2.2.2.1=aig H->aig c0.2.2.2.2.2.2.2=aig W->
  ay (gT c0) ((i:Int),H.set i x,W.set x.n (i:Int),u,us,fr,n,cap)=ajg (((iW x i H W).1:Int),(iW x i H W).2.1.set (iW x i H W).1 x,(iW x i H W).2.2.set x.n ((iW x i H W).1:Int))
 |0,H,W,c,hi,x1,l1,l2=>by
  have RQ:=c.hn;refine aI ?_;unfold gT;have e1:ajj ((0:Int)<((0:Nat):Int))=aji:=by simp
  rw [iW];simp only [e1,lm,pp,l1,l2,beq_self_eq_true,lc]
 |i+1,H,W,c,hi,x1,l1,l2=>by
  have hb:=c.hb;have RQ:=c.hn;have e1:ajj ((0:Int)<((i+1:Nat):Int))=ajh:=decide_eq_true (by omega);have hp:i / 2<n:=by omega
  have dW:i / 2≠i+1:=by omega
  obtain ⟨Ba,a1,a2⟩:=c.ev (i / 2) hp;have cell: ∀w,(H.set (i+1) x)[w]! =if w=i+1 then x else H[w]!:=by
   intro w;rw [aU]
   by_cases e:w=i+1
   · rw [ls ⟨e,by omega⟩,ls e]
   rw [lw (fun k=>e k.1),lw e]
  have g0:aH ((H.set (i+1) x).take n) ((i+1:Nat):Int)=ajg x:=by rw [gb (by omega) (by rw [pp];omega),cell,ls rfl]
  have g1:aH ((H.set (i+1) x).take n) ((i / 2:Nat):Int)=ajg H[i / 2]!:=by rw [gb (by omega) (by rw [pp];omega),cell,lw dW]
  by_cases h:less x H[i / 2]!
  · have sw:=Gw (cap:=cap) (u:=u) (us:=us) (fr:=fr) (x:=x) hi hp dW RQ x0 x1 a1 a2
    have r:gT c0 (((i+1:Nat):Int),H.set (i+1) x,W.set x.n ((i+1:Nat):Int),u,us,fr,n,cap)=ajg (.next (((i / 2:Nat):Int),(H.set (i+1) H[i / 2]!).set (i / 2) x,(W.set (H[i / 2]!).n ((i+1:Nat):Int)).set x.n ((i / 2:Nat):Int),u,us,fr,n,cap)):=by unfold gT;simp only [e1,lc,rF (show i<1000000000 by omega),g0,g1,aj,nu hx Ba,h,decide_true,sw]
    rw [aT r,Vh hx x0 (i / 2) _ _ (c.move hi hp _ _) hp (by rw [pp];exact x1) (by rw [pp];exact l1) (by rw [pp];exact l2)];have e:iW x (i+1) H W=iW x (i / 2) (H.set (i+1) H[i / 2]!) (W.set (H[i / 2]!).n ((i+1:Nat):Int)):=by rw [iW,ls h]
    rw [e]
  refine aI ?_
  unfold gT;have e:iW x (i+1) H W=(i+1,H,W):=by rw [iW,lw h]
  rw [e];simp only [e1,lc,rF (show i<1000000000 by omega),g0,g1,aj,nu hx Ba,h,decide_false,lm,pp,l1,l2,beq_self_eq_true]
termination_by i=>i
decreasing_by omega
theorem Mi {c0:List Int×List Bool×List Int×Nat×Nat×Int×List Ev×List Int} {n cap:Nat} {u fr:List Int} {us:List Bool} {x:Ev} (hx:pQ x) (x0:0<=x.ix):
 ∀(d i:Nat) (H:List Ev) (W:List Int),n-i<=d->mr n H W->i<n->x.ix<aig W->aig c0.2.2.2.2.2.2.1=aig H->aig c0.2.2.2.2.2.2.2=aig W->
  ay (jL c0) ((i:Int),H.set i x,W.set x.n (i:Int),u,us,fr,n,cap)=ajg (((eb n x i H W).2.1.set (eb n x i H W).1 x,(eb n x i H W).2.2.set x.n ((eb n x i H W).1:Int)))
 |0,i,H,W,hd,c,hi,x1,l1,l2=>by omega
 |d+1,i,H,W,hd,c,hi,x1,l1,l2=>by
  have hb:=c.hb;have RQ:=c.hn;have cell: ∀w,(H.set i x)[w]! =if w=i then x else H[w]!:=by
   intro w;rw [aU]
   by_cases e:w=i
   · rw [ls ⟨e,by omega⟩,ls e]
   rw [lw (fun k=>e k.1),lw e]
  have Vi:(H.set i x).length=(aig H):=pp;have body:jL c0 ((i:Int),H.set i x,W.set x.n (i:Int),u,us,fr,n,cap)=ajg (if 2*i+1<n/\less H[hO n H i]! x then .next (((hO n H i:Nat):Int),(H.set i H[hO n H i]!).set (hO n H i) x,(W.set (H[hO n H i]!).n (i:Int)).set x.n ((hO n H i:Nat):Int),u,us,fr,n,cap) else .done ((H.set i x,W.set x.n (i:Int)))):=by
   have k1:=vq (show i<1000000000 by omega);unfold jL
   by_cases h1:2*i+1<n
   · have e1:ajj ((n:Int)<=((2*i+1:Nat):Int))=aji:=decide_eq_false (by omega)
     have e2:aa .i64 (((2*i+1:Nat):Int)+1)=((2*i+2:Nat):Int):=aV (by omega);obtain ⟨Ba,a1,a2⟩:=c.ev (2*i+1) h1;have g0:aH ((H.set i x).take n) (i:Int)=ajg x:=by rw [gb (by omega) (by rw [pp];omega),cell,ls rfl]
     have g1:aH ((H.set i x).take n) ((2*i+1:Nat):Int)=ajg H[2*i+1]!:=by rw [gb (by omega) (by rw [pp];omega),cell,lw (by omega)]
     have s1:=Gw (cap:=cap) (u:=u) (us:=us) (fr:=fr) (x:=x) hi h1 (by omega) RQ x0 x1 a1 a2;simp only [aA,k1,Vi,e1,e2,lm,g0,g1,aj,nu Ba hx,s1,pp,l1,l2,beq_self_eq_true,lc]
     by_cases h2:2*i+2<n
     · have e3:ajj (((2*i+2:Nat):Int)<(n:Int))=ajh:=decide_eq_true (by omega)
       obtain ⟨Vg,b1,b2⟩:=c.ev (2*i+2) h2;have g2:aH ((H.set i x).take n) ((2*i+2:Nat):Int)=ajg H[2*i+2]!:=by rw [gb (by omega) (by rw [pp];omega),cell,lw (by omega)]
       have s2:=Gw (cap:=cap) (u:=u) (us:=us) (fr:=fr) (x:=x) hi h2 (by omega) RQ x0 x1 b1 b2;simp only [e3,lc,g2,aj,s2,nu Vg hx,nu Vg Ba]
       by_cases h3:less H[2*i+2]! H[2*i+1]!
       · have k:hO n H i=2*i+2:=by unfold hO;rw [ls ⟨h2,h3⟩]
         rw [k]
         by_cases h4:less H[2*i+2]! x
         · simp only [h1,h3,h4,decide_true,lc,lm,EQ,and_self,if_true]
         simp only [h1,h3,h4,decide_true,decide_false,lc,AC,and_false,if_false]
       have k:hO n H i=2*i+1:=by unfold hO;rw [lw (fun h=>h3 h.2)]
       rw [k]
       by_cases h4:less H[2*i+1]! x
       · simp only [h1,h3,h4,decide_true,decide_false,lm,EQ,and_self,if_true]
       simp only [h1,h3,h4,decide_false,lc,lm,AC,and_false,if_false]
     have e3:ajj (((2*i+2:Nat):Int)<(n:Int))=aji:=decide_eq_false (by omega)
     have k:hO n H i=2*i+1:=by unfold hO;rw [lw (fun h=>h2 h.1)]
     rw [k];simp only [e3,lm]
     by_cases h4:less H[2*i+1]! x
     · simp only [h1,h4,decide_true,lm,EQ,and_self,if_true]
     simp only [h1,h4,decide_false,lc,AC,and_false,if_false]
   have e1:ajj ((n:Int)<=((2*i+1:Nat):Int))=ajh:=decide_eq_true (by omega)
   rw [lw (fun h=>h1 h.1)];simp only [aA,k1,Vi,e1,lc,pp,l1,l2,beq_self_eq_true]
  by_cases h:2*i+1<n/\less H[hO n H i]! x
  · rw [ls h] at body
    have kc:=oi n H i;have kn:hO n H i<n:=by omega
    rw [aT body,Mi hx x0 d (hO n H i) _ _ (by omega) (c.move hi kn _ _) kn (by rw [pp];exact x1) (by rw [pp];exact l1) (by rw [pp];exact l2)];have e:eb n x i H W=eb n x (hO n H i) (H.set i H[hO n H i]!) (W.set (H[hO n H i]!).n (i:Int)):=by rw [eb,dif_pos h.1,ls h.2]
    rw [e]
  rw [lw h] at body
  rw [aI body];have e:eb n x i H W=(i,H,W):=by
   rw [eb];split
   · rename_i h1;rw [lw (fun k=>h ⟨h1,k⟩)]
   rfl
  rw [e]
theorem Cg {n:Nat} {H:List Ev} {W:List Int} {x:Ev} {u fr:List Int} {us:List Bool} {i k:Nat} (hi:i<n) (hk:k<n) (KC:k≠i) (hn:n=aig H) (x0:0<=x.ix) (x1:x.ix<aig W) (k0:0<=(H[k]!).ix) (k1:(H[k]!).ix<aig W):
 fJ ((i:Int),(k:Int),u,us,fr,H.set i x,W.set x.n (i:Int))=ajg (u,us,fr,(H.set i H[k]!).set k x,(W.set (H[k]!).n (i:Int)).set x.n (k:Int)):=by
 have cell: ∀w,(H.set i x)[w]! =if w=i then x else H[w]!:=by
  intro w;rw [aU]
  by_cases e:w=i
  · rw [ls ⟨e,by omega⟩,ls e]
  rw [lw (fun k=>e k.1),lw e]
 have sh:((H.set i x).set i H[k]!).set k x=(H.set i H[k]!).set k x:=by rw [NE]
 have sw:((W.set x.n (i:Int)).set (H[k]!).n (i:Int)).set x.n (k:Int)=(W.set (H[k]!).n (i:Int)).set x.n (k:Int):=by
  by_cases e:x.n=(H[k]!).n
  · simp only [e,NE]
  rw [aet _ _ (fun h=>e h),NE]
 have g1:aH ((H.set i x)) (k:Int)=ajg H[k]!:=by rw [ax _ _ (by rw [pp];omega),cell,lw KC]
 have g2:aH ((H.set i x)) (i:Int)=ajg x:=by rw [ax _ _ (by rw [pp];omega),cell,ls rfl]
 have g3:aH (((H.set i x).set i H[k]!)) (k:Int)=ajg H[k]!:=by rw [ax _ _ (by rw [pp,pp];omega),aU,lw (fun h=>KC h.1),cell,lw KC]
 have g4:aH (((H.set i H[k]!).set k x)) (i:Int)=ajg H[k]!:=by rw [ax _ _ (by rw [pp,pp];omega),aU,lw (fun h=>KC h.1.symm),aU,ls ⟨rfl,by omega⟩]
 have g5:aH (((H.set i H[k]!).set k x)) (k:Int)=ajg x:=by rw [ax _ _ (by rw [pp,pp];omega),aU,ls ⟨rfl,by rw [pp];omega⟩]
 have w6:=dS (l:=W.set x.n (i:Int)) k0 (by rw [pp];exact k1);have w7:=dS (l:=(W.set x.n (i:Int)).set (H[k]!).n (i:Int)) x0 (by rw [pp,pp];exact x1);have q1: ∀(l:List Int) (a:Int) (y:Ev),cd l y.2.2.2.1 a=l.set y.n a:=fun _ _ _=>rfl
 unfold fJ;simp only [mq,g1,g2,g3,aj,sh,g4,g5,q1,w6,w7,sw,pp,beq_self_eq_true,lc]
theorem Vj {c0:Int×List Int×List Bool×List Int×List Ev×List Int} {n:Nat} {u fr:List Int} {us:List Bool} {x:Ev} (hx:pQ x) (x0:0<=x.ix) (l3:(aig c0.2.1)=aig u) (l4:(aig c0.2.2.1)=aig us) (l5:(aig c0.2.2.2.1)=aig fr):
 ∀(i:Nat) (H:List Ev) (W:List Int),mr n H W->i<n->aig H=n->x.ix<aig W->aig c0.2.2.2.2.1=aig H->aig c0.2.2.2.2.2=aig W->
  ay (gU c0) ((i:Int),u,us,fr,H.set i x,W.set x.n (i:Int))=ajg (((iW x i H W).1:Int),u,us,fr,(iW x i H W).2.1.set (iW x i H W).1 x,(iW x i H W).2.2.set x.n ((iW x i H W).1:Int))
 |0,H,W,c,hi,Qi,x1,l1,l2=>by
  have RQ:=c.hn;refine aI ?_;unfold gU;have e1:ajj ((0:Int)<((0:Nat):Int))=aji:=by simp
  rw [iW];simp only [e1,lm,pp,l1,l2,l3,l4,l5,beq_self_eq_true,lc]
 |i+1,H,W,c,hi,Qi,x1,l1,l2=>by
  have hb:=c.hb;have RQ:=c.hn;have e1:ajj ((0:Int)<((i+1:Nat):Int))=ajh:=decide_eq_true (by omega);have hp:i / 2<n:=by omega
  have dW:i / 2≠i+1:=by omega
  obtain ⟨Ba,a1,a2⟩:=c.ev (i / 2) hp;have cell: ∀w,(H.set (i+1) x)[w]! =if w=i+1 then x else H[w]!:=by
   intro w;rw [aU]
   by_cases e:w=i+1
   · rw [ls ⟨e,by omega⟩,ls e]
   rw [lw (fun k=>e k.1),lw e]
  have g0:aH ((H.set (i+1) x)) ((i+1:Nat):Int)=ajg x:=by rw [ax _ _ (by rw [pp];omega),cell,ls rfl]
  have g1:aH ((H.set (i+1) x)) ((i / 2:Nat):Int)=ajg H[i / 2]!:=by rw [ax _ _ (by rw [pp];omega),cell,lw dW]
  by_cases h:less x H[i / 2]!
  · have sw:=Cg (u:=u) (us:=us) (fr:=fr) (x:=x) hi hp dW Qi.symm x0 x1 a1 a2
    have r:gU c0 (((i+1:Nat):Int),u,us,fr,H.set (i+1) x,W.set x.n ((i+1:Nat):Int))=ajg (.next (((i / 2:Nat):Int),u,us,fr,(H.set (i+1) H[i / 2]!).set (i / 2) x,(W.set (H[i / 2]!).n ((i+1:Nat):Int)).set x.n ((i / 2:Nat):Int))):=by unfold gU;simp only [e1,lc,rF (show i<1000000000 by omega),g0,g1,aj,nu hx Ba,h,decide_true,sw]
    rw [aT r,Vj hx x0 l3 l4 l5 (i / 2) _ _ (c.move hi hp _ _) hp (by rw [pp];exact Qi) (by rw [pp];exact x1) (by rw [pp];exact l1) (by rw [pp];exact l2)];have e:iW x (i+1) H W=iW x (i / 2) (H.set (i+1) H[i / 2]!) (W.set (H[i / 2]!).n ((i+1:Nat):Int)):=by rw [iW,ls h]
    rw [e]
  refine aI ?_
  unfold gU;have e:iW x (i+1) H W=(i+1,H,W):=by rw [iW,lw h]
  rw [e];simp only [e1,lc,rF (show i<1000000000 by omega),g0,g1,aj,nu hx Ba,h,decide_false,lm,pp,l1,l2,l3,l4,l5,beq_self_eq_true]
termination_by i=>i
decreasing_by omega
theorem Mj {c0:Int×List Int×List Bool×List Int×List Ev×List Int} {n:Nat} {u fr:List Int} {us:List Bool} {x:Ev} (hx:pQ x) (x0:0<=x.ix) (l3:(aig c0.2.1)=aig u) (l4:(aig c0.2.2.1)=aig us) (l5:(aig c0.2.2.2.1)=aig fr):
 ∀(d i:Nat) (H:List Ev) (W:List Int),n-i<=d->mr n H W->i<n->aig H=n->x.ix<aig W->aig c0.2.2.2.2.1=aig H->aig c0.2.2.2.2.2=aig W->
  ay (jM c0) ((i:Int),u,us,fr,H.set i x,W.set x.n (i:Int))=ajg ((u,us,fr,(eb n x i H W).2.1.set (eb n x i H W).1 x,(eb n x i H W).2.2.set x.n ((eb n x i H W).1:Int)))
 |0,i,H,W,hd,c,hi,Qi,x1,l1,l2=>by omega
 |d+1,i,H,W,hd,c,hi,Qi,x1,l1,l2=>by
  have hb:=c.hb;have RQ:=c.hn;have cell: ∀w,(H.set i x)[w]! =if w=i then x else H[w]!:=by
   intro w;rw [aU]
   by_cases e:w=i
   · rw [ls ⟨e,by omega⟩,ls e]
   rw [lw (fun k=>e k.1),lw e]
  have Vi:(H.set i x).length=(aig H):=pp;have body:jM c0 ((i:Int),u,us,fr,H.set i x,W.set x.n (i:Int))=ajg (if 2*i+1<n/\less H[hO n H i]! x then .next (((hO n H i:Nat):Int),u,us,fr,(H.set i H[hO n H i]!).set (hO n H i) x,(W.set (H[hO n H i]!).n (i:Int)).set x.n ((hO n H i:Nat):Int)) else .done ((u,us,fr,H.set i x,W.set x.n (i:Int)))):=by
   have k1:=vq (show i<1000000000 by omega);unfold jM
   by_cases h1:2*i+1<n
   · have e1:ajj ((n:Int)<=((2*i+1:Nat):Int))=aji:=decide_eq_false (by omega)
     have e2:aa .i64 (((2*i+1:Nat):Int)+1)=((2*i+2:Nat):Int):=aV (by omega);obtain ⟨Ba,a1,a2⟩:=c.ev (2*i+1) h1;have g0:aH ((H.set i x)) (i:Int)=ajg x:=by rw [ax _ _ (by rw [pp];omega),cell,ls rfl]
     have g1:aH ((H.set i x)) ((2*i+1:Nat):Int)=ajg H[2*i+1]!:=by rw [ax _ _ (by rw [pp];omega),cell,lw (by omega)]
     have s1:=Cg (u:=u) (us:=us) (fr:=fr) (x:=x) hi h1 (by omega) Qi.symm x0 x1 a1 a2;simp only [aA,k1,Vi,Qi,e1,e2,lm,g0,g1,aj,nu Ba hx,s1,pp,l1,l2,l3,l4,l5,beq_self_eq_true,lc]
     by_cases h2:2*i+2<n
     · have e3:ajj (((2*i+2:Nat):Int)<(n:Int))=ajh:=decide_eq_true (by omega)
       obtain ⟨Vg,b1,b2⟩:=c.ev (2*i+2) h2;have g2:aH ((H.set i x)) ((2*i+2:Nat):Int)=ajg H[2*i+2]!:=by rw [ax _ _ (by rw [pp];omega),cell,lw (by omega)]
       have s2:=Cg (u:=u) (us:=us) (fr:=fr) (x:=x) hi h2 (by omega) Qi.symm x0 x1 b1 b2;simp only [e3,lc,g2,aj,s2,nu Vg hx,nu Vg Ba]
       by_cases h3:less H[2*i+2]! H[2*i+1]!
       · have k:hO n H i=2*i+2:=by unfold hO;rw [ls ⟨h2,h3⟩]
         rw [k]
         by_cases h4:less H[2*i+2]! x
         · simp only [h1,h3,h4,decide_true,lc,lm,EQ,and_self,if_true]
         simp only [h1,h3,h4,decide_true,decide_false,lc,AC,and_false,if_false]
       have k:hO n H i=2*i+1:=by unfold hO;rw [lw (fun h=>h3 h.2)]
       rw [k]
       by_cases h4:less H[2*i+1]! x
       · simp only [h1,h3,h4,decide_true,decide_false,lm,EQ,and_self,if_true]
       simp only [h1,h3,h4,decide_false,lc,lm,AC,and_false,if_false]
     have e3:ajj (((2*i+2:Nat):Int)<(n:Int))=aji:=decide_eq_false (by omega)
     have k:hO n H i=2*i+1:=by unfold hO;rw [lw (fun h=>h2 h.1)]
     rw [k];simp only [e3,lm]
     by_cases h4:less H[2*i+1]! x
     · simp only [h1,h4,decide_true,lm,EQ,and_self,if_true]
     simp only [h1,h4,decide_false,lc,AC,and_false,if_false]
   have e1:ajj ((n:Int)<=((2*i+1:Nat):Int))=ajh:=decide_eq_true (by omega)
   rw [lw (fun h=>h1 h.1)];simp only [aA,k1,Vi,Qi,e1,lc,pp,l1,l2,l3,l4,l5,beq_self_eq_true]
  by_cases h:2*i+1<n/\less H[hO n H i]! x
  · rw [ls h] at body
    have kc:=oi n H i;have kn:hO n H i<n:=by omega
    rw [aT body,Mj hx x0 l3 l4 l5 d (hO n H i) _ _ (by omega) (c.move hi kn _ _) kn (by rw [pp];exact Qi) (by rw [pp];exact x1) (by rw [pp];exact l1) (by rw [pp];exact l2)];have e:eb n x i H W=eb n x (hO n H i) (H.set i H[hO n H i]!) (W.set (H[hO n H i]!).n (i:Int)):=by rw [eb,dif_pos h.1,ls h.2]
    rw [e]
  rw [lw h] at body
  rw [aI body];have e:eb n x i H W=(i,H,W):=by
   rw [eb];split
   · rename_i h1;rw [lw (fun k=>h ⟨h1,k⟩)]
   rfl
  rw [e]
theorem Vk {n:Nat} {H:List Ev} {W:List Int} {x:Ev} {u fr:List Int} {us:List Bool} {i k:Nat} (hi:i<n) (hk:k<n) (KC:k≠i) (hn:n=aig H) (x0:0<=x.ix) (x1:x.ix<aig W) (k0:0<=(H[k]!).ix) (k1:(H[k]!).ix<aig W):
 mD (u,us,fr,(i:Int),(k:Int),H.set i x,W.set x.n (i:Int))=ajg ((H.set i H[k]!).set k x,(W.set (H[k]!).n (i:Int)).set x.n (k:Int)):=by
 have cell: ∀w,(H.set i x)[w]! =if w=i then x else H[w]!:=by
  intro w;rw [aU]
  by_cases e:w=i
  · rw [ls ⟨e,by omega⟩,ls e]
  rw [lw (fun k=>e k.1),lw e]
 have sh:((H.set i x).set i H[k]!).set k x=(H.set i H[k]!).set k x:=by rw [NE]
 have sw:((W.set x.n (i:Int)).set (H[k]!).n (i:Int)).set x.n (k:Int)=(W.set (H[k]!).n (i:Int)).set x.n (k:Int):=by
  by_cases e:x.n=(H[k]!).n
  · simp only [e,NE]
  rw [aet _ _ (fun h=>e h),NE]
 have g1:aH ((H.set i x)) (k:Int)=ajg H[k]!:=by rw [ax _ _ (by rw [pp];omega),cell,lw KC]
 have g2:aH ((H.set i x)) (i:Int)=ajg x:=by rw [ax _ _ (by rw [pp];omega),cell,ls rfl]
 have g3:aH (((H.set i x).set i H[k]!)) (k:Int)=ajg H[k]!:=by rw [ax _ _ (by rw [pp,pp];omega),aU,lw (fun h=>KC h.1),cell,lw KC]
 have g4:aH (((H.set i H[k]!).set k x)) (i:Int)=ajg H[k]!:=by rw [ax _ _ (by rw [pp,pp];omega),aU,lw (fun h=>KC h.1.symm),aU,ls ⟨rfl,by omega⟩]
 have g5:aH (((H.set i H[k]!).set k x)) (k:Int)=ajg x:=by rw [ax _ _ (by rw [pp,pp];omega),aU,ls ⟨rfl,by rw [pp];omega⟩]
 have w6:=dS (l:=W.set x.n (i:Int)) k0 (by rw [pp];exact k1);have w7:=dS (l:=(W.set x.n (i:Int)).set (H[k]!).n (i:Int)) x0 (by rw [pp,pp];exact x1);have q1: ∀(l:List Int) (a:Int) (y:Ev),cd l y.2.2.2.1 a=l.set y.n a:=fun _ _ _=>rfl
 unfold mD;simp only [mq,g1,g2,g3,aj,sh,g4,g5,q1,w6,w7,sw,pp,beq_self_eq_true,lc]
theorem Vl {c0:List Int×List Bool×List Int×Int×List Ev×List Int} {n:Nat} {u fr:List Int} {us:List Bool} {x:Ev} (hx:pQ x) (x0:0<=x.ix):
 ∀(i:Nat) (H:List Ev) (W:List Int),mr n H W->i<n->aig H=n->x.ix<aig W->aig c0.2.2.2.2.1=aig H->aig c0.2.2.2.2.2=aig W->
  ay (gV c0) ((i:Int),H.set i x,W.set x.n (i:Int),u,us,fr)=ajg (((iW x i H W).1:Int),(iW x i H W).2.1.set (iW x i H W).1 x,(iW x i H W).2.2.set x.n ((iW x i H W).1:Int))
 |0,H,W,c,hi,Qi,x1,l1,l2=>by
  have RQ:=c.hn;refine aI ?_;unfold gV;have e1:ajj ((0:Int)<((0:Nat):Int))=aji:=by simp
  rw [iW];simp only [e1,lm,pp,l1,l2,beq_self_eq_true,lc]
 |i+1,H,W,c,hi,Qi,x1,l1,l2=>by
  have hb:=c.hb;have RQ:=c.hn;have e1:ajj ((0:Int)<((i+1:Nat):Int))=ajh:=decide_eq_true (by omega);have hp:i / 2<n:=by omega
  have dW:i / 2≠i+1:=by omega
  obtain ⟨Ba,a1,a2⟩:=c.ev (i / 2) hp;have cell: ∀w,(H.set (i+1) x)[w]! =if w=i+1 then x else H[w]!:=by
   intro w;rw [aU]
   by_cases e:w=i+1
   · rw [ls ⟨e,by omega⟩,ls e]
   rw [lw (fun k=>e k.1),lw e]
  have g0:aH ((H.set (i+1) x)) ((i+1:Nat):Int)=ajg x:=by rw [ax _ _ (by rw [pp];omega),cell,ls rfl]
  have g1:aH ((H.set (i+1) x)) ((i / 2:Nat):Int)=ajg H[i / 2]!:=by rw [ax _ _ (by rw [pp];omega),cell,lw dW]
  by_cases h:less x H[i / 2]!
  · have sw:=Vk (u:=u) (us:=us) (fr:=fr) (x:=x) hi hp dW Qi.symm x0 x1 a1 a2
    have r:gV c0 (((i+1:Nat):Int),H.set (i+1) x,W.set x.n ((i+1:Nat):Int),u,us,fr)=ajg (.next (((i / 2:Nat):Int),(H.set (i+1) H[i / 2]!).set (i / 2) x,(W.set (H[i / 2]!).n ((i+1:Nat):Int)).set x.n ((i / 2:Nat):Int),u,us,fr)):=by unfold gV;simp only [e1,lc,rF (show i<1000000000 by omega),g0,g1,aj,nu hx Ba,h,decide_true,sw]
    rw [aT r,Vl hx x0 (i / 2) _ _ (c.move hi hp _ _) hp (by rw [pp];exact Qi) (by rw [pp];exact x1) (by rw [pp];exact l1) (by rw [pp];exact l2)];have e:iW x (i+1) H W=iW x (i / 2) (H.set (i+1) H[i / 2]!) (W.set (H[i / 2]!).n ((i+1:Nat):Int)):=by rw [iW,ls h]
    rw [e]
  refine aI ?_
  unfold gV;have e:iW x (i+1) H W=(i+1,H,W):=by rw [iW,lw h]
  rw [e];simp only [e1,lc,rF (show i<1000000000 by omega),g0,g1,aj,nu hx Ba,h,decide_false,lm,pp,l1,l2,beq_self_eq_true]
termination_by i=>i
decreasing_by omega
theorem aC {p:Prop} [Decidable p] (h: ¬p):decide p=aji:=decide_eq_false h
theorem aE {p:Prop} [Decidable p] (h:p):decide p=ajh:=decide_eq_true h
theorem Mk (aB:List Int) (be:List Bool) (fr:List Int) (fl:List Bool) (h1:(aig aB)<=200) (h2:(aig be)=aig aB) (h3:(aig fl)=aig aB):
 ((∀i,i<aig aB->0<=aB[i]!/\aB[i]!<=1000000/\be[i]!≠fl[i]!/\(be[i]! =ajh->1<=aB[i]!))->ay j9 (((aig aB):Int),0,aB,be,fr,fl)=ajg (.done 0))/\
 (¬(∀i,i<aig aB->0<=aB[i]!/\aB[i]!<=1000000/\be[i]!≠fl[i]!/\(be[i]! =ajh->1<=aB[i]!))->ay j9 (((aig aB):Int),0,aB,be,fr,fl)=ajg (.done 8)):=by
 have key:=dy (body:=j9) (fun i=>(((aig aB):Int),(i:Int),aB,be,fr,fl)) (aig aB) (fun i=> ¬(0<=aB[i]!/\aB[i]!<=1000000/\be[i]!≠fl[i]!/\(be[i]! =ajh->1<=aB[i]!))) (r:= .done 8) (e:= .done 0) (fun i hi=>by
  have e1:ajj ((i:Int)<((aig aB):Int))=ajh:=aE (by omega);unfold j9;simp only [e1,lc,ax aB i hi,ax be i (by omega),ax fl i (by omega),aj,aV (show i<1000000000 by omega)];generalize aB[i]! =u;generalize be[i]! =a;generalize fl[i]! =b
  by_cases a1:u<0
  · simp only [a1,decide_true,lc];exact ⟨fun _=>trivial,fun h=>absurd (rc.1 h).1 (by omega)⟩
  · by_cases a2:1000000<u
    · simp only [a1,a2,decide_true,decide_false,lc,lm];exact ⟨fun _=>trivial,fun h=>absurd (rc.1 h).2.1 (by omega)⟩
    simp only [a1,a2,decide_false,lm]
    by_cases a3:u<1
    · cases a<;>cases b<;>simp [a3]<;>omega
    cases a<;>cases b<;>simp [a3]<;>omega) (by
  unfold j9;have:ajj (((aig aB):Int)<((aig aB):Int))=aji:=aC (by omega);simp only [this,lm])
 constructor
 · intro h
   exact key.2 fun i hi=>rc.2 (h i hi)
 intro h
 obtain ⟨i,h⟩:=Do.1 h;obtain ⟨hi,hx⟩:=adz.1 h;exact key.1 ⟨i,hi,hx⟩
theorem Gx {α:Type} {n:Nat} (z:α) (h:n<=1048576):xM (n:Int) z=ajg (ut n z):=by unfold xM;rw [ls ⟨by omega,by omega⟩];simp
theorem Gy (s:bj) (hf:(aig s.bi)<=1000000):uE s=ajg (if fj s then 0 else 8):=by
 obtain ⟨aB,be,fr⟩:=s;dsimp only at hf;unfold uE;simp only [aA]
 by_cases a1:(aig aB)<1
 · have e:ajj (((aig aB):Int)<1)=ajh:=aE (by omega)
   rw [e,lw (fun h=>by have:=h.n1;dsimp only at this;omega)];rfl
 have e1:ajj (((aig aB):Int)<1)=aji:=aC (by omega)
 by_cases a2:200<aig aB
 · have e:ajj (200<((aig aB):Int))=ajh:=aE (by omega)
   rw [e1,e,lw (fun h=>by have:=h.n2;dsimp only at this;omega)];rfl
 have e2:ajj (200<((aig aB):Int))=aji:=aC (by omega)
 by_cases a3:(aig be)=aig aB
 case neg=>have e:(((aig be):Int) !=((aig aB):Int))=ajh:=cS (by omega);rw [e1,e2,e,lw (fun h=>a3 h.ul)];rfl
 have e3:(((aig be):Int) !=((aig aB):Int))=aji:=bB (by omega)
 by_cases a4:(aig aB)<aig fr
 · have e:ajj (((aig aB):Int)<((aig fr):Int))=ajh:=aE (by omega)
   rw [e1,e2,e3,e,lw (fun h=>by have:=h.fl;dsimp only at this;omega)];rfl
 have e4:ajj (((aig aB):Int)<((aig fr):Int))=aji:=aC (by omega);simp only [e1,e2,e3,e4,lm,beq_self_eq_true,lc,Gx aji (show (aig aB)<=1048576 by omega),aj];have ml: ∀k,(marks (ut (aig aB) aji) (fr.take k)).length=(aig aB):=fun k=>by rw [mK,M2]
 have ml':(marks (ut (aig aB) aji) fr).length=(aig aB):=by rw [mK,M2]
 have rep: ∀i:Nat,(ut (aig aB) aji)[i]! =aji:=by
  intro i
  by_cases h:i<aig aB
  · rw [getElem!_pos _ i (by simpa using h),List.getElem_replicate]
  rw [getElem!_neg _ i (by simpa using h)];rfl
 have Gn:=Mk aB be fr (marks (ut (aig aB) aji) fr) (by omega) a3 ml';have key:=dy (body:=oU) (fun k=>(((aig aB):Int),(k:Int),aB,be,fr,marks (ut (aig aB) aji) (fr.take k))) (aig fr)
  (fun k=>fr[k]!<0\/((aig aB):Int)<=fr[k]!\/(marks (ut (aig aB) aji) (fr.take k))[(fr[k]!).toNat]! =ajh) (r:=8)
  (e:=if (∀i,i<aig aB->0<=aB[i]!/\aB[i]!<=1000000/\be[i]!≠(marks (ut (aig aB) aji) fr)[i]!/\(be[i]! =ajh->1<=aB[i]!)) then 0 else 8) (fun k hk=>by
   have f1:ajj ((k:Int)<((aig fr):Int))=ajh:=aE (by omega);have f5:marks (ut (aig aB) aji) (fr.take (k+1))=cd (marks (ut (aig aB) aji) (fr.take k)) fr[k]! ajh:=by rw [gI hk,A9]
   unfold oU;simp only [aA,f1,lc,ax fr k hk,aj,aV (show k<1000000000 by omega),f5];clear f5;generalize fr[k]! =x
   by_cases b1:x<0
   · simp [b1]
   · by_cases b2:((aig aB):Int)<=x
     · simp [b1,b2]
     simp only [b1,b2,decide_false,lm,false_or]
     rw [dS (l:=marks (ut (aig aB) aji) (fr.take k)) (i:=x) (by omega) (by rw [ml];omega)];simp only [aj];cases (marks (ut (aig aB) aji) (fr.take k))[x.toNat]!<;>simp) (by
   have f1:ajj (((aig fr):Int)<((aig fr):Int))=aji:=aC (by omega);unfold oU;simp only [aA,f1,lm,aeE]
   by_cases hx:(∀i,i<aig aB->0<=aB[i]!/\aB[i]!<=1000000/\be[i]!≠(marks (ut (aig aB) aji) fr)[i]!/\(be[i]! =ajh->1<=aB[i]!))
   · rw [ls hx];exact Gn.1 hx
   rw [lw hx];exact Gn.2 hx)
 have h0:marks (ut (aig aB) aji) (fr.take 0)=ut (aig aB) aji:=rfl;rw [show ((0:Nat):Int)=0 from rfl,h0] at key
 by_cases bad: ∃k,k<aig fr/\(fr[k]!<0\/((aig aB):Int)<=fr[k]!\/(marks (ut (aig aB) aji) (fr.take k))[(fr[k]!).toNat]! =ajh)
 · rw [key.1 bad,lw]
   intro ok;obtain ⟨k,hk,hb⟩:=bad;have hr:=ok.fr fr[k]! (bn hk);dsimp only at hr;rcases hb with hb|hb|hb
   · omega
   · omega
   rw [oh _ _ _ (fun x hx=>(ok.fr x (acl hx)).1) (by rw [M2];omega),rep,aev] at hb
   have hi:((fr[k]!).toNat:Int)=fr[k]!:=by omega
   rw [hi] at hb;have hm:fr[k]!∈fr.take k:=of_decide_eq_true hb;obtain ⟨j,h1,h2,h3⟩:=cw.1 hm;exact hM.1 ok.fd j k h1 hk h3
 have OF: ∀k,k<aig fr->0<=fr[k]!/\fr[k]!<aig aB/\(marks (ut (aig aB) aji) (fr.take k))[(fr[k]!).toNat]! =aji:=by
  intro k hk;refine ⟨?_,?_,?_⟩
  · exact Int.not_lt.1 fun h=>bad ⟨k,hk,.inl h⟩
  · exact Int.not_le.1 fun h=>bad ⟨k,hk,.inr (.inl h)⟩
  exact ae8 _▸fun h=>bad ⟨k,hk,.inr (.inr h)⟩
 rw [key.2 fun k hk hb=>bad ⟨k,hk,hb⟩];have Qg: ∀x∈fr,0<=x/\x<((aig aB):Int):=by intro x hx;obtain ⟨k,hk,rfl⟩:=aO.1 hx;exact ⟨(OF k hk).1,(OF k hk).2.1⟩
 have g2: ∀k,k<aig fr->fr[k]!∉fr.take k:=by intro k hk;obtain ⟨c1,c2,c3⟩:=OF k hk;rw [oh _ _ _ (fun x hx=>(Qg x (acl hx)).1) (by rw [M2];omega),show ((fr[k]!).toNat:Int)=fr[k]! by omega,rep,aev] at c3;exact of_decide_eq_false c3
 have nd:fr.Nodup:=hM.2 fun i j lL hj he=>g2 j hj (cw.2 ⟨i,lL,by omega,he⟩)
 have fl: ∀i,i<aig aB->(marks (ut (aig aB) aji) fr)[i]! =ajj ((i:Int)∈fr):=by intro i hi;rw [oh _ _ _ (fun x hx=>(Qg x hx).1) (by rw [M2];omega),rep,aev]
 by_cases hx:(∀i,i<aig aB->0<=aB[i]!/\aB[i]!<=1000000/\be[i]!≠(marks (ut (aig aB) aji) fr)[i]!/\(be[i]! =ajh->1<=aB[i]!))
 · rw [ls hx,ls]
   refine ⟨by show 1<=aig aB;omega,by show (aig aB)<=200;omega,a3,Qg,nd,fun i hi=>?_,fun i hi=>?_⟩
   · have:=(hx i hi).2.2.1
     rw [fl i hi] at this;dsimp only;cases h:be[i]! with
     |true=>rw [h] at this;refine ⟨fun _ hm=>?_,fun _=>rfl⟩;rw [aE hm] at this;exact this rfl
     |false=>rw [h] at this;refine ⟨fun h=>(by cases h),fun hm=>?_⟩;rw [aC hm] at this;exact absurd rfl this
   have:=hx i hi
   exact ⟨this.1,this.2.1,this.2.2.2⟩
 rw [lw hx,lw]
 intro ok;refine hx fun i hi=>?_
 obtain ⟨u1,u2,u3⟩:=ok.us i hi;refine ⟨u1,u2,?_,u3⟩;rw [fl i hi];have:=ok.uf i hi;dsimp only at this;intro he
 by_cases hm:(i:Int)∈fr
 · rw [aE hm] at he;exact (this.1 he) hm
 rw [aC hm] at he
 have:=this.2 hm;rw [he] at this;cases this
structure yT (a:aJ):Prop where
 fr:(aig a.af.bi)<=1000000
 hp:(aig a.bv)<=1000000
 wh:(aig a.ar)<=1000000
 OK: ∀w,w<aig a.bv->lM ((a.bv[w]!).1,(a.bv[w]!).2.1)
structure eZ (a:aJ):Prop where
 so:fj a.af
 wl:(aig a.ar)=aig a.af.aB
 hl:(aig a.bv)+aig a.af.bi=aig a.af.aB
 fwd: ∀i,i<aig a.af.aB->a.af.be[i]! =ajh->0<=a.ar[i]!/\a.ar[i]!<aig a.bv/\(Ev.ix a.bv[(a.ar[i]!).toNat]!)=i/\(a.bv[(a.ar[i]!).toNat]!).2.2.2.2=a.af.aB[i]!
 un: ∀i,i<aig a.af.aB->a.af.be[i]! =aji->a.ar[i]! = -1
 ev: ∀w,w<aig a.bv->pQ a.bv[w]!
 nd: ∀v w,v<w->w<aig a.bv->(Ev.num a.bv[v]!)≠(Ev.num a.bv[w]!)
 ord: ∀k,0<k->k<aig a.bv-> ¬less a.bv[k]! a.bv[(k-1) / 2]!
theorem cover: ∀(n:Nat) (l:List Nat),(∀x,x<n->x∈l)->n<=aig l
 |0,_,_=>Nat.zero_le _
 |n+1,l,h=>by have hn:=h n (by omega);have:=cover n (l.erase n) (fun x hx=>by rw [List.mem_erase_of_ne (by omega)];exact h x (by omega));rw [List.length_erase_of_mem hn] at this;have:=List.length_pos_of_mem hn;omega
def IG (s:bj):List Nat:=(List.range (aig s.aB)).filter fun i=>s.be[i]!
theorem zJ {s:bj} {i:Nat}:i∈IG s↔i<aig s.aB/\s.be[i]! =ajh:=by unfold IG;rw [aeU,List.mem_range]
theorem zK {α β:Type} {f:α->β}: ∀{l:List α},l.Nodup->(∀x∈l,∀y∈l,f x=f y->x=y)->(l.map f).Nodup
 | [],_,_=>by simp
 |a::l,h,hf=>by rw [adB] at h;rw [List.map_cons,adB];refine ⟨?_,zK h.2 fun x hx y hy=>hf x (by simp [hx]) y (by simp [hy])⟩;intro hm;obtain ⟨b,hb,e⟩:=UV.1 hm;have:=hf b (by simp [hb]) a (by simp) e;subst this;exact h.1 hb
theorem eZ.back {a:aJ} (ok:eZ a) {w:Nat} (hw:w<aig a.bv):0<=(Ev.ix a.bv[w]!)/\(Ev.ix a.bv[w]!)<aig a.af.aB/\a.af.be[(Ev.n a.bv[w]!)]! =ajh/\a.af.aB[(Ev.n a.bv[w]!)]! =(a.bv[w]!).2.2.2.2/\a.ar[(Ev.n a.bv[w]!)]! =(w:Int):=by
 have so:=ok.so;have len:(aig a.af.aB)<=(IG a.af).length+(aig a.af.bi):=by
  have:=cover (aig a.af.aB) (IG a.af++a.af.bi.map afn) (fun x hx=>by
   rw [aeb]
   by_cases hu:a.af.be[x]! =ajh
   · exact .inl (zJ.2 ⟨hx,hu⟩)
   right
   have:=so.uf x hx;have hm:(x:Int)∈a.af.bi:=If fun hc=>hu (this.2 hc)
   exact UV.2 ⟨_,hm,by omega⟩)
  rw [List.length_append,adC] at this;exact this
 have f0: ∀i∈IG a.af,0<=a.ar[i]!/\a.ar[i]!<aig a.bv/\(Ev.ix a.bv[(a.ar[i]!).toNat]!)=i/\(a.bv[(a.ar[i]!).toNat]!).2.2.2.2=a.af.aB[i]!:=fun i hi=>ok.fwd i (zJ.1 hi).1 (zJ.1 hi).2
 have full:=D3 (n:=aig a.bv) (l:=(IG a.af).map fun i=>(a.ar[i]!).toNat) (by
  refine zK ?_ ?_
  · exact List.Pairwise.filter _ List.nodup_range
  · intro x hx y hy he
    have h1:=(f0 x hx).2.2.1;have h2:=(f0 y hy).2.2.1;rw [he] at h1;omega) (by
  intro x hx;obtain ⟨i,hi,rfl⟩:=UV.1 hx;have:=f0 i hi;omega) (by
  rw [adC];have:=ok.hl;omega) w hw
 obtain ⟨i,hi,e⟩:=UV.1 full;obtain ⟨c1,c2,c3,c4⟩:=f0 i hi;obtain ⟨d1,d2⟩:=zJ.1 hi;rw [e] at c3 c4;have hn:(Ev.n a.bv[w]!)=i:=by show ((Ev.ix a.bv[w]!)).toNat=i;omega
 rw [hn];refine ⟨by omega,by omega,d2,c4.symm,by omega⟩
noncomputable def OL (x y:Ev):Int:=if bK (x.1,x.2.1)/\bK (y.1,y.2.1) then Gs x y else jJ x.2.2.1 y.2.2.1
theorem Bb {x y:Ev} (hx:lM (x.1,x.2.1)) (hy:lM (y.1,y.2.1)):cE x y=ajg (OL x y):=by
 unfold cE OL Gs;rw [Gg hx hy]
 by_cases h:bK (x.1,x.2.1)/\bK (y.1,y.2.1)
 · rw [ls h,ls h]
   simp only [aj,kq,zG]
 rw [lw h,lw h]
 simp only [aj,kq,zG];simp
def Gz (a:aJ) (i:Nat):Prop:=(a.af.be[i]! =ajh->0<=a.ar[i]!/\a.ar[i]!<aig a.bv/\(Ev.ix a.bv[(a.ar[i]!).toNat]!)=i/\(a.bv[(a.ar[i]!).toNat]!).2.2.2.2=a.af.aB[i]!)/\(a.af.be[i]! =aji->a.ar[i]! = -1)
def HG (H:List Ev) (k:Nat):Prop:=bK ((H[k]!).1,(H[k]!).2.1)/\0<=(H[k]!).2.2.1/\(H[k]!).2.2.1<=1000000/\(∀j,j<k->(H[j]!).2.2.1≠(H[k]!).2.2.1)/\(0<k-> ¬OL H[k]! H[(k-1) / 2]!<0)
theorem eZ.of {a:aJ} (fit:yT a) (so:fj a.af) (wl:(aig a.ar)=aig a.af.aB) (hl:(aig a.bv)+aig a.af.bi=aig a.af.aB) (wh: ∀i,i<aig a.af.aB->Gz a i) (hp: ∀k,k<aig a.bv->HG a.bv k):eZ a:=by
 have ev: ∀w,w<aig a.bv->pQ a.bv[w]!:=fun w hw=>⟨(hp w hw).1,fit.OK w hw,(hp w hw).2.1,(hp w hw).2.2.1⟩
 refine ⟨so,wl,hl,fun i hi=>(wh i hi).1,fun i hi=>(wh i hi).2,ev,fun v w hv hw=>(hp w hw).2.2.2.1 v hv,fun k k0 hk=>?_⟩;have:=(hp k hk).2.2.2.2 k0;unfold OL at this;rw [ls ⟨(hp k hk).1,(hp ((k-1) / 2) (by omega)).1⟩,Cf] at this;exact this
theorem eZ.to {a:aJ} (ok:eZ a):(∀i,i<aig a.af.aB->Gz a i)/\(∀k,k<aig a.bv->HG a.bv k):=by refine ⟨fun i hi=>⟨ok.fwd i hi,ok.un i hi⟩,fun k hk=>?_⟩;have e:=ok.ev k hk;refine ⟨e.1,e.2.2.1,e.2.2.2,fun j hj=>ok.nd j k hj hk,fun k0=>?_⟩;unfold OL;rw [ls ⟨e.1,(ok.ev ((k-1) / 2) (by omega)).1⟩,Cf];exact ok.ord k k0 hk
theorem IH (H:List Ev) (k:Nat) (n:Int):oH [n] ((H.take k).map fun x=>[x.2.2.1])=ajh:=by unfold oH;rw [List.all_eq_true];intro x hx;obtain ⟨y,hy,rfl⟩:=UV.1 hx;rfl
theorem II (H:List Ev) (k:Nat) (n:Int):Eg ((H.take k).map fun x=>[x.2.2.1]) [n]=ajj (∃j,j<k/\j<aig H/\(H[j]!).2.2.1=n):=by
 unfold Eg;rw [Bool.eq_iff_iff,List.any_eq_true,decide_eq_true_iff];constructor
 · rintro ⟨x,hx,he⟩
   obtain ⟨y,hy,rfl⟩:=UV.1 hx;obtain ⟨j,h1,h2,rfl⟩:=cw.1 hy;have:[n]=[(H[j]!).2.2.1]:=by simpa using he
   exact ⟨j,h1,h2,by injection this with h;exact h.symm⟩
 rintro ⟨j,h1,h2,h3⟩
 refine ⟨[(H[j]!).2.2.1],UV.2 ⟨H[j]!,cw.2 ⟨j,h1,h2,rfl⟩,rfl⟩,?_⟩;rw [h3];simp
theorem Kc (H:List Ev) (u fr W:List Int) (us:List Bool) (hl:(aig H)<=1000000) (kS: ∀w,w<aig H->lM ((H[w]!).1,(H[w]!).2.1)):
 ((∀k,k<aig H->HG H k)->ay jd (H,((aig H):Int),0,u,us,fr,H,W,[])=ajg (.done 0))/\(¬(∀k,k<aig H->HG H k)->ay jd (H,((aig H):Int),0,u,us,fr,H,W,[])=ajg (.done 8)):=by
 have key:=dy (body:=jd) (fun k=>(H,((aig H):Int),(k:Int),u,us,fr,H,W,(H.take k).map fun x=>[x.2.2.1])) (aig H) (fun k=> ¬HG H k) (r:= .done 8) (e:= .done 0) (fun k hk=>by
  have e1:ajj ((k:Int)<((aig H):Int))=ajh:=aE (by omega);have ins: ∀n:Int,¬(∃j,j<k/\j<aig H/\(H[j]!).2.2.1=n)->Ls ((H.take k).map fun x=>[x.2.2.1]) [n]=ajg (((H.take k).map fun x=>[x.2.2.1])++[[n]]):=by intro n hn;unfold Ls NK;rw [IH,II,aC hn];rfl
  have has: ∀n:Int,Lr ((H.take k).map fun x=>[x.2.2.1]) [n]=ajg (ajj (∃j,j<k/\j<aig H/\(H[j]!).2.2.1=n)):=by intro n;unfold Lr;rw [IH,II];rfl
  have nx:(H.take (k+1)).map (fun x=>[x.2.2.1])=((H.take k).map fun x=>[x.2.2.1])++[[(H[k]!).2.2.1]]:=by rw [gI hk,List.map_append];rfl
  unfold jd;simp only [e1,lc,ax H k hk,aj,dZ (kS k hk),aV (show k<1000000000 by omega),has,nx];unfold HG
  by_cases b1:bK ((H[k]!).1,(H[k]!).2.1)
  case neg=>rw [lw b1];exact ⟨fun _=>rfl,fun h=>absurd (rc.1 h).1 b1⟩
  rw [ls b1]
  by_cases b2:(H[k]!).2.2.1<0
  · rw [aE b2]
    exact ⟨fun _=>rfl,fun h=>absurd (rc.1 h).2.1 (by omega)⟩
  by_cases b3:1000000<(H[k]!).2.2.1
  · rw [aC b2,aE b3]
    exact ⟨fun _=>rfl,fun h=>absurd (rc.1 h).2.2.1 (by omega)⟩
  rw [aC b2,aC b3]
  by_cases b4: ∃j,j<k/\j<aig H/\(H[j]!).2.2.1=(H[k]!).2.2.1
  · rw [aE b4]
    refine ⟨fun _=>rfl,fun h=>?_⟩;obtain ⟨j,j1,j2,j3⟩:=b4;exact absurd j3 ((rc.1 h).2.2.2.1 j j1)
  rw [aC b4,ins _ b4];have b4': ∀j,j<k->(H[j]!).2.2.1≠(H[k]!).2.2.1:=fun j hj he=>b4 ⟨j,hj,by omega,he⟩
  simp only [show ((0:Int) !=0)=aji from rfl,lm,aj]
  by_cases b5:0<k
  · obtain ⟨m,rfl⟩: ∃m,k=m+1:=⟨k-1,by omega⟩
    have f1:ajj ((0:Int)<((m+1:Nat):Int))=ajh:=aE (by omega);simp only [f1,lc,rF (show m<1000000000 by omega),ax H (m / 2) (by omega),aj,Bb (kS (m+1) hk) (kS (m / 2) (by omega)),show (m+1-1) / 2=m / 2 by omega]
    by_cases b6:OL H[m+1]! H[m / 2]!<0
    · rw [aE b6]
      exact ⟨fun _=>rfl,fun h=>absurd b6 ((rc.1 h).2.2.2.2 (by omega))⟩
    rw [aC b6]
    exact ⟨fun h=>absurd ⟨b1,by omega,by omega,b4',fun _=>b6⟩ h,fun _=>rfl⟩
  · have f1:ajj ((0:Int)<(k:Int))=aji:=aC (by omega)
    rw [f1];exact ⟨fun h=>absurd ⟨b1,by omega,by omega,b4',fun h=>absurd h b5⟩ h,fun _=>rfl⟩) (by
  unfold jd;have:ajj (((aig H):Int)<((aig H):Int))=aji:=aC (by omega);simp only [this,lm])
 constructor
 · intro h
   exact key.2 fun i hi=>rc.2 (h i hi)
 intro h
 obtain ⟨i,h⟩:=Do.1 h;obtain ⟨hi,hx⟩:=adz.1 h;exact key.1 ⟨i,hi,hx⟩
end Go.Proofs.YtbgoiokedpjgbaaGreat
